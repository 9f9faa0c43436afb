/- Part 7 of a proof. No conditions. -/
import Derived.Test.YtefgedeiipggkaaGreatDoorLx6
import Derived.Laws.MathBits
set_option maxRecDepth 100000
set_option linter.unusedVariables false
set_option linter.unusedSimpArgs false
namespace Go.Dx
open Go.IntKind (i64 u64 u8)
open Go.Sx Go.Proofs
variable (H:Nat) (G:be) (S:Int) (s0:ByteArray) (R:Int) (T:Nat) (O:be) (W U Q:Int) (n5:Nat) (q:be) (x5 x6:Int) (n7:Nat) (f7:be) (Z Y:Int) (b8:Bool) (n9:Nat) (f9:be) (x9 Ps:Int) (RS:Bool) (Pq:Nat) (Pp:be) (Pr Px:Int) (QE:Nat) (Q3:be) (QH:Nat) (Q5:be) (Py QS:Int) (RJ:ByteArray) (QM QK QZ Qk Qw Qm Qn Qo Qq Sn:Int)
noncomputable section
theorem ym {f:Nat->Int} {t:Int} {n:Nat} (hm:∀ a b,a<b->b<n->f a<f b):∀ d i j:Nat,j-i<=d->i<=j->j<=n->(∀ a,a<i->f a<t)->(∀ a,j<=a->a<n->t<=f a) ->
 (Fl f t d i j<=n/\∀a,a<n->(f a<t↔a<Fl f t d i j))
 |0,i,j,hd,UH,hj,M,N=>by
   have:i=j:=by omega
   subst this;refine⟨hj,λa ha=>⟨λh=>?_,λh=>M a h⟩⟩;have e:Fl f t 0 i i=i:=rfl;rw[e];rcases Fa a i with Pw|Pw
   ·exact Pw
   ·have:=N a Pw ha;omega
 |d+1,i,j,hd,UH,hj,M,N=>by
   unfold Fl;cases hb:Nat.blt i j with
   |false=>
     have hn:¬i<j:=λh=>by rw[Nat.blt_eq.mpr h]at hb;cases hb
     have:i=j:=by omega
     subst this;refine⟨hj,λa ha=>⟨λh=>?_,λh=>M a h⟩⟩;show a<i;rcases Fa a i with Pw|Pw
     ·exact Pw
     ·have:=N a Pw ha;omega
   |true=>
     have Q7:i<j:=Nat.blt_eq.mp hb;show(bif decide (f ((i+j) / 2)<t) then Fl f t d ((i+j) / 2+1) j else Fl f t d i ((i+j) / 2))<=n/\∀a,a<n->(f a<t↔a<(bif decide (f ((i+j) / 2)<t) then Fl f t d ((i+j) / 2+1) j else Fl f t d i ((i+j) / 2)));by_cases hc:f ((i+j) / 2)<t
     ·rw [BX hc]
      refine ym hm d _ j K K hj (λa ha=>?_) N;rcases Fa a ((i+j) / 2) with Pw|Pw
      ·have:=hm a _ Pw K;omega
      ·have:a=(i+j) / 2:=by omega
       subst this;exact hc
     ·rw [eQ hc]
      refine ym hm d i _ K K K M (λa ha hn=>?_);rcases Fa ((i+j) / 2) a with Pw|Pw
      ·have:=hm _ a Pw hn;omega
      ·have:a=(i+j) / 2:=by omega
       subst this;omega
theorem grR {p:Nat->Bool} {r:Nat}:∀ k,(∀ a,a<k->(p a=true↔a<r))->Mt p k=min (r-1) (k-1)
 |0,_=>by unfold Mt;omega
 |k+1,h=>by
   have ih:=grR (p:=p) (r:=r) k (λa ha=>h a K);have hk:=h k K;unfold Mt;cases hp:p k with
   |true=>have:=hk.1 hp;show k=_;omega
   |false=>
     have:¬k<r:=λPw=>by rw[hk.2 Pw]at hp;cases hp
     show Mt p k=_;rw[ih];omega
theorem adz {n:Nat} {f:Nat->Int} (h:∀ i,i+1<n->f i<f (i+1)):∀ a b,a<b->b<n->f a<f b
 |a,0,Sl,_=>absurd Sl (HG a)
 |a,b+1,Sl,hb=>by
   have M:=h b hb;rcases Nat.lt_succ_iff_lt_or_eq.1 Sl with Pw|Pw
   ·have:=adz h a b Pw K;omega
   ·subst Pw;exact M
section
variable {n:Nat} {f:be} {QR:Int} (u:qQ n f) (hn:2<=n/\n<=12) (hH:1<=QR/\QR<=30000)
include u hn hH
theorem Ku (i:Nat) (hi:i<n):E (av (f i)*QR)=av (f i)*QR/\-150000000<=av (f i)*QR/\av (f i)*QR<=150000000:=by have _:=hn;have r:=u.r i hi;have M:av (f i)*QR<=5000*QR:=Gk r.2 K;have N:(-5000)*QR<=av (f i)*QR:=Gk r.1 K;exact⟨C8 K K,K,K⟩
theorem ic15 (i:Nat) (hi:i+1<n):E (av (f i)*QR)<E (av (f (i+1))*QR):=by rw[(Ku u hn hH i K).1,(Ku u hn hH (i+1) hi).1];exact Int.mul_lt_mul_of_pos_right (u.u i hi) K
theorem h10 {x:Int} (hx:-200000000<=x/\x<=200000000):aY n (D L (D L (dJ f QR))) x=aS n (D L f) x QR:=by
 have hb:=ym (f:=λk=>E (av (f k)*QR)) (t:=x+1) (n:=n) (adz (ic15 u hn hH)) n 0 n K K (D7 _) (λa ha=>absurd ha (HG a)) (λa M N=>by omega);have e:IA n (D L (D L (D L (dJ f QR)))) (x+1)=Fl (λk=>E (av (f k)*QR)) (x+1) n 0 n:=rfl;have c:=grR (p:=λi=>decide (E (av (f i)*QR)<=x)) (r:=Fl (λk=>E (av (f k)*QR)) (x+1) n 0 n) (n-1) (λa ha=>by
  rw[← hb.2 a K];constructor
  ·intro h;have:=DU h;omega
  ·intro h;exact BX K)
 unfold aY aS jV;rw[C8 (x:=x+1) K K,e,show(λi=>decide (E (av (D L f i)*QR)<=x))=λi=>decide (E (av (f i)*QR)<=x) from rfl,c];have M:=hb.1;rw[C8 (x:=(n:Int)-2) K K,C8 K K];omega
theorem adZ (i:Nat) (hi:i+1<n):E (E (av (f (i+1))*QR)-E (av (f i)*QR))=E (E (av (f (i+1))-av (f i))*QR):=by have r0:=u.r i K;have r1:=u.r (i+1) hi;rw[(Ku u hn hH i K).1,(Ku u hn hH (i+1) hi).1,C8 (x:=av (f (i+1))-av (f i)) K K,Int.sub_mul]
end
theorem Ge (n:Nat) (f:be) (m:Nat) (g:be) (a b QR:Int):bz n (D L (dJ f QR)) m (D L (dJ g QR)) a b=fR n f m g a b QR:=by unfold bz fR aw;show(bif(bif decide (E (av (f 0)*QR)<=a) then decide (a<=E (av (f (E ((n:Int)-1)).toNat)*QR)) else false) then(bif decide (E (av (g 0)*QR)<=b) then decide (b<=E (av (g (E ((m:Int)-1)).toNat)*QR)) else false) else false)=_;generalize decide (E (av (f 0)*QR)<=a)=p;generalize decide (a<=E (av (f (E ((n:Int)-1)).toNat)*QR))=Pw;cases p<;>cases Pw<;>rfl
section
variable {x y a b v QR:Int} (h:E (E (b*QR)-E (a*QR))=E (E (b-a)*QR))
include x y a b v QR h
theorem aok:mo x y (E (a*QR)) (E (b*QR)) v=dU (d4 x y a b v QR) (cS a b QR):=by unfold mo d4 cS;rw[h];rfl
theorem att:mq x y (E (a*QR)) (E (b*QR)) v=eP (d4 x y a b v QR) (cS a b QR):=by unfold mq d4 cS;rw[h];rfl
end
section
variable {n:Nat} {f:be} {m:Nat} {g:be} {w:be} {QR:Int} (hu:qQ n f) (hv:qQ m g) (hn:2<=n/\n<=12) (hm:2<=m/\m<=12) (hH:1<=QR/\QR<=30000)
include hu hv hn hm hH
theorem aoI {a b side:Int} (ha:-200000000<=a/\a<=200000000) (hb:-200000000<=b/\b<=200000000) :
 bn w n (D L (dJ f QR)) m (D L (dJ g QR)) a b=ij n f m g w a b QR /\
 bo w side n (D L (dJ f QR)) m (D L (dJ g QR)) a b=hU n f m g w side a b QR:=by
 unfold bn bo ij hU;rw[h10 hu hn hH ha,h10 hv hm hH hb];have e:bz n (D L (D L (dJ f QR))) m (D L (D L (dJ g QR))) a b=fR n (D L f) m (D L g) a b QR:=Ge n f m g a b QR;rw[e];have p:=eZ (D L f) a QR (n:=n) K;have Pw:=eZ (D L g) b QR (n:=m) K;revert p Pw;generalize aS n (D L f) a QR=i;generalize aS m (D L g) b QR=k;intro p Pw;rw[show E (i+0)=i from by rw[Int.add_zero];exact C8 K K,show E (i+E (0+1))=i+1 from(show E (i+1)=i+1 from C8 K K),show E (i+1)=i+1 from C8 K K,show E (k+1)=k+1 from C8 K K];have di:=adZ hu hn hH i.toNat K;have dk:=adZ hv hm hH k.toNat K;rw[show i.toNat+1=(i+1).toNat from by omega]at di;rw[show k.toNat+1=(k+1).toNat from by omega]at dk;cases fR n (D L f) m (D L g) a b QR with
 |false=>simp only[HK,cond_true,and_self]
 |true=>
   simp only[HM,cond_false];refine⟨?_,?_⟩
   ·refine (aok di).trans ?_
    have r:∀j:Int,ml j (D [Ty.sl L] w) (D L (D L (dJ g QR))) k b=dU (d4 (av (bL (aA (w j.toNat)) k.toNat)) (av (bL (aA (w j.toNat)) (k+1).toNat)) (av (g k.toNat)) (av (g (k+1).toNat)) b QR) (cS (av (g k.toNat)) (av (g (k+1).toNat)) QR):=λj=>by unfold ml;rw[show E (k+1)=k+1 from C8 K K];exact aok dk
    rw[r i,r (i+1)]
   ·refine (att di).trans ?_
    have r:∀j:Int,mu j (D [Ty.sl L] w) (D L (D L (dJ g QR))) k b=eP (d4 (av (bL (aA (w j.toNat)) k.toNat)) (av (bL (aA (w j.toNat)) (k+1).toNat)) (av (g k.toNat)) (av (g (k+1).toNat)) b QR) (cS (av (g k.toNat)) (av (g (k+1).toNat)) QR):=λj=>by unfold mu;rw[show E (k+1)=k+1 from C8 K K];exact att dk
    rw[r i,r (i+1)]
end
theorem Cz {n:Nat} {f:be} {x y QR a:Int}:a∈ba n f x y QR↔Mz n (D L (dJ f QR)) (E (1000*x)) (E (1000*y)) a:=by
 unfold ba Mz;rw[afd];have e:∀j,av (D L (dJ f QR) j)=E (av (f j)*QR):=λj=>rfl;simp only[e];constructor
 ·rintro (h|h|⟨j,hj,M,N⟩)
  ·exact .inl h
  ·exact .inr (.inl h)
  ·have N:a=E (av (f j)*QR):=N
   by_cases ha:a=E (1000*x)
   ·exact .inl ha
   ·by_cases hb:a=E (1000*y)
    ·exact .inr (.inl hb)
    ·refine .inr (.inr ⟨j,hj,?_,N⟩)
     have Pw:(bif decide (E (1000*x)<=E (av (f j)*QR)) then decide (E (av (f j)*QR)<=E (1000*y)) else false)=true:=M;cases c:decide (E (1000*x)<=E (av (f j)*QR)) with
     |false=>rw[c]at Pw;cases Pw
     |true=>rw[c]at Pw;have c:=DU c;have Pw:decide (E (av (f j)*QR)<=E (1000*y))=true:=Pw;have Pw:=DU Pw;unfold C1;rw[BX (show E (1000*x)<E (av (f j)*QR) from by omega)];exact BX K
 ·rintro (h|h|⟨j,hj,M,N⟩)
  ·exact .inl h
  ·exact .inr (.inl h)
  ·refine .inr (.inr ⟨j,hj,?_,N⟩)
   unfold C1 at M;unfold Fo;cases c:decide (E (1000*x)<E (av (f j)*QR)) with
   |false=>rw[c]at M;cases M
   |true=>rw[c]at M;have M:decide (E (av (f j)*QR)<E (1000*y))=true:=M;have M:=DU M;have c:=DU c;rw[BX (show E (1000*x)<=E (av (f j)*QR) from by omega)];exact BX K
section
variable (n:Nat) (f:be) (x y QR:Int)
include n f x y QR
theorem arO:av (je (ba n f x y QR) 0)=E (1000*x):=by unfold ba;obtain⟨t,e⟩:=Gs (Fo f (E (1000*x)) (E (1000*y)) QR) (λi=>E (av (f i)*QR)) (E (1000*x)) (E (1000*y)) n;rw[e];rfl
theorem asx:av (je (ba n f x y QR) 1)=E (1000*y):=by unfold ba;obtain⟨t,e⟩:=Gs (Fo f (E (1000*x)) (E (1000*y)) QR) (λi=>E (av (f i)*QR)) (E (1000*x)) (E (1000*y)) n;rw[e];rfl
theorem fc7:2<=(ba n f x y QR).length:=(qB ..).1
end
section
variable {n:Nat} {f:be} {m:Nat} {g w:be} {s:Int}
include n f m g w s
theorem uK {x9 Ps Pr Px QR u v:Int} :
 zb n (D L (dJ f QR)) m (D L (dJ g QR)) (E (1000*x9)) (E (1000*Ps)) (E (1000*Pr)) (E (1000*Px)) u v↔vD n f m g w s x9 Ps Pr Px QR u v:=by
 have end_:∀ {n:Nat} {f:be} {x y u:Int},u=E (1000*x)∨u=E (1000*y)->∃ i,i<=1/\u=av (je (ba n f x y QR) i):=λ{n f x y u} h=>by
  rcases h with h|h
  ·exact⟨0,K,h.trans (arO n f x y QR).symm⟩
  ·exact⟨1,K,h.trans (asx n f x y QR).symm⟩
 have l1:=fc7 n f x9 Ps QR;have l2:=fc7 m g Pr Px QR;constructor
 ·rintro (⟨M,N⟩|⟨M,N,h3⟩)
  ·obtain⟨i,hi,e1⟩:=end_ (n:=n) (f:=f) M;obtain⟨k,hk,e2⟩:=end_ (n:=m) (f:=g) N;exact⟨i,k,K,K,aup _ _ _ _ _ _ _ _ _ _ _ hi hk,e1,e2⟩
  ·obtain⟨i,hi,e1⟩:=wJ.1 (Cz.2 M);obtain⟨k,hk,e2⟩:=wJ.1 (Cz.2 N);rw[Ge]at h3;subst e1;subst e2;exact⟨i,k,hi,hk,ahW _ _ _ _ _ _ _ _ _ _ _ h3,rfl,rfl⟩
 ·rintro ⟨i,k,hi,hk,h,e1,e2⟩
  rcases iu6 _ _ _ _ _ _ _ _ _ _ _ h with h|⟨M,N⟩
  ·subst e1;subst e2;exact .inr ⟨Cz.1 (wJ.2 ⟨i,hi,rfl⟩),Cz.1 (wJ.2 ⟨k,hk,rfl⟩),by rw[Ge];exact h⟩
  ·have low:∀ {n:Nat} {f:be} {x y:Int} {i:Nat},i<=1->av (je (ba n f x y QR) i)=E (1000*x)∨av (je (ba n f x y QR) i)=E (1000*y):=λ{n f x y i} h=>by
    rcases Fa i 1 with Pw|Pw
    ·rw[show i=0 by omega];exact .inl (arO ..)
    ·rw[show i=1 by omega];exact .inr (asx ..)
   subst e1;subst e2;exact .inl ⟨low M,low N⟩
theorem aet {a c d e QR:Int} (hu:qQ n f) (hv:qQ m g) (hn:2<=n/\n<=12) (hm:2<=m/\m<=12) (hH:1<=QR/\QR<=30000)
 (M:-200000<=a/\a<=200000) (N:-200000<=c/\c<=200000) (h3:-200000<=d/\d<=200000) (h4:-200000<=e/\e<=200000) :
 (jF w s n (D L (dJ f QR)) m (D L (dJ g QR)) a c d e,jG w s n (D L (dJ f QR)) m (D L (dJ g QR)) a c d e)=(jK n f m g w s a c d e QR,jP n f m g w s a c d e QR):=by
 have rng:∀ {n:Nat} {f:be} {x y u:Int},(-200000<=x/\x<=200000)->(-200000<=y/\y<=200000)->Mz n f (E (1000*x)) (E (1000*y)) u->-200000000<=u/\u<=200000000:=λ{n f x y u} hx hy h=>by
  unfold Mz at h;rw[C8 (x:=1000*x) K K,C8 (x:=1000*y) K K]at h;rcases h with h|h|⟨j,_,hb,e⟩
  ·omega
  ·omega
  ·unfold C1 at hb
   cases c:decide (1000*x<av (f j)) with
   |false=>rw[c]at hb;cases hb
   |true=>rw[c]at hb;have hb:decide (av (f j)<1000*y)=true:=hb;have:=DU hb;have:=DU c;omega
 have pt:∀ {p Pw},vD n f m g w s a c d e QR p Pw->_:=λ{p Pw} z=>by
  have z:=uK.2 z;have hp:Mz n (D L (dJ f QR)) (E (1000*a)) (E (1000*c)) p/\Mz m (D L (dJ g QR)) (E (1000*d)) (E (1000*e)) Pw:=by
   rcases z with ⟨k1,k2⟩|⟨k1,k2,_⟩
   ·exact⟨k1.elim .inl (λz=>.inr (.inl z)),k2.elim .inl (λz=>.inr (.inl z))⟩
   ·exact⟨k1,k2⟩
  exact aoI (w:=w) (side:=s) hu hv hn hm hH (rng M N hp.1) (rng h3 h4 hp.2)
 have Qa:=ahK w s n (D L (dJ f QR)) m (D L (dJ g QR)) (E (1000*a)) (E (1000*c)) (E (1000*d)) (E (1000*e));have B:=sl0 n f m g w s a c d e QR;refine as6 (Q1:=vD n f m g w s a c d e QR) (g0:=λp Pw=>ij n f m g w p Pw QR) (g1:=λp Pw=>hU n f m g w s p Pw QR) ?_ (λp Pw z=>?_) B.1 B.2
 ·obtain⟨⟨p,Pw,z,e1⟩,⟨p',q',z',e2⟩⟩:=Qa;exact⟨⟨p,Pw,uK.1 z,(pt (uK.1 z)).1.symm.trans e1⟩,⟨p',q',uK.1 z',(pt (uK.1 z')).2.symm.trans e2⟩⟩
 ·have k:=aiu w s n _ m _ (uK.2 z);exact⟨by have:=k.1;rw[(pt z).1]at this;exact this,by have:=k.2;rw[(pt z).2]at this;exact this⟩
end
theorem rdY {x:List V} {a c d e QR:Int} (t:qU x) (u:qQ (aB (aA (I x))) (bL (aA (I x)))) (v:qQ (aB (aA (I (I x)))) (bL (aA (I (I x))))) (hH:1<=QR/\QR<=30000)
 (M:-200000<=a/\a<=200000) (N:-200000<=c/\c<=200000) (h3:-200000<=d/\d<=200000) (h4:-200000<=e/\e<=200000):acw x a c d e QR=ack x a c d e QR/\abp x a c d e QR=adW x a c d e QR :=
 have k:=aet (w:=zE x) (s:=cu x) u v t.u t.v hH M N h3 h4
 ⟨congrArg Prod.fst k,congrArg Prod.snd k⟩
theorem ags (a b c d h:Int):gL a b c d h=fi a b c d h:=by unfold gL fi;rw[qD];rw[show(dw 4 λi=>aG (av (D L (b5 [A a,A b,A c,A d] 0 1) i)) (-200000) 200000)=((((true&&dV a)&&dV b)&&dV c)&&dV d) from rfl,show aw h 1 30000=aG h 1 30000 from rfl];generalize dV a=p;generalize dV b=Pw;generalize dV c=r;generalize dV d=s;cases p<;>cases Pw<;>cases r<;>cases s<;>rfl
theorem Lb {b:Bool} {z:Int} (h:(bif !!b then z else 7)=0):b=true/\z=0:=by
 cases b with
 |true=>exact⟨rfl,h⟩|false=>cases h
theorem awo {a b c d h:Int} (e:fi a b c d h=0):(1<=h/\h<=30000)/\(-200000<=a/\a<=200000)/\(-200000<=b/\b<=200000)/\(-200000<=c/\c<=200000)/\(-200000<=d/\d<=200000):=by unfold fi at e;obtain⟨M,e⟩:=Lb e;obtain⟨N,e⟩:=Lb e;obtain⟨h3,e⟩:=Lb e;obtain⟨h4,e⟩:=Lb e;obtain⟨h5,_⟩:=lQ e aR;exact⟨zB M,zB N,zB h3,zB h4,zB (EF h5)⟩
theorem avB {H:Nat} {G:be} {T:Nat} {O:be} {Q:Int} (h:cU H G T O Q=0) :
 (b7 H (D ap G) T (D B4 O)!=0)=false/\(!aw Q 0 (E ((T:Int)-1)))=false:=by
 unfold cU at h;cases e:(b7 H (D ap G) T (D B4 O)!=0) with
 |true=>rw[e]at h;have h:b7 H (D ap G) T (D B4 O)=0:=h;rw[h]at e;cases e
 |false=>
   rw[e]at h;cases hh:(!aw Q 0 (E ((T:Int)-1))) with
   |true=>rw[hh]at h;cases h|false=>exact⟨rfl,rfl⟩
theorem ic4 (ts:List Ty) (f:be):D ts (D ts f)=D ts f:=funext λi=>d9 ts (f i)
section
variable (H:Nat) (G:be) (T:Nat) (O:be) (Q x5 x6 Z Y x9 Ps Pr Px:Int)
theorem ahD:Fq H G T O Q x5 x6 Z Y x9 Ps Pr Px=Oy H G T O Q x5 x6 Z Y x9 Ps Pr Px:=by unfold Fq Oy;rw[ic5,← ne1,← ags];cases jc x5 x6 Z<;>rfl
theorem np9 (h:Fq H (D ap G) T (D B4 O) Q x5 x6 Z Y x9 Ps Pr Px=0) :
 PW H (D ap G) T (D B4 O) Q x5 x6 Z Y x9 Ps Pr Px=Ob H (D ap G) T (D B4 O) Q x5 x6 Z Y x9 Ps Pr Px /\
 PV H (D ap G) T (D B4 O) Q x5 x6 Z Y x9 Ps Pr Px=OZ H (D ap G) T (D B4 O) Q x5 x6 Z Y x9 Ps Pr Px:=by
 have M:cU H (D ap G) T (D B4 O) Q=0/\gL Y x9 Ps Pr Px=0:=by
  unfold Fq at h;cases e:cU H (D ap G) T (D B4 O) Q==0 with
  |true=>
    rw[e]at h;refine⟨EM e,?_⟩;cases k:jc x5 x6 Z with
    |true=>rw[k]at h;cases h|false=>rw[k]at h;exact h
  |false=>rw[e]at h;have h:cU H (D ap G) T (D B4 O) Q=0:=h;rw[h]at e;cases e
 obtain⟨hl,hr⟩:=M;have hb:=arI hl;have l0:=avB hl;rw[ags]at hr;have r:=awo hr;have w:=hb.2;rw[ic4]at w;have t:=FK w;have u:=O2 w;have Pw:=rdY t u.1 u.2 r.1 r.2.1 r.2.2.1 r.2.2.2.1 r.2.2.2.2;have a1:bZ H (D ap G) T (D B4 O) Q=aP (D B4 O Q.toNat):=by unfold bZ;rw[l0.1,l0.2];rfl
 have a3:jS H (D ap G) T (D B4 O) Q=bf (D B4 O Q.toNat):=by unfold jS;rw[l0.1,l0.2];rfl
 have id3:IL H (D ap G) T (D B4 O) Q=bE (I (I (D B4 O Q.toNat))):=by unfold IL;rw[l0.1,l0.2];rfl
 have id4:mj H (D ap G) T (D B4 O) Q=bE (I (I (I (D B4 O Q.toNat)))):=by unfold mj;rw[l0.1,l0.2];rfl
 have a9:mH H (D ap G) T (D B4 O) Q=bE (I (I (I (I (D B4 O Q.toNat))))):=by unfold mH;rw[l0.1,l0.2];rfl
 have a10:kh H (D ap G) T (D B4 O) Q=bE (I (I (I (I (I (D B4 O Q.toNat)))))):=by unfold kh;rw[l0.1,l0.2];rfl
 unfold PW PV Ob OZ;rw[Pw.1,Pw.2,a1,a3,id3,id4,a9,a10,To,hpm];exact⟨rfl,rfl⟩
theorem hco:gJ H (D ap G) T (D B4 O) Q x5 x6 Z Y x9 Ps Pr Px=jE H (D ap G) T (D B4 O) Q x5 x6 Z Y x9 Ps Pr Px /\
 gF H (D ap G) T (D B4 O) Q x5 x6 Z Y x9 Ps Pr Px=jQ H (D ap G) T (D B4 O) Q x5 x6 Z Y x9 Ps Pr Px /\
 ik H (D ap G) T (D B4 O) Q x5 x6 Z Y x9 Ps Pr Px=mN H (D ap G) T (D B4 O) Q x5 x6 Z Y x9 Ps Pr Px:=by
 have e:=ahD H (D ap G) T (D B4 O) Q x5 x6 Z Y x9 Ps Pr Px;unfold gJ gF ik jE jQ mN;cases h:Fq H (D ap G) T (D B4 O) Q x5 x6 Z Y x9 Ps Pr Px==0 with
 |true=>have Pw:=np9 H G T O Q x5 x6 Z Y x9 Ps Pr Px (EM h);rw[← e,h,Pw.1,Pw.2];exact⟨rfl,rfl,rfl⟩
 |false=>rw[← e,h];exact⟨rfl,rfl,rfl⟩
end
def Jf:bm:=(60,.con aa2)::PU
theorem Hf:aZ Tryz.prog Bs C3 Jf:=.con ajF (cvB)
def aat:RT Empty:=dm (Q,n5,q,n7,f7,n9,f9,Pq,Pp,RJ,QZ) (.ob (dI Py QE) (.ob (dI Py QH) (.obp ((((-1000:Int)<=Qk/\Qk<=(1000:Int))/\((-1000:Int)<=Qw/\Qw<=(1000:Int))/\(Qk≠(0:Int)∨Qw≠(0:Int)))/\((-400000000:Int)<=QM/\QM<=(400000000:Int))/\((-400000000:Int)<=QK/\QK<=(400000000:Int))/\((-400000000:Int)<=Qm/\Qm<=(400000000:Int))/\((-400000000:Int)<=Qn/\Qn<=(400000000:Int))/\((-400000000:Int)<=Qo/\Qo<=(400000000:Int))/\(-400000000:Int)<=Qq/\Qq<=(400000000:Int)) (.obt (.obp ((aD H G)/\aD T O) (.obt (.ret (V.agg [A (gJ H (D ap G) T (D B4 O) (av (Q3 Py.toNat)) (av (Q5 Py.toNat)) (aP (Q5 Py.toNat)) (bV (Q5 Py.toNat)) (jC QM QK Qk Qw Qm Qn Qo Qq) (jH QM QK Qk Qw Qm Qn Qo Qq) (jN QM QK Qk Qw Qm Qn Qo Qq) (jO QM QK Qk Qw Qm Qn Qo Qq) Sn),A (gF H (D ap G) T (D B4 O) (av (Q3 Py.toNat)) (av (Q5 Py.toNat)) (aP (Q5 Py.toNat)) (bV (Q5 Py.toNat)) (jC QM QK Qk Qw Qm Qn Qo Qq) (jH QM QK Qk Qw Qm Qn Qo Qq) (jN QM QK Qk Qw Qm Qn Qo Qq) (jO QM QK Qk Qw Qm Qn Qo Qq) Sn)]))))))))
theorem jf8:cY cZ (aQ JJ Jf u0 A3 [V.agg [V.sl H (D ap G),V.sl T (D B4 O),A Q,V.sl n5 (D bd q),V.sl n7 (D bq f7),V.sl n9 (D bu f9),V.sl Pq (D aV Pp),V.sl QE (D L Q3),V.sl QH (D cI Q5),A Py,V.str RJ,A QM,A QK,A QZ,A Qk,A Qw],V.agg [A Qm,A Qn,A Qo,A Qq],A Sn]) (aat H G T O Q n5 q n7 f7 n9 f9 Pq Pp QE Q3 QH Q5 Py RJ QM QK QZ Qk Qw Qm Qn Qo Qq Sn):=bD
def y5 (O Q3 Q5:be) (i cx cy dx dy a b c d h:Int):Int:=jE H G T O (av (Q3 i.toNat)) (av (Q5 i.toNat)) (aP (Q5 i.toNat)) (bV (Q5 i.toNat)) (jC cx cy dx dy a b c d) (jH cx cy dx dy a b c d) (jN cx cy dx dy a b c d) (jO cx cy dx dy a b c d) h
def zr (O Q3 Q5:be) (i cx cy dx dy a b c d h:Int):Int:=jQ H G T O (av (Q3 i.toNat)) (av (Q5 i.toNat)) (aP (Q5 i.toNat)) (bV (Q5 i.toNat)) (jC cx cy dx dy a b c d) (jH cx cy dx dy a b c d) (jN cx cy dx dy a b c d) (jO cx cy dx dy a b c d) h
theorem akM (H:Nat) (G:be) (T:Nat) (O:be) (Q:Int) (n5:Nat) (q:be) (n7:Nat) (f7:be) (n9:Nat) (f9:be) (Pq:Nat) (Pp:be) (QE:Nat) (Q3:be) (QH:Nat) (Q5:be) (Py:Int) (RJ:ByteArray) (QM QK QZ Qk Qw Qm Qn Qo Qq Sn:Int) (hp:(0<=Py/\Py<(QE:Int))/\(0<=Py/\Py<(QH:Int))/\(aD H (D ap G)/\aD T (D B4 O))/\Hd Qk Qw/\jp QM/\jp QK/\jp Qm/\jp Qn/\jp Qo/\jp Qq):aT cM (aat H G T O Q n5 q n7 f7 n9 f9 Pq Pp QE Q3 QH Q5 Py RJ QM QK QZ Qk Qw Qm Qn Qo Qq Sn) (.agg [A (y5 H (D ap G) T (D B4 O) (D L Q3) (D cI Q5) Py QM QK Qk Qw Qm Qn Qo Qq Sn),A (zr H (D ap G) T (D B4 O) (D L Q3) (D cI Q5) Py QM QK Qk Qw Qm Qn Qo Qq Sn)]):=by obtain⟨h0,M,hz,hd,hc⟩:=hp;refine aF (BX h0) (aF (BX M) (aI ⟨hd,hc⟩ (ac (aI hz (ac ?_)))));rw[(hco ..).1,(hco ..).2.1];exact B5 rfl
def aay:aE:=bP [.agg [.sl ap,.sl B4,tI,.sl bd,.sl bq,.sl bu,.sl aV,.sl L,.sl cI,tI,.str,tI,tI,tI,tI,tI],.agg gV,tI] (λ
 |[.agg [.sl H G,.sl T O,.int _ Q,.sl n5 q,.sl n7 f7,.sl n9 f9,.sl Pq Pp,.sl QE Q3,.sl QH Q5,.int _ Py,.str RJ,.int _ QM,.int _ QK,.int _ QZ,.int _ Qk,.int _ Qw],.agg [.int _ Qm,.int _ Qn,.int _ Qo,.int _ Qq],.int _ Sn]=>(0<=Py/\Py<(QE:Int))/\(0<=Py/\Py<(QH:Int))/\(aD H G/\aD T O)/\Hd Qk Qw/\jp QM/\jp QK/\jp Qm/\jp Qn/\jp Qo/\jp Qq|_=>False) λ
 |[.agg [.sl H G,.sl T O,.int _ Q,.sl n5 q,.sl n7 f7,.sl n9 f9,.sl Pq Pp,.sl QE Q3,.sl QH Q5,.int _ Py,.str RJ,.int _ QM,.int _ QK,.int _ QZ,.int _ Qk,.int _ Qw],.agg [.int _ Qm,.int _ Qn,.int _ Qo,.int _ Qq],.int _ Sn]=>.agg [A (y5 H G T O Q3 Q5 Py QM QK Qk Qw Qm Qn Qo Qq Sn),A (zr H G T O Q3 Q5 Py QM QK Qk Qw Qm Qn Qo Qq Sn)]|_=>.any
theorem afE:b9 aay 27:=aU Hf λ_ hp=>da (jf8 ..) (akM _ _ _ _ _ _ _ _ _ _ _ _ _ _ _ _ _ _ _ _ _ _ _ _ _ _ _ _ _ hp)
def aax:RT Empty:=dm (Q,n5,q,n7,f7,n9,f9) (.ob (dI Py QE) (.ob (dI Py QH) (.ob (dI Py Pq) (.obp ((E9 (E ((1000000:Int)*E (E (cu (Pp Py.toNat)*cu (Pp Py.toNat))+E (bE (Pp Py.toNat)*bE (Pp Py.toNat)))))=(0:Int)->False)/\(dL (E ((1000000:Int)*E (E (cu (Pp Py.toNat)*cu (Pp Py.toNat))+E (bE (Pp Py.toNat)*bE (Pp Py.toNat)))))=(0:Int)->False)) (.obt (.obp ((aD H G)/\aD T O) (.obt (.ret (V.agg [A (jE H (D ap G) T (D B4 O) (av (Q3 Py.toNat)) (av (Q5 Py.toNat)) (aP (Q5 Py.toNat)) (bV (Q5 Py.toNat)) (jC (aP (Pp Py.toNat)) (bV (Pp Py.toNat)) (cu (Pp Py.toNat)) (bE (Pp Py.toNat)) QS QM QK QZ) (jH (aP (Pp Py.toNat)) (bV (Pp Py.toNat)) (cu (Pp Py.toNat)) (bE (Pp Py.toNat)) QS QM QK QZ) (jN (aP (Pp Py.toNat)) (bV (Pp Py.toNat)) (cu (Pp Py.toNat)) (bE (Pp Py.toNat)) QS QM QK QZ) (jO (aP (Pp Py.toNat)) (bV (Pp Py.toNat)) (cu (Pp Py.toNat)) (bE (Pp Py.toNat)) QS QM QK QZ) Qk),A (jQ H (D ap G) T (D B4 O) (av (Q3 Py.toNat)) (av (Q5 Py.toNat)) (aP (Q5 Py.toNat)) (bV (Q5 Py.toNat)) (jC (aP (Pp Py.toNat)) (bV (Pp Py.toNat)) (cu (Pp Py.toNat)) (bE (Pp Py.toNat)) QS QM QK QZ) (jH (aP (Pp Py.toNat)) (bV (Pp Py.toNat)) (cu (Pp Py.toNat)) (bE (Pp Py.toNat)) QS QM QK QZ) (jN (aP (Pp Py.toNat)) (bV (Pp Py.toNat)) (cu (Pp Py.toNat)) (bE (Pp Py.toNat)) QS QM QK QZ) (jO (aP (Pp Py.toNat)) (bV (Pp Py.toNat)) (cu (Pp Py.toNat)) (bE (Pp Py.toNat)) QS QM QK QZ) Qk)])))))))))
theorem hsl0:cY cZ (aQ JJ Jf u0 aiL [V.agg [V.sl H (D ap G),V.sl T (D B4 O),A Q,V.sl n5 (D bd q),V.sl n7 (D bq f7),V.sl n9 (D bu f9),V.sl Pq (D aV Pp),V.sl QE (D L Q3),V.sl QH (D cI Q5)],A Py,V.agg [A QS,A QM,A QK,A QZ],A Qk]) (aax H G T O Q n5 q n7 f7 n9 f9 Pq Pp QE Q3 QH Q5 Py QS QM QK QZ Qk):=bD
theorem ahg (H:Nat) (G:be) (T:Nat) (O:be) (Q:Int) (n5:Nat) (q:be) (n7:Nat) (f7:be) (n9:Nat) (f9:be) (Pq:Nat) (Pp:be) (QE:Nat) (Q3:be) (QH:Nat) (Q5:be) (Py QS QM QK QZ Qk:Int) (hp:(0<=Py/\Py<(QE:Int))/\(0<=Py/\Py<(QH:Int))/\(0<=Py/\Py<(Pq:Int))/\(aD H (D ap G)/\aD T (D B4 O))/\Ke (E (E (cu (((D aV Pp) Py.toNat))*cu (((D aV Pp) Py.toNat)))+E (bE (((D aV Pp) Py.toNat))*bE (((D aV Pp) Py.toNat)))))):aT cM (aax H G T O Q n5 q n7 f7 n9 f9 Pq Pp QE Q3 QH Q5 Py QS QM QK QZ Qk) (.agg [A (y5 H (D ap G) T (D B4 O) (D L Q3) (D cI Q5) Py (aP (((D aV Pp) Py.toNat))) (bV (((D aV Pp) Py.toNat))) (cu (((D aV Pp) Py.toNat))) (bE (((D aV Pp) Py.toNat))) QS QM QK QZ Qk),A (zr H (D ap G) T (D B4 O) (D L Q3) (D cI Q5) Py (aP (((D aV Pp) Py.toNat))) (bV (((D aV Pp) Py.toNat))) (cu (((D aV Pp) Py.toNat))) (bE (((D aV Pp) Py.toNat))) QS QM QK QZ Qk)]):=by obtain⟨h0,M,N,hz,hr⟩:=hp;exact aF (BX h0) (aF (BX M) (aF (BX N) (aI hr (ac (aI hz (ac (B5 rfl)))))))
def aaD:aE:=bP [.agg [.sl ap,.sl B4,tI,.sl bd,.sl bq,.sl bu,.sl aV,.sl L,.sl cI],tI,.agg gV,tI] (λ
 |[.agg [.sl H G,.sl T O,.int _ Q,.sl n5 q,.sl n7 f7,.sl n9 f9,.sl Pq Pp,.sl QE Q3,.sl QH Q5],.int _ Py,.agg [.int _ QS,.int _ QM,.int _ QK,.int _ QZ],.int _ Qk]=>(0<=Py/\Py<(QE:Int))/\(0<=Py/\Py<(QH:Int))/\(0<=Py/\Py<(Pq:Int))/\(aD H G/\aD T O)/\Ke (E (E (cu ((Pp Py.toNat))*cu ((Pp Py.toNat)))+E (bE ((Pp Py.toNat))*bE ((Pp Py.toNat)))))|_=>False) λ
 |[.agg [.sl H G,.sl T O,.int _ Q,.sl n5 q,.sl n7 f7,.sl n9 f9,.sl Pq Pp,.sl QE Q3,.sl QH Q5],.int _ Py,.agg [.int _ QS,.int _ QM,.int _ QK,.int _ QZ],.int _ Qk]=>.agg [A (y5 H G T O Q3 Q5 Py (aP ((Pp Py.toNat))) (bV ((Pp Py.toNat))) (cu ((Pp Py.toNat))) (bE ((Pp Py.toNat))) QS QM QK QZ Qk),A (zr H G T O Q3 Q5 Py (aP ((Pp Py.toNat))) (bV ((Pp Py.toNat))) (cu ((Pp Py.toNat))) (bE ((Pp Py.toNat))) QS QM QK QZ Qk)]|_=>.any
theorem ahi:b9 aaD 36:=aU Hf λ_ hp=>da (hsl0 ..) (ahg _ _ _ _ _ _ _ _ _ _ _ _ _ _ _ _ _ _ _ _ _ _ _ hp)
def ayA (cx cy h vx vy dx dy:Int):Prop:=(-100000<=cx/\cx<=100000)/\(-100000<=cy/\cy<=100000)/\(1<=h/\h<=200)/\(-100000<=vx/\vx<=100000)/\(-100000<=vy/\vy<=100000)/\Hd dx dy
theorem arF:dO=fm:=rfl
theorem arK:eC=gG:=rfl
theorem asP {a b:Int} {Qa B:Nat} (h:a.natAbs<=Qa) (k:b.natAbs<=B):(a*b).natAbs<=Qa*B:=by rw[Int.natAbs_mul];exact GL h k
theorem fz13 (b:Int):0<=b*b:=by
 rcases Int.le_total 0 b with h|h
 ·exact mn h h
 ·exact Int.mul_nonneg_of_nonpos_of_nonpos h h
section
variable {cx cy h vx vy dx dy:Int} (o:ayA cx cy h vx vy dx dy)
include o
end
end
noncomputable section
def EI (p:Nat->Bool) (v:Nat->Int):Nat->Int
 |0=>0|k+1=>bif p k then E (EI p v k+v k) else EI p v k
theorem A9 {p:Nat->Bool} {v:Nat->Int} {k:Nat} (h:p k=true):EI p v (k+1)=E (EI p v k+v k):=by show(bif p k then _ else _)=_;rw[h];rfl
theorem BW {p:Nat->Bool} {v:Nat->Int} {k:Nat} (h:p k=false):EI p v (k+1)=EI p v k:=by show(bif p k then _ else _)=_;rw[h];rfl
def Jl (i:Nat):Bool:=decide (0<=av (Q3 i))
end
noncomputable section
theorem F9 {e z a b:Int} (h:e=z) (h0:z≠0):dq (V.tup [V.agg [A 0,A 0],A z])=dq (V.tup [V.agg [A (zC e a),A (zC e b)],A e]):=by subst h;unfold zC;rw[show(e==0)=false from by simpa using h0];rfl
theorem NE {x:Int} (h:(x !=0)=true):x≠0:=by simpa using h
theorem aaX {e a b:Int} (h:e=0):dq (V.tup [V.agg [A a,A b],A 0])=dq (V.tup [V.agg [A (zC e a),A (zC e b)],A e]):=by subst h;rfl
def Ub:bm:=(25,.inl hcl u0)::(27,.con aay)::(36,.con aaD)::Jf
theorem yaY:aZ Tryz.prog Bs C3 Ub:=iq Tryz.func25 bw (.con afE (.con ahi (Hf)))
def adf:RT Empty:=dm (H,G,T,O,Q,n5,q,n7,f7,n9,f9,Pq,Pp,QE,Q3,QH,Q5,Py,RJ,QZ,Qk,Qw) (.cb (.cb (.ret (V.tup [A (E (od (E (Qm-QM)) (E (Qo-QM))+od (E (Qn-QK)) (E (Qq-QK)))),A (E (oI (E (Qm-QM)) (E (Qo-QM))+oI (E (Qn-QK)) (E (Qq-QK))))]))))
theorem ix8:cY cZ (aQ JJ Ub u0 fa2 [V.agg [V.sl H (D ap G),V.sl T (D B4 O),A Q,V.sl n5 (D bd q),V.sl n7 (D bq f7),V.sl n9 (D bu f9),V.sl Pq (D aV Pp),V.sl QE (D L Q3),V.sl QH (D cI Q5),A Py,V.str RJ,A QM,A QK,A QZ,A Qk,A Qw],V.agg [A Qm,A Qn,A Qo,A Qq]]) (adf H G T O Q n5 q n7 f7 n9 f9 Pq Pp QE Q3 QH Q5 Py RJ QM QK QZ Qk Qw Qm Qn Qo Qq):=bD
def anP:Int:=E (od (E (Qm-QM)) (E (Qo-QM))+od (E (Qn-QK)) (E (Qq-QK)))
def auB:Int:=E (oI (E (Qm-QM)) (E (Qo-QM))+oI (E (Qn-QK)) (E (Qq-QK)))
def ND:V:=dm (H,G,T,O,Q,n5,q,n7,f7,n9,f9,Pq,Pp,QE,Q3,QH,Q5,Py,RJ,QZ,Qk,Qw) (.tup [A (anP QM QK Qm Qn Qo Qq),A (auB QM QK Qm Qn Qo Qq)])
theorem akh:aT cM (adf H G T O Q n5 q n7 f7 n9 f9 Pq Pp QE Q3 QH Q5 Py RJ QM QK QZ Qk Qw Qm Qn Qo Qq) (ND H G T O Q n5 q n7 f7 n9 f9 Pq Pp QE Q3 QH Q5 Py RJ QM QK QZ Qk Qw Qm Qn Qo Qq):=ao (ac (ao (ac (B5 (by unfold ND anP auB;rfl)))))
def aau:aE:=bP [.agg [.sl ap,.sl B4,tI,.sl bd,.sl bq,.sl bu,.sl aV,.sl L,.sl cI,tI,.str,tI,tI,tI,tI,tI],.agg gV] (λ_=>True) λ|[.agg [.sl H G,.sl T O,.int _ Q,.sl n5 q,.sl n7 f7,.sl n9 f9,.sl Pq Pp,.sl QE Q3,.sl QH Q5,.int _ Py,.str RJ,.int _ QM,.int _ QK,.int _ QZ,.int _ Qk,.int _ Qw],.agg [.int _ Qm,.int _ Qn,.int _ Qo,.int _ Qq]]=>ND H G T O Q n5 q n7 f7 n9 f9 Pq Pp QE Q3 QH Q5 Py RJ QM QK QZ Qk Qw Qm Qn Qo Qq|_=>.any
theorem ajZ:b9 aau 28:=aU yaY λ_ hp=>da (ix8 ..) (akh _ _ _ _ _ _ _ _ _ _ _ _ _ _ _ _ _ _ _ _ _ _ _ _ _ _ _ _)
def DN:bm:=Nn
theorem CI:aZ Tryz.prog Bs C3 DN:=Nc
def aqL:RT Empty:=.br (S !=W) (.ret (A (E (S-W)))) (.ret (A (E (R-U))))
theorem afa:cY cZ (aQ JJ DN u0 aqi [V.agg [A S,A R],V.agg [A W,A U]]) (aqL S R W U):=bD
def rP:Int:=bif S !=W then E (S-W) else E (R-U)
def X4:V:=A (rP S R W U)
theorem anm:aT cM (aqL S R W U) (X4 S R W U):=C2 (λh0=>B5 (by unfold X4 rP;try rw[h0];rfl)) (λh0=>B5 (by unfold X4 rP;try rw[h0];rfl))
def aru:aE:=bP [.agg aM,.agg aM] (λ_=>True) λ|[.agg [.int _ S,.int _ R],.agg [.int _ W,.int _ U]]=>X4 S R W U|_=>.any
theorem anV:b9 aru 199:=aU CI λ_ hp=>da (afa ..) (anm _ _ _ _)
def m49:RT Empty:=.obi (.br (!b8) (.ob (!b8) (.ob (!b8) (.ob (!b8) (.cb (.cb (.cb (.ret (V.bool (kt (ci S W x9 U) (cj R W Ps U) (ci S W x9 Q) (cj R W Ps Q) x5 x6 Z))))))))) (.ret (V.kb false)))
theorem atL:cY cZ (aQ JJ DN u0 ayc [V.agg [A S,A R,A W,A U,A Q,A x5,A x6,A Z,V.bool b8],V.agg [A x9,A Ps]]) (m49 S R W U Q x5 x6 Z b8 x9 Ps):=bD
def yR:Bool:=bif !b8 then kt (ci S W x9 U) (cj R W Ps U) (ci S W x9 Q) (cj R W Ps Q) x5 x6 Z else false
def Kg:V:=.bool (yR S R W U Q x5 x6 Z b8 x9 Ps)
theorem avM:aT cM (m49 S R W U Q x5 x6 Z b8 x9 Ps) (Kg S R W U Q x5 x6 Z b8 x9 Ps):=B1 (C2 (λh0=>aF (by first|assumption|(fail)) (aF (by first|assumption|(fail)) (aF (by first|assumption|(fail)) (ao (ac (ao (ac (ao (ac (B5 (by unfold Kg yR;try rw[h0];rfl))))))))))) (λh0=>B5 (by unfold Kg yR;try rw[h0];rfl)))
def C49:aE:=bP [.agg [tI,tI,tI,tI,tI,tI,tI,tI,.bool],.agg aM] (λ_=>True) λ|[.agg [.int _ S,.int _ R,.int _ W,.int _ U,.int _ Q,.int _ x5,.int _ x6,.int _ Z,.bool b8],.agg [.int _ x9,.int _ Ps]]=>Kg S R W U Q x5 x6 Z b8 x9 Ps|_=>.any
theorem avd:b9 C49 104:=aU CI λ_ hp=>da (atL ..) (avM _ _ _ _ _ _ _ _ _ _ _)
def m52:RT Empty:=dm (s0,Q,x5) (.cb (.cb (.br (fL U x9) (.ob (fL U x9) (.ob (fL U x9) (.ob (fL U x9) (.cb (.cb (.ob (fL U x9) (.cb (.ret (V.bool (lG (cE U x6) (cG U Z) (eE R U Pr (cD U Ps)) (er W U Px (cD U Ps)) (eE R U Pr (cH U x9)) (er W U Px (cH U x9)) (dc U Y))))))))))) (.ret (V.kb false)))))
theorem aqK:cY cZ (aQ JJ DN u0 axH [V.agg [V.str s0,A R,A W,A U,A Q,A x5],V.agg [A x6,A Z,A Y,A x9,A Ps],V.agg [A Pr,A Px]]) (m52 s0 R W U Q x5 x6 Z Y x9 Ps Pr Px):=bD
def fe:Bool:=bif fL U x9 then lG (cE U x6) (cG U Z) (eE R U Pr (cD U Ps)) (er W U Px (cD U Ps)) (eE R U Pr (cH U x9)) (er W U Px (cH U x9)) (dc U Y) else false
def Kj:V:=dm (s0,Q,x5) (.bool (fe R W U x6 Z Y x9 Ps Pr Px))
theorem avV:aT cM (m52 s0 R W U Q x5 x6 Z Y x9 Ps Pr Px) (Kj s0 R W U Q x5 x6 Z Y x9 Ps Pr Px):=ao (ac (ao (ac (C2 (λh0=>aF (by first|assumption|(fail)) (aF (by first|assumption|(fail)) (aF (by first|assumption|(fail)) (ao (ac (ao (ac (aF (by first|assumption|(fail)) (ao (ac (B5 (by unfold Kj fe;try rw[h0];rfl)))))))))))) (λh0=>B5 (by unfold Kj fe;try rw[h0];rfl))))))
def C52:aE:=bP [.agg aV,.agg bq,.agg aM] (λ_=>True) λ|[.agg [.str s0,.int _ R,.int _ W,.int _ U,.int _ Q,.int _ x5],.agg [.int _ x6,.int _ Z,.int _ Y,.int _ x9,.int _ Ps],.agg [.int _ Pr,.int _ Px]]=>Kj s0 R W U Q x5 x6 Z Y x9 Ps Pr Px|_=>.any
theorem ayx:b9 C52 120:=aU CI λ_ hp=>da (aqK ..) (avV _ _ _ _ _ _ _ _ _ _ _ _ _)
def fz25:l8:=λ_=>5
def FN:bm:=(199,.con aru)::(104,.con C49)::(120,.con C52)::DN
theorem aiE:aZ Tryz.prog Bs C3 FN:=.con anV (.con avd (.con ayx (CI)))
def m56:RT Empty:=.cb (.ret (V.bool !yR W U Q x5 x6 Z Y x9 RS S R))
theorem anj:cY cZ (aQ JJ FN u0 ayT [V.agg [A S,A R],V.pd [A W,A U,A Q,A x5,A x6,A Z,A Y,A x9,V.bool RS]]) (m56 S R W U Q x5 x6 Z Y x9 RS):=bD
def HE:Bool:=!yR W U Q x5 x6 Z Y x9 RS S R
def ML:V:=.bool (HE S R W U Q x5 x6 Z Y x9 RS)
theorem ayz:aT cM (m56 S R W U Q x5 x6 Z Y x9 RS) (ML S R W U Q x5 x6 Z Y x9 RS):=ao (ac (B5 (by unfold ML HE;rfl)))
def C56:aE:=bP [.agg aM,.pd [tI,tI,tI,tI,tI,tI,tI,tI,.bool]] (λ_=>True) λ|[.agg [.int _ S,.int _ R],.pd [.int _ W,.int _ U,.int _ Q,.int _ x5,.int _ x6,.int _ Z,.int _ Y,.int _ x9,.bool RS]]=>ML S R W U Q x5 x6 Z Y x9 RS|_=>.any
theorem aya:b9 C56 103:=aU aiE λ_ hp=>da (anj ..) (ayz _ _ _ _ _ _ _ _ _ _ _)
end
end Go.Dx
namespace Go.Dx
open Go.IntKind (i64 u64 u8)
open Go.Sx Go.Proofs
variable (H:Nat) (G:be) (W U Q x5 x6 Z Y x9:Int) (RS:Bool)
noncomputable section
def BU:bm:=(103,.con C56)::FN
theorem afQ:aZ Tryz.prog Bs C3 BU:=.con aya (aiE)
inductive Ep where|L0 (_:Int)
def afD:Ep->bS×List Ax×Option Ex
 |.L0 Pt=>([(8,A Pt),(7,A (H:Int)),(6,V.sl H (D aM G)),(4,A 0),(0,V.sl H (D aM G)),(1,V.fn 103 [] [V.pd [A W,A U,A Q,A x5,A x6,A Z,A Y,A x9,V.bool RS]])],[],none)
def aqp:Ep->JJ
 |.L0 _=>(0,[])
def ac3:Bh (cq JJ):=aQ JJ BU u0 aoe [V.sl H (D aM G),V.fn 103 [] [V.pd [A W,A U,A Q,A x5,A x6,A Z,A Y,A x9,V.bool RS]]]
def awI (cx:List Cx):Lp JJ:=eX (eJ (ac3 H G W U Q x5 x6 Z Y x9 RS) [])
def asS:JJ->Lp JJ
 |(0,cx)=>awI H G W U Q x5 x6 Z Y x9 RS cx|(_,cx)=>awI H G W U Q x5 x6 Z Y x9 RS cx
def awR:LD JJ Ep:=⟨aqp,asS H G W U Q x5 x6 Z Y x9 RS,afD H G W U Q x5 x6 Z Y x9 RS⟩
def PL:Ep->RT Ep
 |.L0 Pt=>.br (decide (Pt<(H:Int))) (.ob (decide (0<=Pt/\Pt<(H:Int))) (.cb (.br (HE (av (G Pt.toNat)) (aP (G Pt.toNat)) W U Q x5 x6 Z Y x9 RS) (.ret (A Pt)) (.next [] (Ep.L0 (E (Pt+1))) [])))) (.ret (A (-1)))
def NN:RT Ep:=dm (G,W,U,Q,x5,x6,Z,Y,x9,RS) (.am H (.enter [] (Ep.L0 0) []))
theorem ahJ:dZ BU u0 (awR H G W U Q x5 x6 Z Y x9 RS) (ac3 H G W U Q x5 x6 Z Y x9 RS) (NN H G W U Q x5 x6 Z Y x9 RS) (PL H G W U Q x5 x6 Z Y x9 RS):=⟨bD,λs=>by cases s<;>exact bD⟩
def Mh:Int  :=zG H λii=>HE (av (G ii)) (aP (G ii)) W U Q x5 x6 Z Y x9 RS
theorem jcm:aT (Ev (PL H G W U Q x5 x6 Z Y x9 RS)) (NN H G W U Q x5 x6 Z Y x9 RS) (A (Mh H G W U Q x5 x6 Z Y x9 RS)):=bC λhn=>aH (pQ hn λi=>rfl)
theorem asB:aT (Ev (PL H G W U Q x5 x6 Z Y x9 RS)) (NN H G W U Q x5 x6 Z Y x9 RS) (A (Mh H (D aM G) W U Q x5 x6 Z Y x9 RS)):=jcm H G W U Q x5 x6 Z Y x9 RS
def at6:aE:=bP [.sl aM,.fn 103 [] [.pd [tI,tI,tI,tI,tI,tI,tI,tI,.bool]]] (λ_=>True) λ|[.sl H G,.fn _ [] [.pd [.int _ W,.int _ U,.int _ Q,.int _ x5,.int _ x6,.int _ Z,.int _ Y,.int _ x9,.bool RS]]]=>A (Mh H G W U Q x5 x6 Z Y x9 RS)|_=>.any
theorem aqX:b9 at6 154:=aU afQ λ_ hp=>kr (ahJ ..) (asB _ _ _ _ _ _ _ _ _ _ _)
def Al:bm:=(154,.con at6)::(242,.inl aqn u0)::BU
theorem Ht:aZ Tryz.prog Bs C3 Al:=.con aqX (iq Tryz.func242 bw (afQ))
def m55:RT Empty:=.cb (.ret (V.bool (decide (0<=Mh H (D aM G) W U Q x5 x6 Z Y x9 RS))))
theorem ata:cY cZ (aQ JJ Al u0 awF [V.sl H (D aM G),V.fn 103 [] [V.pd [A W,A U,A Q,A x5,A x6,A Z,A Y,A x9,V.bool RS]]]) (m55 H G W U Q x5 x6 Z Y x9 RS):=bD
def Dk:Bool:=decide (0<=Mh H (D aM G) W U Q x5 x6 Z Y x9 RS)
def MK:V:=.bool (Dk H G W U Q x5 x6 Z Y x9 RS)
theorem axO:aT cM (m55 H G W U Q x5 x6 Z Y x9 RS) (MK H G W U Q x5 x6 Z Y x9 RS):=ao (ac (B5 (by unfold MK Dk;rfl)))
def C55:aE:=bP [.sl aM,.fn 103 [] [.pd [tI,tI,tI,tI,tI,tI,tI,tI,.bool]]] (λ_=>True) λ|[.sl H G,.fn _ [] [.pd [.int _ W,.int _ U,.int _ Q,.int _ x5,.int _ x6,.int _ Z,.int _ Y,.int _ x9,.bool RS]]]=>MK H G W U Q x5 x6 Z Y x9 RS|_=>.any
theorem ayo:b9 C55 102:=aU Ht λ_ hp=>da (ata ..) (axO _ _ _ _ _ _ _ _ _ _ _)
def apA:List V->Prop
 |[.int _ x]=>x=8|_=>False
def axP:aE:=bP [.int .u64] apA λ_=>A 4
theorem axd {w0:World}:bT (dN w0 (SV Al)) (aQ JJ Al u0 aaT [.int .u64 8]) (rD (A 4)):=zx bw
theorem arU:(vP axP).Ok Tryz.prog 226:=PE (un:=u0) Ht Tryz.func226 bw λds hp=>by have T8:av ds=8:=hp;intro hd w0;show bT _ (aQ JJ Al u0 aaT [.int .u64 (av ds)]) _;rw[T8];exact axd
def aqd:List V->Bool
 |[.int _ x]=>decide (x=8)|_=>false
def acq:aE:=sn [.int .u64] aqd λ_=>A 4
theorem aeq:(vP acq).Ok Tryz.prog 226:=mO (pre:=apA) (λds h=>by
 unfold aqd at h;split at h
 ·rename_i x;exact(show x=8 from DU h)
 ·cases h) arU
end
end Go.Dx
namespace Go.Dx
noncomputable section
theorem adA {ts:List Ty} (h:ts.all cw=true) {n:Nat} {p:Nat->Bool} {ds:List V} {f:be} (M:yj ts n f) (hf:mG [] (al ts ds) ds=al ts ds):yj ts n λi=>cond (p i) ds (f i):=λi hi=>by
 show nX _ (al ts (cond (p i) ds (f i)))=true/\fI [] (cond (p i) ds (f i)) (al ts (cond (p i) ds (f i)));cases p i with
 |true=>exact⟨lf h _,gT _ _ hf⟩|false=>exact M i hi
end
end Go.Dx
namespace Go.Dx
open Go.IntKind (i64 u64 u8)
open Go.Sx
noncomputable section
theorem j9 {x:Int} (M:0<=x) (N:x<18446744073709551616):u64.wrap x=x:=IntWalk.u64_in _ K
theorem mW {x y Qa B:Int} (M:-Qa<=x) (N:x<=Qa) (h3:-B<=y) (h4:y<=B):-(Qa*B)<=x*y/\x*y<=Qa*B:=by
 have hA:0<=Qa:=by omega
 have hB:0<=B:=by omega
 by_cases hy:0<=y
 ·have a1:x*y<=Qa*y:=Gk N hy;have a2:Qa*y<=Qa*B:=Iq h4 hA;have a3:-Qa*y<=x*y:=Gk M hy;rw[Int.neg_mul]at a3;exact⟨K,K⟩
 ·have hy':0<=-y:=by omega
  have a1:x*(-y)<=Qa*(-y):=Gk N hy';have a2:Qa*(-y)<=Qa*B:=Iq K hA;have a3:-Qa*(-y)<=x*(-y):=Gk M hy';have b1:x*(-y)=-(x*y):=Int.mul_neg _ _;have b3:-Qa*(-y)=-(Qa*(-y)):=Int.neg_mul _ _;exact⟨K,K⟩
theorem Jp (x:Int):0<=x*x:=by
 by_cases h:0<=x
 ·exact mn h h
 ·rw[← Int.neg_mul_neg];exact mn K K
theorem parts {x:Int} (h0:0<=x) (M:x<18446744073709551616):0<=x / 4294967296/\x / 4294967296<=4294967295/\0<=x % 4294967296/\x % 4294967296<=4294967295:=by omega
theorem aty {x y:Int} (Ua:0<=x) (hx:x<18446744073709551616) (TB:0<=y) (hy:y<18446744073709551616):uS x y=x*y / 18446744073709551616:=by rw[← mul64_arith x y Ua hx TB hy];unfold uS;simp only[and_low32 _ Ua hx,and_low32 _ TB hy,IntKind.wrap_u64];rw[and_low32 _ K K];simp only[show(2:Int) ^ 32=4294967296 from rfl];rw[JD _ K,JD _ K,JD _ K,JD _ K,JD _ K]
theorem aqT (x y:Int):u9 x y=x*y % 18446744073709551616:=by unfold u9;rw[IntKind.wrap_u64]
theorem Bi {x y:Int} (Ua:0<=x) (hx:x<18446744073709551616) (TB:0<=y) (hy:y<18446744073709551616):mT x y=x*y / 18446744073709551616/\mY x y=x*y % 18446744073709551616:=by
 unfold mT mY;rw[j9 Ua hx,j9 TB hy];rw[IV Ua,IV TB,Ko Ua,Ko TB];have ex:x=x / 4294967296*4294967296+x % 4294967296:=by omega
 have ey:y=y / 4294967296*4294967296+y % 4294967296:=by omega
 generalize izb26:x / 4294967296=R at *
 generalize hx0':x % 4294967296=S at *
 generalize nza12:y / 4294967296=y1 at *
 generalize hy0':y % 4294967296=y0 at *
 have b1:0<=R/\R<=4294967295:=by omega
 have b2:0<=S/\S<=4294967295:=by omega
 have b3:0<=y1/\y1<=4294967295:=by omega
 have b4:0<=y0/\y0<=4294967295:=by omega
 have nza23:=prod_bound R y1 b1.1 b1.2 b3.1 b3.2;have nzb13:=prod_bound R y0 b1.1 b1.2 b4.1 b4.2;have nzb15:=prod_bound S y0 b2.1 b2.2 b4.1 b4.2;have nzb16:=prod_bound S y1 b2.1 b2.2 b3.1 b3.2;have nw11:x*y=R*y1*18446744073709551616+(R*y0+S*y1)*4294967296+S*y0:=by rw[ex,ey];exact split_mul R S y1 y0
 rw[nw11];rw[j9 b1.1 K,j9 b3.1 K];generalize R*y1=Qa at *
 generalize R*y0=B at *
 generalize S*y0=C at *
 generalize S*y1=Bf at *
 rw[j9 (x:=Qa) K K,j9 (x:=B) K K,j9 (x:=C) K K,j9 (x:=Bf) K K];rw[IV (a:=C) K,Ko (a:=C) K];rw[j9 (x:=C / 4294967296) K K];rw[j9 (x:=B+C / 4294967296) K K];rw[IV (a:=B+C / 4294967296) K,Ko (a:=B+C / 4294967296) K];rw[j9 (x:=(B+C / 4294967296) / 4294967296) K K];rw[j9 (x:=Bf+(B+C / 4294967296) % 4294967296) K K];rw[IV (a:=Bf+(B+C / 4294967296) % 4294967296) K];rw[j9 (x:=(Bf+(B+C / 4294967296) % 4294967296) / 4294967296) K K];simp only[IntKind.wrap_u64];constructor
 ·omega
 ·omega
section
variable {x y z w:Int} (Ua:0<=x) (hx:x<9223372036854775808) (TB:0<=y) (hy:y<9223372036854775808) (UL:0<=z) (hz:z<9223372036854775808) (YR:0<=w) (hw:w<9223372036854775808)
include x y z w Ua hx TB hy UL hz YR hw
theorem ib0 :
 uP (nZ x y) (oQ x y) (nZ z w) (oQ z w)=decide (x*y<=z*w):=by
 unfold nZ oQ uP;rw[j9 Ua K,j9 TB K,j9 UL K,j9 YR K];rw[aty Ua K TB K,aty UL K YR K,aqT,aqT];generalize x*y=a;generalize z*w=b;rw[HH];simp only[JN,K6,D2,Ek,E0];split<;>(try split)<;>(try split)<;>simp_all<;>omega
theorem sq0 :
 (!uZ (mT x y) (mY x y) (mT z w) (mY z w))=decide (x*y<=z*w):=by
 unfold uZ;rw[(Bi Ua K TB K).1,(Bi Ua K TB K).2,(Bi UL K YR K).1,(Bi UL K YR K).2];generalize x*y=a;generalize z*w=b;rw[HH];simp only[JN,G6,Ek,E0];split<;>(try split)<;>simp_all<;>omega
end
def nr (ax ay bx by' px py r:Int):Bool :=
 bif decide ((px-ax)*(bx-ax)+(py-ay)*(by'-ay)<=0) then decide ((px-ax)*(px-ax)+(py-ay)*(py-ay)<=r*r)
 else bif decide ((bx-ax)*(bx-ax)+(by'-ay)*(by'-ay)<=(px-ax)*(bx-ax)+(py-ay)*(by'-ay)) then decide ((px-bx)*(px-bx)+(py-by')*(py-by')<=r*r)
 else decide (((bx-ax)*(py-ay)-(by'-ay)*(px-ax))*((bx-ax)*(py-ay)-(by'-ay)*(px-ax))<=r*r*((bx-ax)*(bx-ax)+(by'-ay)*(by'-ay)))
def sm (x:Int):Prop:=-536870912<=x/\x<=536870912
theorem axT (c:Int):max c (0-c)*max c (0-c)=c*c:=by
 by_cases h:0<=c
 ·rw[show max c (0-c)=c from by omega]
 ·rw[show max c (0-c)=-c from by omega,Int.neg_mul_neg]
section
variable {ax ay bx by' px py r:Int}
section
variable (M:sm ax) (N:sm ay) (h3:sm bx) (h4:sm by') (h5:sm px) (h6:sm py) (h7:0<=r) (h8:r<=1073741824)
include M N h3 h4 h5 h6 h7 h8
theorem awi:kt ax ay bx by' px py r=nr ax ay bx by' px py r:=by
 unfold sm at *
 unfold kt nr bN bM;rw[C8 (x:=bx-ax) K K,C8 (x:=by'-ay) K K,C8 (x:=px-ax) K K,C8 (x:=py-ay) K K,C8 (x:=px-bx) K K,C8 (x:=py-by') K K];have e1:-1073741824<=bx-ax/\bx-ax<=1073741824:=by omega
 have e2:-1073741824<=by'-ay/\by'-ay<=1073741824:=by omega
 have e3:-1073741824<=px-ax/\px-ax<=1073741824:=by omega
 have e4:-1073741824<=py-ay/\py-ay<=1073741824:=by omega
 have e5:-1073741824<=px-bx/\px-bx<=1073741824:=by omega
 have e6:-1073741824<=py-by'/\py-by'<=1073741824:=by omega
 generalize bx-ax=dx at *
 generalize by'-ay=dy at *
 generalize px-ax=ux at *
 generalize py-ay=uy at *
 generalize px-bx=vx at *
 generalize py-by'=vy at *
 have k:∀a b c d:Int,(-1073741824<=a/\a<=1073741824)->(-1073741824<=b/\b<=1073741824)->(-1073741824<=c/\c<=1073741824)->(-1073741824<=d/\d<=1073741824)->jn a b c d=a*c+b*d/\-2305843009213693952<=a*c+b*d/\a*c+b*d<=2305843009213693952:=by intro a b c d ha hb hc hd;have m1:=mW ha.1 ha.2 hc.1 hc.2;have m2:=mW hb.1 hb.2 hd.1 hd.2;unfold jn;rw[C8 (x:=a*c) K K,C8 (x:=b*d) K K,C8 K K];exact⟨rfl,K,K⟩
 have hr:=mW (x:=r) (y:=r) (Qa:=1073741824) (B:=1073741824) K h8 K h8;have WM:0<=r*r:=mn h7 h7;have s1:0<=dx*dx:=Jp dx;have s2:0<=dy*dy:=Jp dy;rw[(k ux uy dx dy e3 e4 e1 e2).1,(k ux uy ux uy e3 e4 e3 e4).1,(k dx dy dx dy e1 e2 e1 e2).1,(k vx vy vx vy e5 e6 e5 e6).1,C8 (x:=r*r) K K];have c1:=mW e1.1 e1.2 e4.1 e4.2;have c2:=mW e2.1 e2.2 e3.1 e3.2;have d1:=mW e1.1 e1.2 e1.1 e1.2;have d2:=mW e2.1 e2.2 e2.1 e2.2;rw[show eu dx dy ux uy=dx*uy-dy*ux from by unfold eu;rw[C8 (x:=dx*uy) K K,C8 (x:=dy*ux) K K,C8 K K]];rw[C8 (x:=0-(dx*uy-dy*ux)) K K];rw[ib0 K K K K WM K K K,axT]
theorem axw:lG px py ax ay bx by' r=nr ax ay bx by' px py r:=by
 unfold sm at *
 unfold lG nr bG bH;rw[C8 (x:=bx-ax) K K,C8 (x:=by'-ay) K K,C8 (x:=px-ax) K K,C8 (x:=py-ay) K K,C8 (x:=px-bx) K K,C8 (x:=py-by') K K];have e1:-1073741824<=bx-ax/\bx-ax<=1073741824:=by omega
 have e2:-1073741824<=by'-ay/\by'-ay<=1073741824:=by omega
 have e3:-1073741824<=px-ax/\px-ax<=1073741824:=by omega
 have e4:-1073741824<=py-ay/\py-ay<=1073741824:=by omega
 have e5:-1073741824<=px-bx/\px-bx<=1073741824:=by omega
 have e6:-1073741824<=py-by'/\py-by'<=1073741824:=by omega
 generalize bx-ax=dx at *
 generalize by'-ay=dy at *
 generalize px-ax=ux at *
 generalize py-ay=uy at *
 generalize px-bx=vx at *
 generalize py-by'=vy at *
 have k:∀a b c d:Int,(-1073741824<=a/\a<=1073741824)->(-1073741824<=b/\b<=1073741824)->(-1073741824<=c/\c<=1073741824)->(-1073741824<=d/\d<=1073741824)->jl a b c d=a*c+b*d/\-2305843009213693952<=a*c+b*d/\a*c+b*d<=2305843009213693952:=by intro a b c d ha hb hc hd;have m1:=mW ha.1 ha.2 hc.1 hc.2;have m2:=mW hb.1 hb.2 hd.1 hd.2;unfold jl;rw[C8 (x:=a*c) K K,C8 (x:=b*d) K K,C8 K K];exact⟨rfl,K,K⟩
 have hr:=mW (x:=r) (y:=r) (Qa:=1073741824) (B:=1073741824) K h8 K h8;have WM:0<=r*r:=mn h7 h7;have s1:0<=dx*dx:=Jp dx;have s2:0<=dy*dy:=Jp dy;rw[(k ux uy dx dy e3 e4 e1 e2).1,(k ux uy ux uy e3 e4 e3 e4).1,(k dx dy dx dy e1 e2 e1 e2).1,(k vx vy vx vy e5 e6 e5 e6).1,C8 (x:=r*r) K K];have c1:=mW e1.1 e1.2 e4.1 e4.2;have c2:=mW e2.1 e2.2 e3.1 e3.2;have d1:=mW e1.1 e1.2 e1.1 e1.2;have d2:=mW e2.1 e2.2 e2.1 e2.2;rw[show fy dx dy ux uy=dx*uy-dy*ux from by unfold fy;rw[C8 (x:=dx*uy) K K,C8 (x:=dy*ux) K K,C8 K K]];unfold lP;rw[C8 (x:=0-(dx*uy-dy*ux)) K K];rw[sq0 K K K K WM K K K,axT]
end
theorem plR (h7:0<=r):nr ax ay bx by' px py r=nr bx by' ax ay px py r:=by
 unfold nr;have WM:0<=r*r:=mn h7 h7;have e1:(px-bx)*(ax-bx)+(py-by')*(ay-by')=((bx-ax)*(bx-ax)+(by'-ay)*(by'-ay))-((px-ax)*(bx-ax)+(py-ay)*(by'-ay)):=by grind
 have e2:(ax-bx)*(ax-bx)+(ay-by')*(ay-by')=(bx-ax)*(bx-ax)+(by'-ay)*(by'-ay):=by grind
 have e3:((ax-bx)*(py-by')-(ay-by')*(px-bx))=-((bx-ax)*(py-ay)-(by'-ay)*(px-ax)):=by grind
 rw[e1,e2,e3,Int.neg_mul_neg];have q1:0<=(bx-ax)*(bx-ax):=Jp _;have q2:0<=(by'-ay)*(by'-ay):=Jp _;by_cases hz:(bx-ax)*(bx-ax)+(by'-ay)*(by'-ay)=0
 ·-- one point
  have z1:bx-ax=0:=by
   have:(bx-ax)*(bx-ax)=0:=by omega
   rcases Int.mul_eq_zero.1 this with h|h<;>exact h
  have z2:by'-ay=0:=by
   have:(by'-ay)*(by'-ay)=0:=by omega
   rcases Int.mul_eq_zero.1 this with h|h<;>exact h
  have:bx=ax:=by omega
  have:by'=ay:=by omega
  subst bx by';simp
 ·have hf:0<(bx-ax)*(bx-ax)+(by'-ay)*(by'-ay):=by omega
  generalize (px-ax)*(bx-ax)+(py-ay)*(by'-ay)=t at *
  generalize (bx-ax)*(bx-ax)+(by'-ay)*(by'-ay)=f at *
  by_cases M:t<=0
  ·rw[BX M,cond_true];rw[eQ (show ¬f-t<=0 by omega),cond_false,BX (show f<=f-t by omega),cond_true]
  ·rw[eQ M,cond_false]
   by_cases N:f<=t
   ·rw[BX N,cond_true,BX (show f-t<=0 by omega),cond_true]
   ·rw[eQ N,cond_false,eQ (show ¬f-t<=0 by omega),cond_false,eQ (show ¬f<=f-t by omega),cond_false]
end
end
end Go.Dx
namespace Go.Dx
open Go.IntKind (i64 u64 u8)
noncomputable section
def sd (ax ay bx b2 px py:Int):Int:=(bx-ax)*(py-ay)-(b2-ay)*(px-ax)
end
end Go.Dx
namespace Go.Dx
open Go.IntKind (i64 u64 u8)
open Go.Sx
noncomputable section
theorem mI {a l h:Int} (hf:dC a l h=true):l<=a/\a<=h:=by
 unfold dC at hf;by_cases M:l<=a
 ·rw[BX M,cond_true]at hf;exact⟨M,DU hf⟩
 ·rw[eQ M]at hf;cases hf
theorem hw' {e i m:Int} (h:EH e i m=0):e=0/\0<=i/\i<m:=by
 unfold EH at h;cases he:e==0 with
 |false=>rw[he,cond_false]at h;rw[h]at he;cases he
 |true=>
   rw[he,cond_true]at h;refine⟨EM he,?_⟩;unfold Sa at h;by_cases M:i<0
   ·rw[BX M]at h;cases h
   ·rw[eQ M,cond_false]at h
    by_cases N:m<=i
    ·rw[BX N]at h;cases h
    ·omega
end
end Go.Dx
namespace Go.Dx
open Go.Sx
noncomputable section
section
variable {ax ay bx b2 px py r:Int}
theorem aqQ (M:sm ax) (N:sm ay) (h3:sm bx) (h4:sm b2) (h5:sm px) (h6:sm py):eu (bN bx ax) (bM b2 ay) (bN px ax) (bM py ay)=sd ax ay bx b2 px py/\-4611686018427387904<=sd ax ay bx b2 px py/\sd ax ay bx b2 px py<=4611686018427387904:=by
 unfold sm at *
 unfold sd eu bN bM;rw[C8 (x:=bx-ax) K K,C8 (x:=b2-ay) K K,C8 (x:=px-ax) K K,C8 (x:=py-ay) K K];have c1:=mW (x:=bx-ax) (y:=py-ay) (Qa:=1073741824) (B:=1073741824) K K K K;have c2:=mW (x:=b2-ay) (y:=px-ax) (Qa:=1073741824) (B:=1073741824) K K K K;rw[C8 (x:=(bx-ax)*(py-ay)) K K,C8 (x:=(b2-ay)*(px-ax)) K K,C8 K K];exact⟨rfl,K,K⟩
theorem aaE (n:Int):(fA n=0/\n=0)∨(fA n=1/\0<n)∨(fA n=-1/\n<0):=by unfold fA;omega
end
theorem R58 (a b c d:Int):yH a b c d=!H8 a b c d:=by
 unfold yH H8;rw[j7];generalize wh _ _=p;have e1:decide (c<a)=!decide (a<=c):=by by_cases h:a<=c<;>simp[h]<;>omega
 have e2:decide (d<b)=!decide (b<=d):=by by_cases h:b<=d<;>simp[h]<;>omega
 rw[e1,e2];generalize decide (a<=c)=Pw;generalize decide (b<=d)=u;cases p<;>cases Pw<;>cases u<;>rfl
theorem xA {a b c d:Int} (h:H8 a b c d=true):(-100000<=a/\a<=100000)/\(-100000<=b/\b<=100000)/\(-100000<=c/\c<=100000)/\(-100000<=d/\d<=100000)/\a<=c/\b<=d:=by
 unfold H8 at h;cases hp:wh 4 (D [Ty.int IntKind.i64] (b5 [V.int IntKind.i64 a,V.int IntKind.i64 b,V.int IntKind.i64 c,V.int IntKind.i64 d] 0 1)) with
 |false=>rw[hp]at h;cases h
 |true=>
   rw[hp,cond_true]at h;by_cases M:a<=c
   ·rw[JQ M,cond_true]at h;have N:=DU h;unfold wh at hp;exact⟨mI (dA hp 0 K),mI (dA hp 1 K),mI (dA hp 2 K),mI (dA hp 3 K),M,N⟩
   ·rw[decide_eq_false M]at h;cases h
theorem QL {x y:Int} (h:nY x y=true):(-100000<=x/\x<=100000)/\(-100000<=y/\y<=100000):=by unfold nY wh at h;exact⟨mI (dA h 0 K),mI (dA h 1 K)⟩
end
end Go.Dx
namespace Go.Dx
noncomputable section
theorem pj (x:Int):0<=x*x:=by
 rcases Int.le_total 0 x with h|h
 ·exact mn h h
 ·have:=mn (show 0<=-x by omega) (show 0<=-x by omega);rwa [Int.neg_mul_neg]at this
theorem p9 {k a b:Int} (hk:0<k) (h:k*a<=k*b):a<=b:=Int.le_of_mul_le_mul_left h hk
theorem tt {k a b:Int} (hk:0<k) (h:k*k*a<=k*k*b):a<=b:=p9 (I6 hk hk) h
def q2 (x y:Int):Int:=x*x+y*y
theorem O3 (x y:Int):0<=q2 x y:=by unfold q2;have:=pj x;have:=pj y;omega
theorem y9 (k x y:Int):q2 (k*x) (k*y)=k*k*q2 x y:=by unfold q2;grind
def hle (ax ay bx b2 px py k r n m:Int):Prop:=0<=n/\n<=m/\0<m/\q2 (m*px-k*((m-n)*ax+n*bx)) (m*py-k*((m-n)*ay+n*b2))<=(m*k*r)*(m*k*r)
def Nq (ax ay bx b2 px py k r:Int):Prop:=∃n m,hle ax ay bx b2 px py k r n m
section
variable {ax ay bx b2 px py r n m k:Int}
theorem atU (hr:0<=r) (h:Nq ax ay bx b2 px py 1 r):nr ax ay bx b2 px py r=true:=by
 obtain⟨n,m,M,N,h3,h4⟩:=h;rw[Int.mul_one]at h4;have ex:m*px-1*((m-n)*ax+n*bx)=m*(px-ax)-n*(bx-ax):=by grind
 have ey:m*py-1*((m-n)*ay+n*b2)=m*(py-ay)-n*(b2-ay):=by grind
 rw[ex,ey]at h4;unfold nr;have e1:px-bx=(px-ax)-(bx-ax):=by omega
 have e2:py-b2=(py-ay)-(b2-ay):=by omega
 rw[e1,e2];generalize px-ax=ux at *
 generalize py-ay=uy at *
 generalize bx-ax=dx at *
 generalize b2-ay=dy at *
 have iz16:=mn (FQ h3) M;have hR:(m*r)*(m*r)=m*m*(r*r):=by grind
 by_cases c1:ux*dx+uy*dy<=0
 ·rw[BX c1,cond_true]
  refine BX (tt h3 ?_);have e:q2 (m*ux-n*dx) (m*uy-n*dy)=m*m*(ux*ux+uy*uy)+n*n*q2 dx dy-2*(m*n*(ux*dx+uy*dy)):=by unfold q2;grind
  have k1:=mn (pj n) (O3 dx dy);have k2:=mn iz16 (show 0<=-(ux*dx+uy*dy) by omega);rw[Int.mul_neg]at k2;omega
 ·rw [eQ c1,cond_false]
  by_cases c2:dx*dx+dy*dy<=ux*dx+uy*dy
  ·rw[BX c2,cond_true]
   refine BX (tt h3 ?_);have e:q2 (m*ux-n*dx) (m*uy-n*dy)=m*m*((ux-dx)*(ux-dx)+(uy-dy)*(uy-dy))+(m-n)*(m-n)*q2 dx dy+2*(m*(m-n)*((ux*dx+uy*dy)-(dx*dx+dy*dy))):=by unfold q2;grind
   have k1:=mn (pj (m-n)) (O3 dx dy);have k2:=mn (mn (FQ h3) (show 0<=m-n by omega)) (show 0<=(ux*dx+uy*dy)-(dx*dx+dy*dy) by omega);omega
  ·rw[eQ c2,cond_false]
   refine BX (tt h3 ?_);have e:q2 dx dy*q2 (m*ux-n*dx) (m*uy-n*dy)=m*m*((dx*uy-dy*ux)*(dx*uy-dy*ux))+(dx*(m*ux-n*dx)+dy*(m*uy-n*dy))*(dx*(m*ux-n*dx)+dy*(m*uy-n*dy)):=by unfold q2;grind
   have k1:=pj (dx*(m*ux-n*dx)+dy*(m*uy-n*dy));have k2:=Iq h4 (O3 dx dy);have e3:q2 dx dy*(m*r*(m*r))=m*m*(r*r*(dx*dx+dy*dy)):=by unfold q2;grind
   omega
theorem aof (hr:0<=r) (h:nr ax ay bx b2 px py r=true):Nq ax ay bx b2 px py 1 r:=by
 unfold nr at h;by_cases c1:(px-ax)*(bx-ax)+(py-ay)*(b2-ay)<=0
 ·rw[BX c1,cond_true]at h
  have h:=DU h;refine⟨0,1,K,K,K,?_⟩;have e:q2 (1*px-1*((1-0)*ax+0*bx)) (1*py-1*((1-0)*ay+0*b2))=(px-ax)*(px-ax)+(py-ay)*(py-ay):=by unfold q2;grind
  rw[e,HN,HN];exact h
 ·rw [eQ c1,cond_false]at h
  by_cases c2:(bx-ax)*(bx-ax)+(b2-ay)*(b2-ay)<=(px-ax)*(bx-ax)+(py-ay)*(b2-ay)
  ·rw[BX c2,cond_true]at h
   have h:=DU h;refine⟨1,1,K,K,K,?_⟩;have e:q2 (1*px-1*((1-1)*ax+1*bx)) (1*py-1*((1-1)*ay+1*b2))=(px-bx)*(px-bx)+(py-b2)*(py-b2):=by unfold q2;grind
   rw[e,HN,HN];exact h
  ·rw[eQ c2,cond_false]at h
   have h:=DU h;refine⟨(px-ax)*(bx-ax)+(py-ay)*(b2-ay),(bx-ax)*(bx-ax)+(b2-ay)*(b2-ay),K,K,K,?_⟩;have ex:((bx-ax)*(bx-ax)+(b2-ay)*(b2-ay))*px-1*(((bx-ax)*(bx-ax)+(b2-ay)*(b2-ay)-((px-ax)*(bx-ax)+(py-ay)*(b2-ay)))*ax+((px-ax)*(bx-ax)+(py-ay)*(b2-ay))*bx)=((bx-ax)*(bx-ax)+(b2-ay)*(b2-ay))*(px-ax)-((px-ax)*(bx-ax)+(py-ay)*(b2-ay))*(bx-ax):=by grind
   have ey:((bx-ax)*(bx-ax)+(b2-ay)*(b2-ay))*py-1*(((bx-ax)*(bx-ax)+(b2-ay)*(b2-ay)-((px-ax)*(bx-ax)+(py-ay)*(b2-ay)))*ay+((px-ax)*(bx-ax)+(py-ay)*(b2-ay))*b2)=((bx-ax)*(bx-ax)+(b2-ay)*(b2-ay))*(py-ay)-((px-ax)*(bx-ax)+(py-ay)*(b2-ay))*(b2-ay):=by grind
   rw[ex,ey];clear ex ey;generalize px-ax=ux at *
   generalize py-ay=uy at *
   generalize bx-ax=dx at *
   generalize b2-ay=dy at *
   have e:q2 ((dx*dx+dy*dy)*ux-(ux*dx+uy*dy)*dx) ((dx*dx+dy*dy)*uy-(ux*dx+uy*dy)*dy)=(dx*dx+dy*dy)*((dx*uy-dy*ux)*(dx*uy-dy*ux)):=by unfold q2;grind
   rw[e,Int.mul_one];have k1:=Iq h (show 0<=dx*dx+dy*dy by omega);have e2:(dx*dx+dy*dy)*r*((dx*dx+dy*dy)*r)=(dx*dx+dy*dy)*(r*r*(dx*dx+dy*dy)):=by grind
   omega
theorem ald (hr:0<=r):nr ax ay bx b2 px py r=true↔Nq ax ay bx b2 px py 1 r:=⟨aof hr,atU hr⟩
end
abbrev P2:=Int×Int
def cL (a b p:P2):Int:=sd a.1 a.2 b.1 b.2 p.1 p.2
def gf (a b:P2):Prop:=a.1<b.1∨(a.1=b.1/\a.2<b.2)
def o9 (a b:P2):Prop:=a.1<b.1∨(a.1=b.1/\a.2<=b.2)
def Pv (x y:Int):Prop:=0<x∨(x=0/\0<y)
theorem ho2 {k a:Int} (hk:0<k) (h:0<k*a):0<a:=by apply Classical.byContradiction;intro hn;have:=mn (FQ hk) (show 0<=-a by omega);rw[Int.mul_neg]at this;omega
section
variable {ux uy vx vy wx wy:Int}
theorem OW (hu:Pv ux uy) (hv:Pv vx vy) (hw:Pv wx wy) (M:0<=ux*vy-uy*vx) (N:0<=vx*wy-vy*wx):0<=ux*wy-uy*wx:=by
 unfold Pv at *
 rcases hv with hv|⟨rfl,hv⟩
 ·have e:vx*(ux*wy-uy*wx)=wx*(ux*vy-uy*vx)+ux*(vx*wy-vy*wx):=by grind
  have k1:=mn (show 0<=wx by omega) M;have k2:=mn (show 0<=ux by omega) N;exact p9 hv (by rw[GT];omega)
 ·have k3:0<=vy*wx:=mn K K
  have:wx=0:=by rcases Int.mul_eq_zero.1 (show vy*wx=0 by omega) with h|h<;>omega
  subst this;have:=mn (show 0<=ux by omega) (show 0<=wy by omega);omega
theorem crS (hu:Pv ux uy) (hv:Pv vx vy) (hw:Pv wx wy) (M:0<ux*vy-uy*vx) (N:0<vx*wy-vy*wx):0<ux*wy-uy*wx:=by
 unfold Pv at *
 rcases hv with hv|⟨rfl,hv⟩
 ·have e:vx*(ux*wy-uy*wx)=wx*(ux*vy-uy*vx)+ux*(vx*wy-vy*wx):=by grind
  have k1:=mn (show 0<=wx by omega) (FQ M);have k2:=mn (show 0<=ux by omega) (FQ N);by_cases hz:wx=0/\ux=0
  ·obtain⟨rfl,rfl⟩:=hz;have:=mn (show 0<=uy by omega) (FQ hv);omega
  ·refine ho2 hv ?_
   rcases (show 0<wx∨0<ux by omega) with h|h
   ·have:=I6 h M;omega
   ·have:=I6 h N;omega
 ·have k3:0<=vy*wx:=mn K K;omega
end
section
variable {a b c p Pw t a':P2}
theorem lH (h:gf a b):Pv (b.1-a.1) (b.2-a.2):=by unfold gf at h;unfold Pv;omega
theorem qA (M:gf a b) (N:gf b c):gf a c:=by unfold gf at *;omega
theorem evL (M:gf a b) (N:o9 b c):gf a c:=by unfold gf o9 at *;omega
theorem rW (M:o9 a b) (N:gf b c):gf a c:=by unfold gf o9 at *;omega
theorem uX (M:gf a b):o9 a b:=by unfold gf o9 at *;omega
theorem po (a:P2):o9 a a:=by unfold o9;omega
theorem gI (a:P2):¬gf a a:=by unfold gf;omega
theorem qK (a b:P2):gf a b∨a=b∨gf b a:=by
 by_cases h:a.1=b.1/\a.2=b.2
 ·exact .inr (.inl (Prod.ext h.1 h.2))
 ·unfold gf;omega
theorem FU (M:o9 a b) (N:o9 b a):a=b:=by unfold o9 at *;exact Prod.ext K K
theorem Rt (a b:P2):cL a b a=0:=by unfold cL sd;grind
theorem HC (a b:P2):cL a b b=0:=by unfold cL sd;grind
theorem atg (a b:P2):cL a a b=0:=by unfold cL sd;grind
theorem iV (a b p:P2):cL b a p=-cL a b p:=by unfold cL sd;grind
theorem s18 (M:gf a t) (N:gf a Pw) (h3:gf a p) (h4:0<=cL a t Pw) (h5:cL a t p<=0):0<=cL a p Pw:=by have k:=OW (lH h3) (lH M) (lH N) (by unfold cL sd at h5;grind) (by unfold cL sd at h4;grind);unfold cL sd;exact k
theorem im6 (M:gf a b) (N:gf Pw b) (h3:gf b p) (h4:0<=cL a b Pw) (h5:0<cL a b p):0<=cL b p Pw:=by
 have e4:cL a b Pw=(b.1-Pw.1)*(b.2-a.2)-(b.2-Pw.2)*(b.1-a.1):=by unfold cL sd;grind
 have e5:cL a b p=(b.1-a.1)*(p.2-b.2)-(b.2-a.2)*(p.1-b.1):=by unfold cL sd;grind
 have e6:cL b p Pw=(b.1-Pw.1)*(p.2-b.2)-(b.2-Pw.2)*(p.1-b.1):=by unfold cL sd;grind
 rw[e4]at h4;rw[e5]at h5;rw[e6];exact OW (lH N) (lH M) (lH h3) h4 (FQ h5)
theorem ao5 (M:gf a' a) (N:gf a b) (h3:gf b p) (h4:0<cL a' a b) (h5:0<cL a b p):0<cL a' a p:=by
 have e4:cL a' a b=(a.1-a'.1)*(b.2-a.2)-(a.2-a'.2)*(b.1-a.1):=by unfold cL sd;grind
 have e5:cL a b p=(b.1-a.1)*(p.2-b.2)-(b.2-a.2)*(p.1-b.1):=by unfold cL sd;grind
 have e6:cL a' a p=cL a' a b+((a.1-a'.1)*(p.2-b.2)-(a.2-a'.2)*(p.1-b.1)):=by unfold cL sd;grind
 rw[e6];have:=crS (lH M) (lH N) (lH h3) (by rw[← e4];exact h4) (by rw[← e5];exact h5);omega
end
def kO (p:P2):List P2->List P2
 |b::a::l=>bif decide (cL a b p<=0) then kO p (a::l) else b::a::l
 |l=>l
def bp:List P2->List P2->List P2
 |st,[]=>st|st,p::l=>bp (p::kO p st) l
def Ch (Bf:P2->Prop):List P2->Prop
 |[]=>False|[s]=>Bf s/\∀Pw,Bf Pw->o9 s Pw|b::a::l=>gf a b/\Bf b/\(∀Pw,Bf Pw->0<=cL a b Pw)/\(∀c,l.head? = some c->0<cL c a b)/\Ch Bf (a::l)
theorem Ch.cong {Bf D':P2->Prop} (h:∀Pw,Bf Pw↔D' Pw) {l:List P2} (hc:Ch Bf l):Ch D' l:=by rwa [show D'=Bf from funext λPw=>propext (h Pw).symm]
theorem azn {Bf:P2->Prop} {p:P2} (hp:∀ Pw,Bf Pw->gf Pw p):∀ (l:List P2) (a b:P2),Ch Bf (b::a::l)->0<cL a b p->Ch (λPw=>Bf Pw∨Pw=p) (b::a::l)
 |[],a,b,h,N=>by
   obtain⟨h3,h4,h5,h6,h7,h8⟩:=h;refine⟨h3,.inl h4,?_,h6,.inl h7,?_⟩
   ·rintro Pw (hq|rfl)
    ·exact h5 Pw hq
    ·exact FQ N
   ·rintro Pw (hq|rfl)
    ·exact h8 Pw hq
    ·exact uX (hp _ h7)
 |c::l,a,b,h,N=>by
   obtain⟨h3,h4,h5,h6,h7⟩:=h;refine⟨h3,.inl h4,?_,h6,?_⟩
   ·rintro Pw (hq|rfl)
    ·exact h5 Pw hq
    ·exact FQ N
   ·exact azn hp l c a h7 (ao5 h7.1 h3 (hp _ h4) (h6 c rfl) N)
theorem gr4 {Bf:P2->Prop} {p:P2} (hp:∀ Pw,Bf Pw->gf Pw p):∀ (l:List P2) (t:P2),Ch Bf (t::l)->(∀ Pw,Bf Pw->gf t Pw->0<=cL t p Pw)->Ch (λPw=>Bf Pw∨Pw=p) (p::kO p (t::l))
 |[],t,h,N=>by
   obtain⟨h3,h4⟩:=h;refine⟨hp _ h3,.inr rfl,?_,(λc hc=>by cases hc),.inl h3,?_⟩
   ·rintro Pw (hq|rfl)
    ·rcases qK t Pw with k|rfl|k
     ·exact N Pw hq k
     ·rw[Rt];omega
     ·exact(gI _ (rW (h4 Pw hq) k)).elim
    ·rw[HC];omega
   ·rintro Pw (hq|rfl)
    ·exact h4 Pw hq
    ·exact uX (hp _ h3)
 |a::l,t,h,N=>by
   have h':=h;obtain⟨h3,h4,h5,h6,h7⟩:=h;have ha:Bf a:=by cases l with|nil=>exact h7.1|cons c l=>exact h7.2.1
   unfold kO;by_cases hs:cL a t p<=0
   ·rw[BX hs,cond_true];exact gr4 hp l a h7 λPw hq Q7=>s18 h3 Q7 (hp _ ha) (h5 Pw hq) hs
   ·rw [eQ hs,cond_false]
    refine⟨hp _ h4,.inr rfl,?_,?_,azn hp l a t h' K⟩
    ·rintro Pw (hq|rfl)
     ·rcases qK t Pw with k|rfl|k
      ·exact N Pw hq k
      ·rw[Rt];omega
      ·exact im6 h3 k (hp _ h4) (h5 Pw hq) K
     ·rw[HC];omega
    ·intro c hc;simp only[List.head?_cons,DJ]at hc;subst hc;omega
theorem aab:∀ (l:List P2) (Bf:P2->Prop) (t:P2) (st:List P2),Ch Bf (t::st)->(∀ Pw,Bf Pw->o9 Pw t)->(∀ p∈l,gf t p)->l.Pairwise gf ->
 ∃z r,bp (t::st) l=z::r/\Ch (λPw=>Bf Pw∨Pw∈l) (z::r)/\∀Pw,(Bf Pw∨Pw∈l)->o9 Pw z
 |[],Bf,t,st,M,N,_,_=>⟨t,st,rfl,M.cong au,by simpa using N⟩
 |p::l,Bf,t,st,M,N,h3,h4=>by
   have hp:∀ Pw,Bf Pw->gf Pw p:=λPw hq=>rW (N Pw hq) (h3 p au);have k:=gr4 hp st t M λPw hq Q7=>(gI _ (rW (N Pw hq) Q7)).elim;rw[IX]at h4;obtain⟨z,r,e,hc,hz⟩:=aab l _ p _ k (λPw hq=>by
    rcases hq with hq|rfl
    ·exact uX (hp Pw hq)
    ·exact po _) h4.1 h4.2
   refine⟨z,r,e,hc.cong λPw=>?_,λPw hq=>hz Pw ?_⟩
   ·simp only [ET];constructor
    ·rintro ((h|h)|h)
     ·exact .inl h
     ·exact .inr (.inl h)
     ·exact .inr (.inr h)
    ·rintro (h|h|h)
     ·exact .inl (.inl h)
     ·exact .inl (.inr h)
     ·exact .inr h
   ·simp only[ET]at hq
    rcases hq with h|h|h
    ·exact .inl (.inl h)
    ·exact .inl (.inr h)
    ·exact .inr h
theorem azz {m:P2} {l:List P2} (h:(m::l).Pairwise gf):∃z r,bp [] (m::l)=z::r/\Ch (λPw=>Pw∈m::l) (z::r)/\∀Pw,Pw∈m::l->o9 Pw z:=by rw[IX]at h;obtain⟨z,r,e,hc,hz⟩:=aab l (λPw=>Pw=m) m [] ⟨rfl,λPw hq=>by rw[hq];exact po _⟩ (λPw hq=>by rw[hq];exact po _) h.1 h.2;exact⟨z,r,e,hc.cong au,λPw hq=>hz Pw (by simpa using hq)⟩
def tY:List P2->P2->P2->Prop
 |b::a::l,x,y=>(x=a/\y=b)∨tY (a::l) x y|_,_,_=>False
def sQ:List P2->P2
 |[]=>(0,0)|[s]=>s|_::a::l=>sQ (a::l)
section
variable {Bf:P2->Prop}
theorem jA:∀ {st:List P2},Ch Bf st->∀ Pw∈st,Bf Pw
 |[s],h,Pw,hq=>by simp at hq;subst hq;exact h.1
 |b::a::l,h,Pw,hq=>by
   rcases List.mem_cons.1 hq with rfl|hq
   ·exact h.2.1
   ·exact jA h.2.2.2.2 Pw hq
theorem B7:∀ {st:List P2} {x y:P2},tY st x y->x∈st/\y∈st
 |b::a::l,x,y,h=>by
   rcases h with ⟨rfl,rfl⟩|h
   ·simp
   ·have:=B7 h;exact⟨EQ _ this.1,EQ _ this.2⟩
theorem lz:∀ {st:List P2} {x y:P2},Ch Bf st->tY st x y->gf x y/\∀ Pw,Bf Pw->0<=cL x y Pw
 |b::a::l,x,y,h,ha=>by
   rcases ha with ⟨rfl,rfl⟩|ha
   ·exact⟨h.1,h.2.2.1⟩
   ·exact lz h.2.2.2.2 ha
theorem azw:∀ {st:List P2} {t x y:P2},Ch Bf (t::st)->tY (t::st) x y->o9 y t
 |a::l,t,x,y,h,ha=>by
   rcases ha with ⟨rfl,rfl⟩|ha
   ·exact po _
   ·have:=azw h.2.2.2.2 ha;exact uX (rW this h.1)
theorem xl:∀ {st:List P2} {t x y:P2},Ch Bf (t::st)->tY (t::st) x y->y=t∨∃ c,tY (t::st) y c/\0<cL x y c
 |[],t,x,y,h,ha=>ha.elim
 |a::l,t,x,y,h,ha=>by
   rcases ha with ⟨rfl,rfl⟩|ha
   ·exact .inl rfl
   ·right
    rcases xl h.2.2.2.2 ha with rfl|⟨c,M,N⟩
    ·refine ⟨t,.inl ⟨rfl,rfl⟩,?_⟩
     cases l with
     |nil=>exact ha.elim
     |cons c l=>
       rcases ha with ⟨rfl,_⟩|ha
       ·exact h.2.2.2.1 _ rfl
       ·-- y is the top of this chain,and nzb20 it is the first pair
        have:=azw h.2.2.2.2.2.2.2.2 ha;exact(gI _ (evL h.2.2.2.2.1 this)).elim
    ·exact⟨c,.inr M,N⟩
theorem zf:∀ {st:List P2} {x y:P2},Ch Bf st->tY st x y->x=sQ st∨∃ c,tY st c x/\0<cL c x y
 |[b,a],x,y,h,ha=>by
   rcases ha with ⟨rfl,rfl⟩|ha
   ·exact .inl rfl
   ·exact ha.elim
 |b::a::c::l,x,y,h,ha=>by
   rcases ha with ⟨rfl,rfl⟩|ha
   ·exact .inr ⟨c,.inr (.inl ⟨rfl,rfl⟩),h.2.2.2.1 _ rfl⟩
   ·rcases zf h.2.2.2.2 ha with e|⟨d,M,N⟩
    ·exact .inl e
    ·exact .inr ⟨d,.inr M,N⟩
theorem Cp:∀ {st:List P2},2<=st.length->∃ b,tY st (sQ st) b
 |[b,a],_=>⟨b,.inl ⟨rfl,rfl⟩⟩|b::a::c::l,_=>let ⟨d,h⟩:=Cp (st:=a::c::l) au;⟨d,.inr h⟩
theorem oc {a b:P2} {l:List P2}:tY (b::a::l) a b:=.inl ⟨rfl,rfl⟩
theorem FP:∀ {st:List P2},Ch Bf st->Bf (sQ st)/\∀ Pw,Bf Pw->o9 (sQ st) Pw
 |[s],h=>h|b::a::l,h=>FP (st:=a::l) h.2.2.2.2
end
def DL (p:P2):P2:=(-p.1,-p.2)
theorem oC (a b p:P2):cL (DL a) (DL b) (DL p)=cL a b p:=by unfold cL sd DL;grind
theorem ff (p:P2):DL (DL p)=p:=by unfold DL;simp
theorem CG {a b:P2} (h:gf a b):gf (DL b) (DL a):=by unfold gf DL at *;simp only;omega
theorem agi (p:P2):∀ st:List P2,kO (DL p) (st.map DL)=(kO p st).map DL
 |[]=>rfl|[_]=>rfl
 |b::a::l=>by
   have ih:=agi p (a::l);simp only[E8]at ih;simp only[E8,kO,oC];cases decide (cL a b p<=0)
   ·rfl
   ·exact ih
theorem AL:∀ (l st:List P2),bp (st.map DL) (l.map DL)=(bp st l).map DL
 |[],st=>rfl
 |p::l,st=>by simp only[E8,bp];rw[← AL l];simp only[E8,agi]
theorem Cr:∀ {st:List P2} {x y:P2},tY (st.map DL) x y↔tY st (DL x) (DL y)
 |[],x,y=>Iff.rfl|[_],x,y=>Iff.rfl
 |b::a::l,x,y=>by have ih:=Cr (st:=a::l) (x:=x) (y:=y);simp only[E8]at ih;simp only[E8,tY,ih];have e:∀u v:P2,u=DL v↔DL u=v:=λu v=>⟨λh=>by rw[h,ff],λh=>by rw[← h,ff]⟩;rw[e,e]
section
variable {a b c p Pw z m x y w d:P2} {Bf:P2->Prop}
theorem fo8 (ha:gf a z) (hc:gf c z) (h0:cL a z c=0) (hq:o9 Pw z) (M:0<=cL a z Pw) (N:0<=cL z c Pw):cL a z Pw=0:=by
 rcases qK Pw z with k|rfl|k
 ·have e1:cL a z Pw=-((z.1-a.1)*(z.2-Pw.2)-(z.2-a.2)*(z.1-Pw.1)):=by unfold cL sd;grind
  have e2:cL z c Pw=(z.1-c.1)*(z.2-Pw.2)-(z.2-c.2)*(z.1-Pw.1):=by unfold cL sd;grind
  have e3:cL a z c=-((z.1-a.1)*(z.2-c.2)-(z.2-a.2)*(z.1-c.1)):=by unfold cL sd;grind
  rw[e3]at h0;rw[e2]at N;rw[e1]at M;have:=OW (lH ha) (lH hc) (lH k) K N;rw[e1];omega
 ·exact HC _ _
 ·exact(gI _ (rW hq k)).elim
theorem akT (h:gf a z):¬(z.1-a.1=0/\z.2-a.2=0):=by unfold gf at h;omega
theorem anI (h:gf a z) (hx:cL a z x=0) (hy:cL a z y=0) (hw:cL a z w=0):cL x y w=0:=by
 have k1:(z.1-a.1)*cL x y w=(w.1-x.1)*(cL a z x-cL a z y)+(y.1-x.1)*(cL a z w-cL a z x):=by unfold cL sd;grind
 have k2:(z.2-a.2)*cL x y w=(w.2-x.2)*(cL a z x-cL a z y)+(y.2-x.2)*(cL a z w-cL a z x):=by unfold cL sd;grind
 rw[hx,hy,hw]at k1 k2;simp only[Int.sub_self,GT,Int.add_zero]at k1 k2;have hn:=akT h;rcases Int.mul_eq_zero.1 k1 with e|e
 ·rcases Int.mul_eq_zero.1 k2 with e'|e'
  ·exact(hn ⟨e,e'⟩).elim
  ·exact e'
 ·exact e
end
structure mS (Bf:P2->Prop) (Qa B:List P2) (z m:P2):Prop where
 cA:Ch Bf Qa
 cB:Ch (λPw=>Bf (DL Pw)) (B.map DL)
 tA:∃r,Qa=z::r
 tB:∃r,B=m::r
 bA:sQ Qa=m
 bB:sQ B=z
 zm:gf m z
 hz:∀Pw,Bf Pw->o9 Pw z
 hm:∀Pw,Bf Pw->o9 m Pw
theorem GF:∀ {st:List P2},st≠[]->sQ (st.map DL)=DL (sQ st)
 |[s],_=>rfl|b::a::l,_=>GF (st:=a::l) au
theorem Gb {a b:P2} (h:o9 a b):o9 (DL b) (DL a):=by unfold o9 DL at *;simp only;omega
theorem ar3 {l:List P2} (h:l.Pairwise gf):(l.reverse.map DL).Pairwise gf:=by rw[List.pairwise_map,List.pairwise_reverse];exact h.imp λh=>CG h
theorem aeA {m:P2} {l:List P2} (hs:(m::l).Pairwise gf) (N:l≠[]):∃ z,mS (λPw=>Pw∈m::l) (bp [] (m::l)) (bp [] (m::l).reverse) z m:=by
 obtain⟨z,r,e,hc,hz⟩:=azz hs;have hb:=FP hc;have UJ:∀ Pw∈m::l,o9 m Pw:=by
  intro Pw hq;rcases List.mem_cons.1 hq with rfl|hq
  ·exact po _
  ·exact uX ((List.pairwise_cons.1 hs).1 Pw hq)
 have ig10:sQ (z::r)=m:=FU (hb.2 m au) (UJ _ hb.1);have U6:=ar3 hs;have hD:∀ Pw,Pw∈((m::l).reverse.map DL)↔DL Pw∈m::l:=λPw=>by
  rw[List.mem_map];constructor
  ·rintro⟨p,hp,rfl⟩;rw[ff];exact List.mem_reverse.1 hp
  ·intro hq;exact⟨DL Pw,List.mem_reverse.2 hq,ff Pw⟩
 have k:∃ x t,(m::l).reverse.map DL=x::t:=by
  cases hr:(m::l).reverse.map DL with
  |nil=>simp at hr|cons x t=>exact⟨x,t,rfl⟩
 obtain⟨x,t,ex⟩:=k;have XF:=U6;rw[ex]at XF;obtain⟨z',r',e',SO,YU⟩:=azz XF;rw[← ex]at e' SO YU;have en:=AL (m::l).reverse [];simp only[HL]at en;rw[en]at e';have Ut:=SO.cong hD;rw[← e']at Ut;have hB:∃ rB,bp [] (m::l).reverse=m::rB:=by
  cases hB:bp [] (m::l).reverse with
  |nil=>rw[hB]at e';simp at e'
  |cons b rB=>
    rw[hB]at e';simp only[E8,Dh]at e';have k1:=YU (DL m) ((hD _).2 (by rw[ff];simp));have k2:DL z'∈m::l:=by have:z'∈(m::l).reverse.map DL:=jA SO z' au;exact(hD _).1 this
    have k3:=Gb k1;rw[ff,← e'.1,ff]at k3;rw[← e'.1,ff]at k2;exact⟨rB,by rw[FU k3 (UJ _ k2)]⟩
 refine⟨z,⟨by rw[e];exact hc,Ut,⟨r,e⟩,hB,by rw[e];exact ig10,?_,?_,hz,UJ⟩⟩
 ·obtain⟨rB,eB⟩:=hB;have Rq:=FP Ut;rw[GF (by rw[eB];simp)]at Rq;have k1:=Rq.2 (DL z) (by show DL (DL z)∈_;rw[ff];exact jA hc z au);have k2:=Gb k1;rw[ff,ff]at k2;have k3:=Rq.1;rw[show(DL (DL (sQ (bp [] (m::l).reverse))))=_ from ff _]at k3;exact FU (hz _ k3) k2
 ·cases l with
  |nil=>exact(N rfl).elim
  |cons y l=>have:=(List.pairwise_cons.1 hs).1 y au;exact evL this (hz y au)
section
variable {Bf:P2->Prop} {Qa B:List P2} {z m x y Pw:P2}
def Ed (Qa B:List P2) (x y:P2):Prop:=tY Qa x y∨tY B x y
section
variable (h:mS Bf Qa B z m)
include h
theorem mS.adjB (ha:tY B x y):tY (B.map DL) (DL x) (DL y):=have _:=h;Cr.2 (by rw[ff,ff];exact ha)
theorem mS.e1 (he:Ed Qa B x y):x≠y/\Bf x/\Bf y/\∀ Pw,Bf Pw->0<=cL x y Pw:=by
 rcases he with ha|ha
 ·have k:=lz h.cA ha;have hm:=B7 ha;exact⟨(λe=>by rw[e]at k;exact gI _ k.1),jA h.cA _ hm.1,jA h.cA _ hm.2,k.2⟩
 ·have Xz:=h.adjB ha;have k:=lz h.cB Xz;have hm:=B7 Xz;have k1:=jA h.cB _ hm.1;have k2:=jA h.cB _ hm.2;simp only[ff]at k1 k2;refine⟨(λe=>by rw[e]at k;exact gI _ k.1),k1,k2,λPw hq=>?_⟩;have:=k.2 (DL Pw) (by rw[ff];exact hq);rwa [oC]at this
theorem mS.lenA:2<=Qa.length:=by
 obtain⟨r,e⟩:=h.tA;cases r with
 |nil=>have:=h.bA;rw[e]at this;simp only[sQ]at this;have k:=h.zm;rw[this]at k;exact(gI _ k).elim
 |cons a r=>rw[e];simp
theorem mS.lenB:2<=B.length:=by
 obtain⟨r,e⟩:=h.tB;cases r with
 |nil=>have:=h.bB;rw[e]at this;simp only[sQ]at this;have k:=h.zm;rw[this]at k;exact(gI _ k).elim
 |cons a r=>rw[e];simp
end
def tm (Bf:P2->Prop):Prop:=∃x y w,Bf x/\Bf y/\Bf w/\cL x y w≠0
theorem mS.bend (h:mS Bf Qa B z m) (h3:3<=Qa.length∨3<=B.length):tm Bf:=by
 rcases h3 with h3|h3
 ·match Qa,h.cA,h3 with| b::a::c::l,hc,_=>have k:=hc.2.2.2.1 c rfl;exact⟨c,a,b,jA hc c au,jA hc a au,jA hc b au,K⟩
 ·match B,h.cB,h3 with| b::a::c::l,hc,_=>have k:=hc.2.2.2.1 (DL c) rfl;rw[oC]at k;have k1:=jA hc (DL c) au;have k2:=jA hc (DL a) au;have k3:=jA hc (DL b) au;simp only[ff]at k1 k2 k3;exact⟨c,a,b,k1,k2,k3,K⟩
theorem hj0 {a z:P2} (hn:tm Bf) (hl:gf a z) (h:∀Pw,Bf Pw->cL a z Pw=0):False:=by obtain⟨x,y,w,hx,hy,hw,Rw⟩:=hn;exact Rw (anI hl (h x hx) (h y hy) (h w hw))
section
variable (h:mS Bf Qa B z m) (hn:tm Bf)
include h hn
theorem mS.jz {a c:P2} (ha:tY Qa a z) (hc:tY B z c):0<cL a z c:=by
 have e1:=h.e1 (.inl ha);have e2:=h.e1 (.inr hc);have l1:=(lz h.cA ha).1;have l2:=(lz h.cB (h.adjB hc)).1;have l3:=CG l2;rw[ff,ff]at l3;have k:=e1.2.2.2 c e2.2.2.1;by_cases h0:cL a z c=0
 ·exact(hj0 hn l1 λPw hq=>fo8 l1 l3 h0 (h.hz Pw hq) (e1.2.2.2 Pw hq) (e2.2.2.2 Pw hq)).elim
 ·omega
theorem mS.jm {a c:P2} (ha:tY B a m) (hc:tY Qa m c):0<cL a m c:=by
 have e1:=h.e1 (.inr ha);have e2:=h.e1 (.inl hc);have l1:=(lz h.cA hc).1;have l2:=(lz h.cB (h.adjB ha)).1;have k:=e1.2.2.2 c e2.2.2.1;by_cases h0:cL a m c=0
 ·refine(hj0 hn (a:=m) (z:=a) (by have:=CG l2;rwa [ff,ff]at this) λPw hq=>?_).elim;have:=fo8 (a:=DL a) (z:=DL m) (c:=DL c) (Pw:=DL Pw) l2 (CG l1) (by rw[oC];exact h0) (Gb (h.hm Pw hq)) (by rw[oC];exact e1.2.2.2 Pw hq) (by rw[oC];exact e2.2.2.2 Pw hq);rw[oC]at this;rw[iV];omega
 ·omega
theorem mS.next (he:Ed Qa B x y):∃ c,Ed Qa B y c/\0<cL x y c:=by
 rcases he with ha|ha
 ·obtain ⟨r,e⟩:=h.tA
  have hc:=h.cA;rw[e]at hc ha;rcases xl hc ha with rfl|⟨c,M,N⟩
  ·obtain⟨c,hc⟩:=Cp h.lenB;rw[h.bB]at hc;exact⟨c,.inr hc,h.jz hn (by rw[e];exact ha) hc⟩
  ·exact⟨c,.inl (by rw[e];exact M),N⟩
 ·obtain ⟨r,e⟩:=h.tB
  have hc:=h.cB;have Xz:=h.adjB ha;rw[e,E8]at hc Xz;rcases xl hc Xz with e2|⟨c,M,N⟩
  ·have ey:y=m:=by rw[← ff y,e2,ff]
   subst ey;obtain⟨c,hc⟩:=Cp h.lenA;rw[h.bA]at hc;exact⟨c,.inl hc,h.jm hn ha hc⟩
  ·refine⟨DL c,.inr ?_,?_⟩
   ·rw[← E8,← e,Cr,ff]at M;exact M
   ·rw[← oC,ff];exact N
theorem mS.prev (he:Ed Qa B x y):∃ c,Ed Qa B c x/\0<cL c x y:=by
 rcases he with ha|ha
 ·rcases zf h.cA ha with e2|⟨c,M,N⟩
  ·rw [h.bA]at e2;subst e2
   obtain⟨r,e⟩:=h.tB;have hl:=h.lenB
   match B,e,hl with
   |_::a::l,e,_=>cases e;exact⟨a,.inr oc,h.jm hn oc ha⟩
  ·exact⟨c,.inl M,N⟩
 ·rcases zf h.cB (h.adjB ha) with e2|⟨c,M,N⟩
  ·obtain ⟨r,e⟩:=h.tB
   rw[GF (by rw[e];simp),h.bB]at e2;have ex:x=z:=by rw[← ff x,e2,ff]
   subst ex;obtain⟨r,e⟩:=h.tA;have hl:=h.lenA
   match Qa,e,hl with
   |_::a::l,e,_=>cases e;exact⟨a,.inl oc,h.jz hn oc ha⟩
  ·refine⟨DL c,.inr ?_,?_⟩
   ·rw[Cr,ff]at M;exact M
   ·rw[← oC,ff];exact N
end
theorem mS.flat (h:mS Bf Qa B z m) (ha:Qa.length<3) (hb:B.length<3):Qa=[z,m]/\B=[m,z]/\∀ Pw,Bf Pw->cL m z Pw=0:=by
 obtain⟨r,e⟩:=h.tA;obtain⟨s,e'⟩:=h.tB;have la:=h.lenA;have lb:=h.lenB;have e1:=h.bA;have e2:=h.bB;have eA:Qa=[z,m]:=by
  match Qa,e,la,ha,e1 with
  |[a,b],e,_,_,e1=>cases e;cases e1;rfl
 have eB:B=[m,z]:=by
  match B,e',lb,hb,e2 with
  |[a,b],e,_,_,e2=>cases e;cases e2;rfl
 refine⟨eA,eB,λPw hq=>?_⟩;have k1:=(h.e1 (x:=m) (y:=z) (.inl (by rw[eA];exact oc))).2.2.2 Pw hq;have k2:=(h.e1 (x:=z) (y:=m) (.inr (by rw[eB];exact oc))).2.2.2 Pw hq;rw[iV]at k2;omega
end
def Cc (a b:P2) (x y k:Int):Int:=(b.1-a.1)*(y-k*a.2)-(b.2-a.2)*(x-k*a.1)
def InH (Bf:P2->Prop) (x y k:Int):Prop:=∀Qa B C:Int,(∀Pw,Bf Pw->0<=Qa*Pw.1+B*Pw.2+C)->0<=Qa*x+B*y+C*k
def Kf (Bf:P2->Prop) (mx my r:Int):Prop:=∃x y k,0<k/\InH Bf x y k/\q2 (k*mx-x) (k*my-y)<=(k*r)*(k*r)
theorem F6 {Bf:P2->Prop} {x y k:Int} {a b:P2} (h:InH Bf x y k) (hs:∀ Pw,Bf Pw->0<=cL a b Pw):0<=Cc a b x y k:=by
 have:=h (-(b.2-a.2)) (b.1-a.1) (-(b.1-a.1)*a.2+(b.2-a.2)*a.1) λPw hq=>by
  have e:-(b.2-a.2)*Pw.1+(b.1-a.1)*Pw.2+(-(b.1-a.1)*a.2+(b.2-a.2)*a.1)=cL a b Pw:=by unfold cL sd;grind
  rw[e];exact hs Pw hq
 have e:-(b.2-a.2)*x+(b.1-a.1)*y+(-(b.1-a.1)*a.2+(b.2-a.2)*a.1)*k=Cc a b x y k:=by unfold Cc;grind
 rwa [e]at this
def Zp:List P2->List (P2×P2)
 |b::a::l=>(a,b)::Zp (a::l)|_=>[]
theorem wu:∀ {st:List P2} {x y:P2},(x,y)∈Zp st↔tY st x y
 |[],x,y=>by simp[Zp,tY]
 |[_],x,y=>by simp[Zp,tY]
 |b::a::l,x,y=>by simp only[Zp,tY,ET,Prod.mk.injEq,wu (st:=a::l)]
theorem exit {mx my x y k:Int} (hk:0<k):∀ (es:List (P2×P2)),(∀ e∈es,0<=Cc e.1 e.2 x y k) ->
 ∃j l,0<=j/\j<=l/\0<l/\(∀e∈es,0<=(l-j)*Cc e.1 e.2 x y k+j*(k*cL e.1 e.2 (mx,my)))/\(j=l∨∃e∈es,(l-j)*Cc e.1 e.2 x y k+j*(k*cL e.1 e.2 (mx,my))=0)
 |[],_=>⟨1,1,K,K,K,(λe he=>by cases he),.inl rfl⟩
 |e::es,h=>by
   obtain⟨j,l,M,N,h3,h4,h5⟩:=exit hk es λf hf=>h f (EQ _ hf);have hX:=h e au;by_cases hy:0<=(l-j)*Cc e.1 e.2 x y k+j*(k*cL e.1 e.2 (mx,my))
   ·refine ⟨j,l,M,N,h3,λf hf=>?_,?_⟩
    ·rcases List.mem_cons.1 hf with rfl|hf
     ·exact hy
     ·exact h4 f hf
    ·rcases h5 with h5|⟨f,hf,h6⟩
     ·exact .inl h5
     ·exact .inr ⟨f,EQ _ hf,h6⟩
   ·generalize hM:k*cL e.1 e.2 (mx,my)=S2 at hy
    generalize X9:Cc e.1 e.2 x y k=X at hX hy;have hM0:S2<0:=by apply Classical.byContradiction;intro hn;have k1:=mn M (show 0<=S2 by omega);have k2:=mn (show 0<=l-j by omega) hX;omega
    refine⟨X,X-S2,hX,K,K,λf hf=>?_,.inr ⟨e,au,?_⟩⟩
    ·rcases List.mem_cons.1 hf with rfl|hf
     ·rw[X9,hM]
      have e:(X-S2-X)*X+X*S2=0:=by grind
      omega
     ·have pb:=h4 f hf
      have hfX:=h f (EQ _ hf);generalize k*cL f.1 f.2 (mx,my)=M' at pb ⊢;generalize Cc f.1 f.2 x y k=X2 at pb hfX ⊢;by_cases hM2:0<=M'
      ·have k1:=mn (show 0<=X-S2-X by omega) hfX;have k2:=mn hX hM2;omega
      ·refine p9 h3 ?_
       rw[GT];have o:0<=j*(X-S2)-l*X:=by
        have e:j*(X-S2)-l*X=-((l-j)*X+j*S2):=by grind
        omega
       have k1:=mn o (show 0<=X2-M' by omega);have k2:=mn (show 0<=X-S2 by omega) pb;have e:l*((X-S2-X)*X2+X*M')=(j*(X-S2)-l*X)*(X2-M')+(X-S2)*((l-j)*X2+j*M'):=by grind
       omega
    ·rw[X9,hM];grind
theorem wB {x:Int} (h:x≠0):0<x*x:=by
 have:=pj x;by_cases e:x*x=0
 ·rcases Int.mul_eq_zero.1 e with e|e<;>exact(h e).elim
 ·omega
theorem agx {a b c d:P2} {mx my r x y k:Int} (hk:0<k) (h0:Cc a b x y k=0) (M:0<=Cc d a x y k) (N:0<cL d a b) (h3:0<=Cc b c x y k) (h4:0<cL a b c)
 (hq:q2 (k*mx-x) (k*my-y)<=(k*r)*(k*r)):Nq a.1 a.2 b.1 b.2 mx my 1 r:=by
 unfold cL sd at N h4;unfold Cc at h0 M h3;obtain⟨a1,a2⟩:=a;obtain⟨b1,b2⟩:=b;obtain⟨c1,c2⟩:=c;obtain⟨d1,d2⟩:=d;simp only at *
 have Sb:0<(b1-a1)*(b1-a1)+(b2-a2)*(b2-a2):=by
  by_cases e:b1-a1=0
  ·by_cases e':b2-a2=0
   ·rw[show b1=a1 by omega,show b2=a2 by omega]at N
    have:(a1-d1)*(a2-d2)-(a2-d2)*(a1-d1)=0:=by grind
    omega
   ·have:=wB e';have:=pj (b1-a1);omega
  ·have:=wB e;have:=pj (b2-a2);omega
 have ex:((b1-a1)*(b1-a1)+(b2-a2)*(b2-a2))*(x-k*a1)=((b1-a1)*(x-k*a1)+(b2-a2)*(y-k*a2))*(b1-a1)-(b2-a2)*((b1-a1)*(y-k*a2)-(b2-a2)*(x-k*a1)):=by grind
 have ey:((b1-a1)*(b1-a1)+(b2-a2)*(b2-a2))*(y-k*a2)=((b1-a1)*(x-k*a1)+(b2-a2)*(y-k*a2))*(b2-a2)+(b1-a1)*((b1-a1)*(y-k*a2)-(b2-a2)*(x-k*a1)):=by grind
 rw[h0,GT]at ex ey;have eT:((b1-a1)*(b1-a1)+(b2-a2)*(b2-a2))*((a1-d1)*(y-k*d2)-(a2-d2)*(x-k*d1))=(a1-d1)*(((b1-a1)*(b1-a1)+(b2-a2)*(b2-a2))*(y-k*a2))-(a2-d2)*(((b1-a1)*(b1-a1)+(b2-a2)*(b2-a2))*(x-k*a1)):=by grind
 have n14:((b1-a1)*(b1-a1)+(b2-a2)*(b2-a2))*((c1-b1)*(y-k*b2)-(c2-b2)*(x-k*b1))=(c1-b1)*(((b1-a1)*(b1-a1)+(b2-a2)*(b2-a2))*(y-k*a2)-k*((b1-a1)*(b1-a1)+(b2-a2)*(b2-a2))*(b2-a2))-(c2-b2)*(((b1-a1)*(b1-a1)+(b2-a2)*(b2-a2))*(x-k*a1)-k*((b1-a1)*(b1-a1)+(b2-a2)*(b2-a2))*(b1-a1)):=by grind
 rw[ex,ey]at eT n14;have k1:=mn (FQ Sb) M;have k2:=mn (FQ Sb) h3;rw[eT]at k1;rw[n14]at k2;generalize hT:(b1-a1)*(x-k*a1)+(b2-a2)*(y-k*a2)=Bh at *
 generalize hd:(b1-a1)*(b1-a1)+(b2-a2)*(b2-a2)=dd at *
 have t1:0<=Bh:=by
  have e:(a1-d1)*(Bh*(b2-a2)+0)-(a2-d2)*(Bh*(b1-a1)-0)=((a1-d1)*(b2-d2)-(a2-d2)*(b1-d1))*Bh:=by grind
  rw[e]at k1;exact p9 N (by rw[GT];exact k1)
 have t2:Bh<=k*dd:=by
  have e:(c1-b1)*(Bh*(b2-a2)+0-k*dd*(b2-a2))-(c2-b2)*(Bh*(b1-a1)-0-k*dd*(b1-a1))=((b1-a1)*(c2-a2)-(b2-a2)*(c1-a1))*(k*dd-Bh):=by grind
  rw[e]at k2;have:=p9 h4 (a:=0) (b:=k*dd-Bh) (by rw[GT];exact k2);omega
 refine⟨Bh,k*dd,t1,t2,I6 hk Sb,?_⟩;have f1:k*dd*mx-1*((k*dd-Bh)*a1+Bh*b1)=dd*(k*mx-x):=by
  have:dd*(k*mx-x)=k*dd*mx-(dd*(x-k*a1)+k*dd*a1):=by grind
  rw[this,ex];grind
 have O:k*dd*my-1*((k*dd-Bh)*a2+Bh*b2)=dd*(k*my-y):=by
  have:dd*(k*my-y)=k*dd*my-(dd*(y-k*a2)+k*dd*a2):=by grind
  rw[this,ey];grind
 rw[f1,O,y9];have:=Iq hq (pj dd);have e:k*dd*1*r*(k*dd*1*r)=dd*dd*(k*r*(k*r)):=by grind
 omega
theorem mS.near {Bf:P2->Prop} {Qa B:List P2} {z m:P2} (h:mS Bf Qa B z m) (hn:tm Bf) {mx my r:Int} (hr:0<=r) (hc:Kf Bf mx my r) {e0:P2×P2} (h0:Ed Qa B e0.1 e0.2) (hs:cL e0.1 e0.2 (mx,my)<=0) :
 ∃a b,Ed Qa B a b/\Nq a.1 a.2 b.1 b.2 mx my 1 r:=by
 obtain⟨x,y,k,hk,hI,hq⟩:=hc;have Y4:∀e:P2×P2,e∈Zp Qa++Zp B↔Ed Qa B e.1 e.2:=λe=>by rw[Ih,← wu.symm.trans Iff.rfl];unfold Ed;rw[← wu,← wu]
 obtain⟨j,l,M,N,h3,h4,h5⟩:=exit (mx:=mx) (my:=my) hk (Zp Qa++Zp B) λe he=>F6 hI (h.e1 ((Y4 e).1 he)).2.2.2;have yaw:∀a b:P2,(l-j)*Cc a b x y k+j*(k*cL a b (mx,my))=Cc a b ((l-j)*x+j*k*mx) ((l-j)*y+j*k*my) (k*l):=λa b=>by unfold Cc cL sd;grind
 simp only[yaw]at h4 h5;have key:∃ e:P2×P2,Ed Qa B e.1 e.2/\Cc e.1 e.2 ((l-j)*x+j*k*mx) ((l-j)*y+j*k*my) (k*l)=0:=by
  rcases h5 with rfl|⟨e,he,h6⟩
  ·refine⟨e0,h0,?_⟩
   have k1:=h4 e0 ((Y4 e0).2 h0);rw[← yaw]at k1 ⊢;have k2:=mn M (mn (FQ hk) (show 0<=-cL e0.1 e0.2 (mx,my) by omega));have e:j*(k*-cL e0.1 e0.2 (mx,my))=-(j*(k*cL e0.1 e0.2 (mx,my))):=by grind
   have e2:(j-j)*Cc e0.1 e0.2 x y k=0:=by grind
   omega
  ·exact⟨e,(Y4 e).1 he,h6⟩
 obtain⟨⟨a,b⟩,he,hz⟩:=key;obtain⟨c,Td,Ut⟩:=h.next hn he;obtain⟨d,Tp,Tq⟩:=h.prev hn he;refine⟨a,b,he,agx (I6 hk h3) hz (h4 (d,a) ((Y4 _).2 Tp)) Tq (h4 (b,c) ((Y4 _).2 Td)) Ut ?_⟩;have f1:k*l*mx-((l-j)*x+j*k*mx)=(l-j)*(k*mx-x):=by grind
 have O:k*l*my-((l-j)*y+j*k*my)=(l-j)*(k*my-y):=by grind
 rw[f1,O,y9];have k1:=Iq hq (pj (l-j));have k2:(l-j)*(l-j)<=l*l:=Int.mul_le_mul K K K K;have k3:=Gk k2 (pj (k*r));have e:k*l*r*(k*l*r)=l*l*(k*r*(k*r)):=by grind
 omega
theorem hc1 {vx vy dx dy:Int} (hv:Pv vx vy) (hd:Pv dx dy) (h:dx*vy-dy*vx=0):0<=dx*vx+dy*vy:=by
 unfold Pv at *
 rcases hd with hd|⟨rfl,hd⟩
 ·refine p9 hd ?_
  rw[GT];have e:dx*(dx*vx+dy*vy)=(dx*dx+dy*dy)*vx+dy*(dx*vy-dy*vx):=by grind
  rw[e,h,GT,Int.add_zero];exact mn (by have:=pj dx;have:=pj dy;omega) K
 ·have:vx=0:=by
   rcases Int.mul_eq_zero.1 (show dy*vx=0 by omega) with e|e<;>omega
  subst this;have:=mn (FQ hd) (show 0<=vy by omega);omega
theorem hor {Bf:P2->Prop} {z m:P2} (zm:gf m z) (hz:∀ Pw,Bf Pw->o9 Pw z) (hm:∀ Pw,Bf Pw->o9 m Pw) (hf:∀ Pw,Bf Pw->cL m z Pw=0) {mx my r:Int} (hr:0<=r) (hc:Kf Bf mx my r):Nq m.1 m.2 z.1 z.2 mx my 1 r:=by
 obtain⟨x,y,k,hk,hI,hq⟩:=hc;have s1:=F6 (a:=m) (b:=z) hI λPw hq=>by rw[hf Pw hq];omega
 have s2:=F6 (a:=z) (b:=m) hI λPw hq=>by rw[iV,hf Pw hq];omega
 have hd:=lH zm;have d1:=hI (z.1-m.1) (z.2-m.2) (-((z.1-m.1)*m.1+(z.2-m.2)*m.2)) λPw hq=>by
  have e:(z.1-m.1)*Pw.1+(z.2-m.2)*Pw.2+-((z.1-m.1)*m.1+(z.2-m.2)*m.2)=(z.1-m.1)*(Pw.1-m.1)+(z.2-m.2)*(Pw.2-m.2):=by grind
  rw[e];rcases qK m Pw with h|rfl|h
  ·exact hc1 (lH h) hd (by have:=hf Pw hq;unfold cL sd at this;exact this)
  ·simp
  ·exact(gI _ (rW (hm Pw hq) h)).elim
 have d2:=hI (-(z.1-m.1)) (-(z.2-m.2)) ((z.1-m.1)*z.1+(z.2-m.2)*z.2) λPw hq=>by
  have e:-(z.1-m.1)*Pw.1+-(z.2-m.2)*Pw.2+((z.1-m.1)*z.1+(z.2-m.2)*z.2)=(z.1-m.1)*(z.1-Pw.1)+(z.2-m.2)*(z.2-Pw.2):=by grind
  rw[e];rcases qK Pw z with h|rfl|h
  ·refine hc1 (lH h) hd ?_
   have:=hf Pw hq;unfold cL sd at this;have e:(z.1-m.1)*(z.2-Pw.2)-(z.2-m.2)*(z.1-Pw.1)=-((z.1-m.1)*(Pw.2-m.2)-(z.2-m.2)*(Pw.1-m.1)):=by grind
   omega
  ·simp
  ·exact(gI _ (rW (hz Pw hq) h)).elim
 unfold Cc at s1 s2;unfold gf at zm;obtain⟨a1,a2⟩:=m;obtain⟨b1,b2⟩:=z;simp only at *
 have h0:(b1-a1)*(y-k*a2)-(b2-a2)*(x-k*a1)=0:=by
  have e:(a1-b1)*(y-k*b2)-(a2-b2)*(x-k*b1)=-((b1-a1)*(y-k*a2)-(b2-a2)*(x-k*a1)):=by grind
  omega
 have Sb:0<(b1-a1)*(b1-a1)+(b2-a2)*(b2-a2):=by
  by_cases e:b1-a1=0
  ·have:=wB (x:=b2-a2) K;have:=pj (b1-a1);omega
  ·have:=wB e;have:=pj (b2-a2);omega
 have ex:((b1-a1)*(b1-a1)+(b2-a2)*(b2-a2))*(x-k*a1)=((b1-a1)*(x-k*a1)+(b2-a2)*(y-k*a2))*(b1-a1)-(b2-a2)*((b1-a1)*(y-k*a2)-(b2-a2)*(x-k*a1)):=by grind
 have ey:((b1-a1)*(b1-a1)+(b2-a2)*(b2-a2))*(y-k*a2)=((b1-a1)*(x-k*a1)+(b2-a2)*(y-k*a2))*(b2-a2)+(b1-a1)*((b1-a1)*(y-k*a2)-(b2-a2)*(x-k*a1)):=by grind
 rw[h0,GT]at ex ey;have t1:0<=(b1-a1)*(x-k*a1)+(b2-a2)*(y-k*a2):=by
  have e:(b1-a1)*x+(b2-a2)*y+-((b1-a1)*a1+(b2-a2)*a2)*k=(b1-a1)*(x-k*a1)+(b2-a2)*(y-k*a2):=by grind
  omega
 have t2:(b1-a1)*(x-k*a1)+(b2-a2)*(y-k*a2)<=k*((b1-a1)*(b1-a1)+(b2-a2)*(b2-a2)):=by
  have e:-(b1-a1)*x+-(b2-a2)*y+((b1-a1)*b1+(b2-a2)*b2)*k=k*((b1-a1)*(b1-a1)+(b2-a2)*(b2-a2))-((b1-a1)*(x-k*a1)+(b2-a2)*(y-k*a2)):=by grind
  omega
 generalize hT:(b1-a1)*(x-k*a1)+(b2-a2)*(y-k*a2)=Bh at *
 generalize izb10:(b1-a1)*(b1-a1)+(b2-a2)*(b2-a2)=dd at *
 refine⟨Bh,k*dd,t1,t2,I6 hk Sb,?_⟩;have f1:k*dd*mx-1*((k*dd-Bh)*a1+Bh*b1)=dd*(k*mx-x):=by
  have:dd*(k*mx-x)=k*dd*mx-(dd*(x-k*a1)+k*dd*a1):=by grind
  rw[this,ex];grind
 have O:k*dd*my-1*((k*dd-Bh)*a2+Bh*b2)=dd*(k*my-y):=by
  have:dd*(k*my-y)=k*dd*my-(dd*(y-k*a2)+k*dd*a2):=by grind
  rw[this,ey];grind
 rw[f1,O,y9];have:=Iq hq (pj dd);have e:k*dd*1*r*(k*dd*1*r)=dd*dd*(k*r*(k*r)):=by grind
 omega
def fh:List P2->List P2
 |[]=>[]|[a]=>[a]|a::b::l=>(bp [] (a::b::l)).tail.reverse++(bp [] (a::b::l).reverse).tail.reverse
def jt (l:List P2) (i:Nat):P2:=l.getD i (0,0)
def CY (a b m:P2) (r:Int):Bool:=nr a.1 a.2 b.1 b.2 m.1 m.2 r
def TP (QR:List P2) (m:P2) (r:Int):Prop:=(∃i,i<QR.length/\CY (jt QR i) (jt QR ((i+1) % QR.length)) m r=true)∨(2<QR.length/\∀i,i<QR.length->0<cL (jt QR i) (jt QR ((i+1) % QR.length)) m)
def Wn (m a b c:P2):Prop:=cL a b c≠0/\((0<=cL a b m/\0<=cL b c m/\0<=cL c a m)∨(cL a b m<=0/\cL b c m<=0/\cL c a m<=0))
def D1 (Bf:P2->Prop) (m:P2) (r:Int):Prop:=(∃a b,Bf a/\Bf b/\CY a b m r=true)∨∃a b c,Bf a/\Bf b/\Bf c/\Wn m a b c
theorem Hl:∀ {st:List P2} {x y:P2},tY st x y↔∃ i,st.reverse[i]? = some x/\st.reverse[i+1]? = some y
 |[],x,y=>by simp[tY]
 |[s],x,y=>by simp only[tY,false_iff];rintro⟨i,M,N⟩;simp at N
 |b::a::l,x,y=>by
   have ih:=Hl (st:=a::l) (x:=x) (y:=y);have hl:(a::l).reverse.length=l.length+1:=by simp
   have ha:(a::l).reverse[l.length]? = some a:=by rw[G2,Dy au];simp
   simp only[tY,ih];rw[G2 (a:=b)];constructor
   ·rintro (⟨rfl,rfl⟩|⟨i,M,N⟩)
    ·refine⟨l.length,?_,?_⟩
     ·rw[DW K];exact ha
     ·rw[Dy K,hl];simp
    ·have k:i+1<(a::l).reverse.length:=by
      apply Classical.byContradiction;intro hn;rw[Do K]at N;cases N
     exact⟨i,by rw[DW K];exact M,by rw[DW k];exact N⟩
   ·rintro ⟨i,M,N⟩
    by_cases k:i+1<(a::l).reverse.length
    ·rw[DW k]at N;rw[DW K]at M;exact .inr ⟨i,M,N⟩
    ·rw [Dy K,hl]at N
     have e:i=l.length:=by apply Classical.byContradiction;intro hn;rw[Do (by simp;omega)]at N;cases N
     subst e;rw[DW K,ha]at M;rw[JX]at N;simp only[Ew,DJ]at M N;exact .inl ⟨M.symm,N.symm⟩
theorem GH:∀ {st:List P2},st≠[]->st.reverse[0]? = some (sQ st)
 |[s],_=>rfl
 |b::a::l,_=>by rw[G2 (a:=b),DW au];exact GH (st:=a::l) au
section
variable {Bf:P2->Prop} {Qa B:List P2} {z m:P2}
theorem alT {rA rB:List P2} {z m:P2} (bA:rA.reverse[0]? = some m) (bB:rB.reverse[0]? = some z) (i:Nat) (hi:i<rA.length+rB.length) :
 (rA.reverse++rB.reverse)[i]? = (if i<rA.length then(rA.reverse++[z])[i]? else(rB.reverse++[m])[i-rA.length]?)/\(rA.reverse++rB.reverse)[(i+1) % (rA.length+rB.length)]? = (if i<rA.length then(rA.reverse++[z])[i+1]? else(rB.reverse++[m])[i-rA.length+1]?):=by
 have nA:rA.reverse.length=rA.length:=G9;have n23:rB.reverse.length=rB.length:=G9;by_cases M:i<rA.length
 ·rw [CV M,CV M,K8 (by
   have:0<rB.reverse.length:=by apply Classical.byContradiction;intro hn;rw[Do K]at bB;cases bB
   omega)]
  refine⟨by rw[DW K,DW K],?_⟩;by_cases N:i+1<rA.length
  ·rw[DW K,DW K]
  ·have e:i+1=rA.length:=by omega
   rw[e,Dy K,Dy K,nA,JX,bB];rfl
 ·rw [C4 M,C4 M]
  refine⟨by rw[Dy K,DW (l₁:=rB.reverse) K,nA],?_⟩;by_cases N:i-rA.length+1<rB.length
  ·rw[K8 K,Dy K,DW (l₁:=rB.reverse) K,nA];congr 1;omega
  ·have e:i+1=rA.length+rB.length:=by omega
   have e2:i-rA.length+1=rB.length:=by omega
   rw[e,Nat.mod_self,e2,DW (by apply Classical.byContradiction;intro hn;rw[Do K]at bA;cases bA),Dy K,n23,JX,bA];rfl
theorem mS.ix (h:mS Bf Qa B z m) (i:Nat) (hi:i<(Qa.tail.reverse++B.tail.reverse).length) :
 (Qa.tail.reverse++B.tail.reverse)[i]? = (if i<Qa.tail.length then Qa.reverse[i]? else B.reverse[i-Qa.tail.length]?)/\(Qa.tail.reverse++B.tail.reverse)[(i+1) % (Qa.tail.reverse++B.tail.reverse).length]? = (if i<Qa.tail.length then Qa.reverse[i+1]? else B.reverse[i-Qa.tail.length+1]?):=by
 obtain⟨rA,eA⟩:=h.tA;obtain⟨rB,eB⟩:=h.tB;have la:=h.lenA;have lb:=h.lenB;have bA:=GH (st:=Qa) (by rw[eA];simp);have bB:=GH (st:=B) (by rw[eB];simp);rw[h.bA]at bA;rw[h.bB]at bB;rw[eA]at la bA hi ⊢;rw[eB]at lb bB hi ⊢;simp only[EO]at la lb;rw[G2,DW (by simp;omega)]at bA bB;have Rn:i<rA.length+rB.length:=by
  have:(rA.reverse++rB.reverse).length=rA.length+rB.length:=by simp
  have N:i<(rA.reverse++rB.reverse).length:=hi;omega
 have k:=alT bA bB i Rn;have ybe:(rA.reverse++rB.reverse).length=rA.length+rB.length:=by simp
 rw[← ybe]at k;rw[← G2,← G2]at k;exact k
theorem iY {l:List P2} {i:Nat} (h:i<l.length):l[i]? = some (jt l i):=by unfold jt;rw[EZ h];simp[List.getD,EZ h]
theorem mS.cyc (h:mS Bf Qa B z m) {x y:P2}:(∃ i,i<(Qa.tail.reverse++B.tail.reverse).length/\jt (Qa.tail.reverse++B.tail.reverse) i=x/\jt (Qa.tail.reverse++B.tail.reverse) ((i+1) % (Qa.tail.reverse++B.tail.reverse).length)=y)↔Ed Qa B x y:=by
 unfold Ed;rw[Hl,Hl];have nA:Qa.reverse.length=Qa.tail.length+1:=by have:=h.lenA;simp;omega
 have n23:B.reverse.length=B.tail.length+1:=by have:=h.lenB;simp;omega
 have nza19:(Qa.tail.reverse++B.tail.reverse).length=Qa.tail.length+B.tail.length:=by simp
 have n16:∀{l:List P2} {i:Nat} {x:P2},l[i]? = some x->i<l.length:=λ{l i x} hx=>by apply Classical.byContradiction;intro hn;rw[Do K]at hx;cases hx
 constructor
 ·rintro ⟨i,hi,rfl,rfl⟩
  have k:=h.ix i hi;rw[iY hi,iY (I8 _ K)]at k;by_cases hl:i<Qa.tail.length
  ·rw[CV hl,CV hl]at k;exact .inl ⟨i,k.1.symm,k.2.symm⟩
  ·rw[C4 hl,C4 hl]at k;exact .inr ⟨_,k.1.symm,k.2.symm⟩
 ·rintro (⟨i,M,N⟩|⟨i,M,N⟩)
  ·have g:=n16 N
   have hi:i<(Qa.tail.reverse++B.tail.reverse).length:=by omega
   have k:=h.ix i hi;rw[CV K,CV K,M,N,iY hi,iY (I8 _ K)]at k;simp only[DJ]at k;exact⟨i,hi,k.1,k.2⟩
  ·have g:=n16 N
   have hi:i+Qa.tail.length<(Qa.tail.reverse++B.tail.reverse).length:=by omega
   have k:=h.ix (i+Qa.tail.length) hi;rw[C4 K,C4 K,Nat.add_sub_cancel,M,N,iY hi,iY (I8 _ K)]at k;simp only[DJ]at k;exact⟨_,hi,k.1,k.2⟩
end
theorem fan {v:Nat->P2} {n:Nat} {m:P2} (h3:2<n) (h:∀ i,i<n->0<cL (v i) (v ((i+1) % n)) m):∃ k,k+1<n/\Wn m (v 0) (v k) (v (k+1)):=by
 have key:∀ k,1<=k->k<n->(∃ k,k+1<n/\0<cL (v 0) (v k) m/\cL (v 0) (v (k+1)) m<=0)∨0<cL (v 0) (v k) m:=by
  intro k;induction k with
  |zero=>intro h;omega
  |succ k ih=>
    intro _ hk;by_cases e:k=0
    ·subst e;have:=h 0 K;rw[K8 K]at this;exact .inr this
    ·rcases ih K K with k1|k1
     ·exact .inl k1
     ·by_cases h0:cL (v 0) (v (k+1)) m<=0
      ·exact .inl ⟨k,hk,k1,h0⟩
      ·exact .inr K
 have last:=h (n-1) K;rw[Nat.sub_add_cancel K,Nat.mod_self,iV]at last;rcases key (n-1) K K with ⟨k,hk,k1,k2⟩|k1
 ·refine⟨k,hk,?_⟩
  have k3:=h k K;rw[K8 hk]at k3;have e:cL (v 0) (v k) (v (k+1))=cL (v 0) (v k) m+cL (v k) (v (k+1)) m-cL (v 0) (v (k+1)) m:=by unfold cL sd;grind
  refine⟨K,.inl ⟨K,K,?_⟩⟩;rw[iV];omega
 ·omega
theorem qM {a b m:P2} {r:Int} (hr:0<=r):CY a b m r=true↔Nq a.1 a.2 b.1 b.2 m.1 m.2 1 r:=ald hr
section
variable {Bf:P2->Prop} {m:P2} {r:Int}
theorem aer (hr:0<=r) (h:D1 Bf m r):Kf Bf m.1 m.2 r:=by
 rcases h with ⟨a,b,ha,hb,h⟩|⟨a,b,c,ha,hb,hc,M,N⟩
 ·obtain ⟨n,k,M,N,h3,h4⟩:=(qM hr).1 h
  rw[Int.mul_one]at h4;refine⟨(k-n)*a.1+n*b.1,(k-n)*a.2+n*b.2,k,h3,λQa B C hq=>?_,?_⟩
  ·have k1:=mn (show 0<=k-n by omega) (hq a ha)
   have k2:=mn M (hq b hb);have e:Qa*((k-n)*a.1+n*b.1)+B*((k-n)*a.2+n*b.2)+C*k=(k-n)*(Qa*a.1+B*a.2+C)+n*(Qa*b.1+B*b.2+C):=by grind
   omega
  ·rw[HN,HN]at h4;exact h4
 ·refine ⟨m.1,m.2,1,K,λQa B C hq=>?_,?_⟩
  ·have fa:=hq a ha
   have n15:=hq b hb;have fc:=hq c hc;have e:cL a b c*(Qa*m.1+B*m.2+C*1)=cL b c m*(Qa*a.1+B*a.2+C)+cL c a m*(Qa*b.1+B*b.2+C)+cL a b m*(Qa*c.1+B*c.2+C):=by unfold cL sd;grind
   have es:cL a b c=cL b c m+cL c a m+cL a b m:=by unfold cL sd;grind
   rcases N with ⟨g1,g2,g3⟩|⟨g1,g2,g3⟩
   ·have k1:=mn g2 fa;have k2:=mn g3 n15;have k3:=mn g1 fc;exact p9 (k:=cL a b c) K (by rw[GT];omega)
   ·have k1:=mn (show 0<=-cL b c m by omega) fa;have k2:=mn (show 0<=-cL c a m by omega) n15;have k3:=mn (show 0<=-cL a b m by omega) fc;rw[Int.neg_mul]at k1 k2 k3;exact p9 (k:=-cL a b c) K (by rw[GT,Int.neg_mul];omega)
  ·rw[HN,HN,Int.sub_self,Int.sub_self,HN];have:=pj r;unfold q2;omega
theorem acl {a:P2} (h:q2 (m.1-a.1) (m.2-a.2)<=r*r) (b:P2):Nq a.1 a.2 b.1 b.2 m.1 m.2 1 r:=by refine⟨0,1,K,K,K,?_⟩;rw[show 1*m.1-1*((1-0)*a.1+0*b.1)=m.1-a.1 by omega,show 1*m.2-1*((1-0)*a.2+0*b.2)=m.2-a.2 by omega,show 1*1*r=r by omega];exact h
end
section
variable {c:List P2} (hs:c.Pairwise gf)
include c hs
theorem ak3 {m:P2} {r:Int} (h:TP (fh c) m r):D1 (λPw=>Pw∈c) m r:=by
 match c,hs with
 |[],_=>
   rcases h with ⟨i,hi,_⟩|⟨h,_⟩
   ·exact absurd hi (by simp[fh])
   ·exact absurd h (by simp[fh])
 |[a],_=>
   rcases h with ⟨i,hi,h⟩|⟨h,_⟩
   ·simp only[fh,List.length_singleton]at hi h
    have e:i=0:=by omega
    subst e;exact .inl ⟨a,a,au,au,h⟩
   ·exact absurd h (by simp[fh])
 |a::b::l,hs=>
   obtain⟨z,QR⟩:=aeA hs au;unfold fh at h;rcases h with ⟨i,hi,h⟩|⟨h3,h⟩
   ·have k:=QR.e1 (QR.cyc.1 ⟨i,hi,rfl,rfl⟩);exact .inl ⟨_,_,k.2.1,k.2.2.1,h⟩
   ·have VB:2<((bp [] (a::b::l)).tail.reverse++(bp [] (a::b::l).reverse).tail.reverse).length:=h3;obtain⟨k,hk,hw⟩:=fan (n:=((bp [] (a::b::l)).tail.reverse++(bp [] (a::b::l).reverse).tail.reverse).length) VB h;have mem:∀i,i<((bp [] (a::b::l)).tail.reverse++(bp [] (a::b::l).reverse).tail.reverse).length->jt ((bp [] (a::b::l)).tail.reverse++(bp [] (a::b::l).reverse).tail.reverse) i∈a::b::l:=λi hi=>(QR.e1 (QR.cyc.1 ⟨i,hi,rfl,rfl⟩)).2.1;exact .inr ⟨_,_,_,mem 0 K,mem k K,mem (k+1) hk,hw⟩
theorem aq6 (h0:c≠[]) {m:P2} {r:Int} (hr:0<=r) (h:Kf (λPw=>Pw∈c) m.1 m.2 r):TP (fh c) m r:=by
 match c,hs,h0 with
 |[a],_,_=>
   obtain⟨x,y,k,hk,hI,hq⟩:=h;have i1:=hI 1 0 (-a.1) λPw hq=>by simp only[Ib]at hq;subst hq;omega
   have i2:=hI (-1) 0 a.1 λPw hq=>by simp only[Ib]at hq;subst hq;omega
   have i3:=hI 0 1 (-a.2) λPw hq=>by simp only[Ib]at hq;subst hq;omega
   have i4:=hI 0 (-1) a.2 λPw hq=>by simp only[Ib]at hq;subst hq;omega
   rw[Int.neg_mul]at i1 i3;have ex:x=k*a.1:=by rw[Int.mul_comm];omega
   have ey:y=k*a.2:=by rw[Int.mul_comm];omega
   refine .inl ⟨0,by simp[fh],(qM hr).2 (acl ?_ _)⟩;show q2 (m.1-a.1) (m.2-a.2)<=r*r;rw[ex,ey,← Int.mul_sub,← Int.mul_sub,y9]at hq;refine tt hk ?_;have e:k*r*(k*r)=k*k*(r*r):=by grind
   omega
 |a::b::l,hs,_=>
   obtain⟨z,QR⟩:=aeA hs au;unfold fh;have la:=QR.lenA;have lb:=QR.lenB;by_cases hf:(bp [] (a::b::l)).length<3/\(bp [] (a::b::l).reverse).length<3
   ·obtain⟨eA,eB,hflat⟩:=QR.flat hf.1 hf.2;have k:=hor QR.zm QR.hz QR.hm hflat hr h;have e:Ed (bp [] (a::b::l)) (bp [] (a::b::l).reverse) a z:=.inl (by rw[eA];exact oc);obtain⟨i,hi,M,N⟩:=QR.cyc.2 e;exact .inl ⟨i,hi,by rw[M,N];exact(qM hr).2 k⟩
   ·have hn:tm (λPw=>Pw∈a::b::l):=QR.bend K
    by_cases hx:∃i,i<((bp [] (a::b::l)).tail.reverse++(bp [] (a::b::l).reverse).tail.reverse).length/\cL (jt ((bp [] (a::b::l)).tail.reverse++(bp [] (a::b::l).reverse).tail.reverse) i) (jt ((bp [] (a::b::l)).tail.reverse++(bp [] (a::b::l).reverse).tail.reverse) ((i+1) % ((bp [] (a::b::l)).tail.reverse++(bp [] (a::b::l).reverse).tail.reverse).length)) m<=0
    ·obtain⟨i,hi,hx⟩:=hx;obtain⟨p,Pw,he,hk⟩:=QR.near hn hr h (e0:=(_,_)) (QR.cyc.1 ⟨i,hi,rfl,rfl⟩) hx;obtain⟨j,hj,M,N⟩:=QR.cyc.2 he;exact .inl ⟨j,hj,by rw[M,N];exact(qM hr).2 hk⟩
    ·refine .inr ⟨by simp only[Ea,G9,JO];omega,λi hi=>?_⟩;apply Classical.byContradiction;intro hn;exact hx ⟨i,hi,Int.not_lt.1 hn⟩
theorem ahV (h0:c≠[]) {m:P2} {r:Int} (hr:0<=r):TP (fh c) m r↔D1 (λPw=>Pw∈c) m r:=⟨ak3 hs,λh=>aq6 hs h0 hr (aer hr h)⟩
end
end
end Go.Dx
namespace Go.Dx
open Go.Sx
noncomputable section
abbrev DC:List Ty:=[Ty.int IntKind.i64,Ty.int IntKind.i64]
def pq (f:be) (i:Nat):P2:=(av (f i),aP (f i))
def GR (p:P2):List V:=[V.int .i64 p.1,V.int .i64 p.2]
theorem sL (f:be) (i:Nat):pq (D DC f) i=pq f i:=rfl
def DF (n:Nat) (f:be):List P2:=(List.range n).map (pq f)
theorem dS (n:Nat) (f:be):(DF n f).length=n:=by simp[DF]
theorem yb {n:Nat} {f:be} {k:Nat} (h:k<n):(DF n f)[k]? = some (pq f k):=by simp[DF,h]
theorem alK (n:Nat) (f:be):DF n (D DC f)=DF n f:=rfl
theorem qg {n:Nat} {f:be} {Pw:P2}:Pw∈DF n f↔∃k,k<n/\pq f k=Pw:=by simp[DF]
theorem yd (n:Nat) (f:be) (p:P2):DF (n+1) (bb n (D DC f) λ_=>GR p)=DF n f++[p]:=by
 unfold DF;rw[List.range_succ,List.map_append];congr 1
 ·refine JF λk hk=>?_;have hk:=List.mem_range.1 hk;unfold pq bb;rw[show Nat.blt k n=true from Ey hk];rfl
 ·simp only [E8,HL,Dh,and_true]
  unfold pq bb;have:Nat.blt n n=false:=by
   cases hb:Nat.blt n n with
   |false=>rfl|true=>have:=Dc hb;omega
  rw[this];rfl
theorem S68 {n m:Nat} {f:be} (h:m<=n):DF m f=(DF n f).take m:=by unfold DF;rw[← List.map_take,List.take_range,Ig h]
theorem Gv {f:be} {j k:Nat} {l:List V}:pq (λi=>bif Nat.beq i j then l else f i) k=if k=j then(av l,aP l) else pq f k:=by
 unfold pq;dsimp only
 by_cases h:k=j
 ·subst h;rw[CV rfl,Nat.beq_refl];rfl
 ·rw [C4 h]
  have:Nat.beq k j=false:=by
   cases hb:Nat.beq k j with
   |false=>rfl|true=>exact(h (DT hb)).elim
  rw[this];rfl
theorem hop {a b c:P2} (M:o9 a b) (N:o9 b c):o9 a c:=by unfold o9 at *;omega
theorem hov {a b:P2} (h:¬gf a b):o9 b a:=by unfold gf o9 at *;omega
theorem aaL {a b:P2} (h:o9 a b) (hn:¬(b.1=a.1/\b.2=a.2)):gf a b:=by unfold gf o9 at *;omega
def KU (f:be) (i j:Nat):Nat->List V:=λi'=>bif Nat.beq i' j then GR (pq f i) else bif Nat.beq i' i then GR (pq f j) else D DC f i'
theorem xQ (f:be) (i j k:Nat):pq (KU f i j) k=if k=j then pq f i else if k=i then pq f j else pq f k:=by
 unfold KU;rw[Gv];by_cases h:k=j
 ·rw[CV h,CV h];rfl
 ·rw[C4 h,C4 h];have:=Gv (f:=D DC f) (j:=i) (k:=k) (l:=GR (pq f j));rw[this];rfl
section
variable {QG:Nat} {Bf:P2->Prop}
def mU (QG:Nat) (Bf:P2->Prop) (f:be):Prop:=∀Pw,Bf Pw↔∃k,k<QG/\pq f k=Pw
def Jv (i:Nat) (f:be):Prop:=∀a b,a<b->b<i->o9 (pq f a) (pq f b)
def KD (i:Nat) (f:be):Prop:=∀a b,a<b->b<i->gf (pq f a) (pq f b)
theorem agA {f:be} {i j:Nat} (hi:i<QG) (hj:j<QG) (h:mU QG Bf f):mU QG Bf (KU f i j):=λPw=>by
 rw[h Pw];constructor
 ·rintro ⟨k,hk,e⟩
  by_cases M:k=i
  ·exact⟨j,hj,by rw[xQ,CV rfl,← M];exact e⟩
  ·by_cases N:k=j
   ·refine⟨i,hi,?_⟩
    rw[xQ];by_cases h3:i=j
    ·rw[CV h3];rw[h3,← N];exact e
    ·rw[C4 h3,CV rfl,← N];exact e
   ·exact⟨k,hk,by rw[xQ,C4 N,C4 M];exact e⟩
 ·rintro ⟨k,hk,e⟩
  rw[xQ]at e;by_cases N:k=j
  ·rw[CV N]at e;exact⟨i,hi,e⟩
  ·rw[C4 N]at e
   by_cases M:k=i
   ·rw[CV M]at e;exact⟨j,hj,e⟩
   ·rw[C4 M]at e;exact⟨k,hk,e⟩
theorem yB {P0:Nat->(Nat->List V)->Prop} {P1:Nat->Nat->(Nat->List V)->Prop}
 (s0:∀i f,1<=i->i<QG->P1 i i (D DC f)->P0 i f)
 (s0e:∀f,Jv QG f->mU QG Bf f->P0 QG f)
 (s1a:∀j i f,0<j->j<=i->i<QG->mU QG Bf f->gf (pq f j) (pq f (j-1))->P1 (j-1) i (KU f j (j-1))->P1 j i f)
 (s1b:∀j i f,j<=i->i<QG->mU QG Bf f->(0<j->¬gf (pq f j) (pq f (j-1)))->P0 (i+1) (D DC f)->P1 j i f) :
 ∀m i f,i+m=QG->1<=i->Jv i f->mU QG Bf f->P0 i f
 |0,i,f,M,_,N,h3=>by rw[show i=QG by omega]at N ⊢;exact s0e f N h3
 |m+1,i,f,M,hi,N,h3=>by
   refine s0 i f hi K ?_;have key:∀ j f,j<=i->(∀ a b,a<b->b<=i->b≠j->o9 (pq f a) (pq f b))->mU QG Bf f->P1 j i f:=by
    intro j;induction j with
    |zero=>intro f hj hins hm;refine s1b 0 i f hj K hm (λh=>by omega) (yB s0 s0e s1a s1b m (i+1) _ K K (λa b Sl hb=>?_) hm);exact hins a b Sl K K
    |succ j ih=>
      intro f hj hins hm;by_cases Q7:gf (pq f (j+1)) (pq f j)
      ·refine s1a (j+1) i f K hj K hm Q7 (ih _ K (λa b Sl hb hbj=>?_) (agA K K hm))
       simp only[Nat.add_sub_cancel]at *
       rw[xQ,xQ];by_cases b1:b=j+1
       ·subst b1
        rw[C4 (by omega:¬j+1=j),CV rfl];by_cases a1:a=j
        ·rw[CV a1];exact uX Q7
        ·rw[C4 a1,C4 K];exact hins a j K K K
       ·rw [C4 hbj,C4 b1]
        by_cases a1:a=j
        ·rw[CV a1];exact hins (j+1) b K hb K
        ·rw[C4 a1]
         by_cases a2:a=j+1
         ·rw[CV a2];exact hins j b K hb K
         ·rw[C4 a2];exact hins a b Sl hb K
      ·refine s1b (j+1) i f hj K hm (λ_=>Q7) (yB s0 s0e s1a s1b m (i+1) _ K K (λa b Sl hb=>?_) hm)
       rw[sL,sL];by_cases b1:b=j+1
       ·subst b1
        have k:=hov Q7;by_cases a1:a=j
        ·subst a1;exact k
        ·exact hop (hins a j K K K) k
       ·exact hins a b Sl K b1
   exact key i _ (D7 _) (λa b Sl hb iza25=>N a b Sl K) h3
theorem R56 {P2':Nat->(Nat->List V)->Prop} {P3:Nat->Nat->Nat->(Nat->List V)->Prop}
 (n10:∀f,KD QG f->mU QG Bf f->P2' QG f)
 (n11:∀i f,1<=i->i<QG->¬((pq f i).1=(pq f (i-1)).1/\(pq f i).2=(pq f (i-1)).2)->P2' (i+1) (D DC f)->P2' i f)
 (m64:∀i f,1<=i->i<QG->((pq f i).1=(pq f (i-1)).1/\(pq f i).2=(pq f (i-1)).2)->P3 1 i i (D DC f)->P2' i f)
 (ds:∀ k off m f,1<=k->off+k<QG->1<=m->m<=off+k-1->¬ ((pq f (off+k)).1=(pq f (off+(k-1))).1/\(pq f (off+k)).2=(pq f (off+(k-1))).2) ->
   P3 (k+1) off (m+1) (λi'=>bif Nat.beq i' m then GR (pq f (off+k)) else D DC f i')->P3 k off m f)
 (n13:∀k off m f,1<=k->off+k<QG->1<=m->m<=off+k-1->((pq f (off+k)).1=(pq f (off+(k-1))).1/\(pq f (off+k)).2=(pq f (off+(k-1))).2)->P3 (k+1) off m (D DC f)->P3 k off m f)
 (n12:∀off m f,off<QG->1<=m->m<QG->KD m f->mU m Bf f->P3 (QG-off) off m f) :
 ∀m i f,i+m=QG->1<=i->Jv QG f->KD i f->mU QG Bf f->P2' i f
 |0,i,f,M,_,_,N,h3=>by rw[show i=QG by omega]at N ⊢;exact n10 f N h3
 |m+1,i,f,M,hi,hS,N,h3=>by
   by_cases he:(pq f i).1=(pq f (i-1)).1/\(pq f i).2=(pq f (i-1)).2
   ·refine m64 i f hi K he ?_
    have key:∀ r k m g,k+r=QG-i->1<=k->i<=m->m<=i+k-1->(∀ t,i+k-1<=t->t<QG->pq g t=pq f t)->KD m g->(∀ Pw,(∃ a,a<m/\pq g a=Pw)↔∃ a,a<i+k/\pq f a=Pw)->pq g (m-1)=pq f (i+k-1)->P3 k i m g:=by
     intro r;induction r with
     |zero=>
       intro k m g hk WK him hm hu TA hmem hl;rw[show k=QG-i by omega]at *
       refine n12 i m g K K K TA λPw=>?_;rw[h3 Pw,hmem Pw,show i+(QG-i)=QG by omega]
     |succ r ih=>
       intro k m g hk WK him hm hu TA hmem hl;have u1:=hu (i+k) K K;have u2:=hu (i+(k-1)) K K;rw[show i+k-1=i+(k-1) by omega]at hl;by_cases hd:(pq g (i+k)).1=(pq g (i+(k-1))).1/\(pq g (i+k)).2=(pq g (i+(k-1))).2
       ·refine n13 k i m g WK K K hm hd (ih (k+1) m _ K K him K (λt ht=>hu t K) TA (λPw=>?_) ?_)
        ·have:=hmem Pw
         simp only[sL];rw[this];constructor
         ·rintro⟨a,ha,e⟩;exact⟨a,K,e⟩
         ·rintro ⟨a,ha,e⟩
          by_cases ea:a=i+k
          ·subst ea;refine⟨i+(k-1),K,?_⟩;rw[← e,← u1,← u2];exact(Prod.ext hd.1 hd.2).symm
          ·exact⟨a,K,e⟩
        ·rw[sL,hl,show i+(k+1)-1=i+k by omega,← u1,← u2];exact(Prod.ext hd.1 hd.2).symm
       ·have Q7:gf (pq g (m-1)) (pq g (i+k)):=by
         refine aaL ?_ ?_
         ·rw[hl,u1];exact hS _ _ K K
         ·rw[hl,← u2];exact hd
        have hs:∀t,pq (λi'=>bif Nat.beq i' m then GR (pq g (i+k)) else D DC g i') t=if t=m then pq g (i+k) else pq g t:=λt=>by rw[Gv];rfl
        refine ds k i m g WK K K hm hd (ih (k+1) (m+1) _ K K K K (λt ht no15=>?_) (λa b Sl hb=>?_) (λPw=>?_) ?_)
        ·rw[hs,C4 K];exact hu t K no15
        ·rw [hs,hs]
         by_cases b1:b=m
         ·rw[C4 K,CV b1]
          by_cases a1:a=m-1
          ·rw[a1];exact Q7
          ·exact qA (TA a (m-1) K K) Q7
         ·rw[C4 K,C4 b1];exact TA a b Sl K
        ·constructor
         ·rintro ⟨a,ha,e⟩
          rw[hs]at e;by_cases a1:a=m
          ·rw[CV a1]at e;exact⟨i+k,K,by rw[← u1];exact e⟩
          ·rw[C4 a1]at e;obtain⟨c,hc,e'⟩:=(hmem Pw).1 ⟨a,K,e⟩;exact⟨c,K,e'⟩
         ·rintro ⟨a,ha,e⟩
          by_cases a1:a=i+k
          ·exact⟨m,K,by rw[hs,CV rfl,u1,← a1];exact e⟩
          ·obtain⟨c,hc,e'⟩:=(hmem Pw).2 ⟨a,K,e⟩;exact⟨c,K,by rw[hs,C4 K];exact e'⟩
        ·rw[hs,Nat.add_sub_cancel,CV rfl,show i+(k+1)-1=i+k by omega,u1]
    refine key (QG-i-1) 1 i _ K (D7 _) (D7 _) K (λt _ _=>sL f t) N (λPw=>?_) ?_
    ·simp only [sL]
     constructor
     ·rintro⟨a,ha,e⟩;exact⟨a,K,e⟩
     ·rintro⟨a,ha,e⟩
      by_cases ea:a=i
      ·subst ea;exact⟨a-1,K,by rw[← e];exact(Prod.ext he.1 he.2).symm⟩
      ·exact⟨a,K,e⟩
    ·rw[sL,show i+1-1=i by omega];exact(Prod.ext he.1 he.2).symm
   ·refine n11 i f hi K he (R56 n10 n11 m64 ds n13 n12 m (i+1) _ K K hS (λa b Sl hb=>?_) h3)
    rw[sL,sL];by_cases b1:b=i
    ·subst b1
     have Q7:gf (pq f (b-1)) (pq f b):=aaL (hS _ _ K K) he;by_cases a1:a=b-1
     ·rw[a1];exact Q7
     ·exact qA (N a (b-1) K K) Q7
    ·exact N a b Sl K
end
theorem CX {QG:Nat} {g:Nat->P2} {P:Nat->Nat->(Nat->List V)->Prop} (r1:∀ i j f,i<j->j<QG->P (i+1) (j-1) (KU f i j)->P i j f)
 (r2:∀i j f,¬i<j->(∀k,k<QG->pq f k=g (QG-1-k))->P i j f) :
 ∀m i j f,j-i<=m->i+j+1=QG->(∀k,k<QG->pq f k=if k<i∨j<k then g (QG-1-k) else g k)->P i j f
 |m,i,j,f,hm,hN,h=>by
   by_cases UH:i<j
   ·match m,hm with
    |0,hm=>omega
    |m+1,hm=>
      refine r1 i j f UH K (CX r1 r2 m (i+1) (j-1) _ K K λk hk=>?_);rw[xQ];by_cases k1:k=j
      ·rw[CV k1,CV K,h i K,C4 K,show QG-1-k=i by omega]
      ·rw [C4 k1]
       by_cases k2:k=i
       ·rw[CV k2,CV K,h j K,C4 K,show QG-1-k=j by omega]
       ·rw[C4 k2,h k hk]
        by_cases k3:k<i∨j<k
        ·rw[CV k3,CV K]
        ·rw[C4 k3,C4 K]
   ·refine r2 i j f UH λk hk=>?_
    rw[h k hk];by_cases k3:k<i∨j<k
    ·rw[CV k3]
    ·rw[C4 k3,show QG-1-k=k by omega]
theorem nK {base c:List P2} {PO:Nat->Nat->(Nat->List V)->Prop} {PI:Nat->Nat->Nat->(Nat->List V)->Prop} {S2:Nat} (hM:base.length+c.length<=S2)
 (hO:∀i n fo,i<c.length->n<=S2->PI i n n (D DC fo)->PO i n fo)
 (hpop:∀i n cap fo,i<c.length->base.length+1<n->n<=cap->cap<=S2->(∀k,k<n->pq fo k∈base∨pq fo k∈c)->cL (pq fo (n-2)) (pq fo (n-1)) (jt c i)<=0->PI i (n-1) cap (D DC fo)->PI i n cap fo)
 (happ:∀i n cap fo,i<c.length->base.length<=n->(∀k,k<n->pq fo k∈base∨pq fo k∈c)->(base.length+1<n->0<cL (pq fo (n-2)) (pq fo (n-1)) (jt c i))->n<=cap->cap<=S2->PO (i+1) (n+1) (bb n (D DC fo) λ_=>GR (jt c i))->PI i n cap fo)
 (hE:∀n fo,DF n fo=base++(bp [] c).reverse->PO c.length n fo) :
 ∀(l done st:List P2) (n:Nat) (fo:be),c=done++l->bp st l=bp [] c->DF n fo=base++st.reverse->st.length<=done.length->(∀Pw∈st,Pw∈c)->PO done.length n fo
 |[],done,st,n,fo,M,N,h3,_,_=>by rw[KE]at M;rw[← M];simp only[bp]at N;exact hE n fo (by rw[h3,N])
 |p::l,done,st,n,fo,M,N,h3,h4,h5=>by
   have hlen:done.length<c.length:=by rw[M];simp
   have hp:jt c done.length=p:=by have:=iY (l:=c) hlen;rw[M,Dy (D7 _),JX]at this;simp only[Ew,DJ]at this;rw[M];exact this.symm
   have Wj:∀{st:List P2} {n fo},DF n fo=base++st.reverse->n=base.length+st.length:=λ{st n fo} h=>by have:=congrArg List.length h;rwa [dS,Ea,G9]at this
   have hn:=Wj h3;have iza9:p∈c:=by rw[M];simp
   have RB:∀ {st:List P2} {n fo},(∀ Pw∈st,Pw∈c)->DF n fo=base++st.reverse->∀ k,k<n->pq fo k∈base∨pq fo k∈c:=λ{st n fo} hs h k hk=>by
    have:pq fo k∈base++st.reverse:=by rw[← h];exact qg.2 ⟨k,hk,rfl⟩
    rcases List.mem_append.1 this with h|h
    ·exact .inl h
    ·exact .inr (hs _ (List.mem_reverse.1 h))
   refine hO done.length n fo hlen K ?_;have fin:∀ (st':List P2) (n:Nat) (fo:be),kO p st'=st'->st'.length<=done.length->(∀ Pw∈st',Pw∈c)->kO p st'=kO p st->DF n fo=base++st'.reverse->PO (done.length+1) (n+1) (bb n (D DC fo) λ_=>GR (jt c done.length)):=λst' n fo e0 Ro S0 e hl=>by
    have:=nK hM hO hpop happ hE l (done++[p]) (p::st') (n+1) (bb n (D DC fo) λ_=>GR (jt c done.length)) (by rw[M];simp) (by rw[← N];simp only[bp];rw[← e,e0]) (by rw[yd,hl,hp];simp) (by simp;omega) (λPw hq=>by
     rcases List.mem_cons.1 hq with rfl|hq
     ·exact iza9
     ·exact S0 Pw hq)
    rwa [Ea,List.length_singleton]at this
   have key:∀ (st':List P2) (n:Nat) (fo:be),st'.length<=done.length->(∀ Pw∈st',Pw∈c)->kO p st'=kO p st->DF n fo=base++st'.reverse->∀ cap,n<=cap->cap<=S2->PI done.length n cap fo:=by
    intro st';induction st' with
    |nil=>intro n fo Qb TA hpop' hl cap hc WJ;have VE:=Wj hl;simp only[FL]at VE;refine happ done.length n cap fo hlen K (RB TA hl) (λh=>by omega) hc WJ (fin [] n fo rfl Qb TA hpop' hl)
    |cons b st' ih=>
      intro n fo Qb TA hpop' hl cap hc WJ;cases st' with
      |nil=>have VE:=Wj hl;simp only[EO,FL]at VE;exact happ done.length n cap fo hlen K (RB TA hl) (λh=>by omega) hc WJ (fin [b] n fo rfl Qb TA hpop' hl)
      |cons a l'=>
        have VE:=Wj hl;simp only[EO]at VE;have e1:pq fo (n-1)=b:=by
         have:=yb (f:=fo) (n:=n) (k:=n-1) K;rw[hl,Dy K,G2,G2,Dy (by simp;omega)]at this;have e:n-1-base.length-(l'.reverse++[a]).length=0:=by simp;omega
         rw[e]at this;simp only[Ew,DJ]at this;exact this.symm
        have e2:pq fo (n-2)=a:=by
         have:=yb (f:=fo) (n:=n) (k:=n-2) K;rw[hl,Dy K,G2,G2,DW (by simp;omega),Dy (by simp;omega)]at this;have e:n-2-base.length-l'.reverse.length=0:=by simp;omega
         rw[e]at this;simp only[Ew,DJ]at this;exact this.symm
        by_cases hs:cL a b p<=0
        ·refine hpop done.length n cap fo hlen K hc WJ (RB TA hl) (by rw[e1,e2,hp];exact hs) (ih (n-1) _ (by simp only[EO]at Qb ⊢;omega) (λPw hq=>TA Pw (EQ _ hq)) ?_ ?_ cap K WJ)
         ·rw[← hpop'];simp only[kO];rw[BX hs];rfl
         ·rw[alK,S68 (n:=n) K,hl];rw[G2 (a:=b),← Ic,J9 (by simp;omega),IZ (by simp;omega)]
        ·refine happ done.length n cap fo hlen K (RB TA hl) (λ_=>by rw[e1,e2,hp];omega) hc WJ (fin (b::a::l') n fo ?_ Qb TA hpop' hl);simp only[kO];rw[eQ hs];rfl
   exact key st n (D DC fo) h4 h5 rfl h3 n (D7 _) K
def mg (p:P2):Prop:=sm p.1/\sm p.2
theorem asG {a b:P2} (ha:mg a) (hb:mg b):decide (rP a.1 a.2 b.1 b.2<0)=true↔gf a b:=by
 unfold mg sm at ha hb;unfold rP gf;rw[E0];by_cases h:a.1=b.1
 ·have:(a.1 != b.1)=false:=by simp[h]
  rw[this,cond_false,C8 K K];omega
 ·have:(a.1 != b.1)=true:=by simp[h]
  rw[this,cond_true,C8 K K];omega
theorem Xs {a b p:P2} (ha:mg a) (hb:mg b) (hp:mg p):kM a.1 a.2 b.1 b.2 p.1 p.2=cL a b p:=by unfold kM;exact(aqQ ha.1 ha.2 hb.1 hb.2 hp.1 hp.2).1
theorem fx15 {a b p:P2} {r:Int} (ha:mg a) (hb:mg b) (hp:mg p) (h7:0<=r) (h8:r<=1073741824):kt a.1 a.2 b.1 b.2 p.1 p.2 r=CY a b p r:=awi ha.1 ha.2 hb.1 hb.2 hp.1 hp.2 h7 h8
theorem LO (a b c d:Int):(a==b&&(c==d&&true))=decide (a=b/\c=d):=by by_cases M:a=b<;>by_cases N:c=d<;>simp[M,N]
theorem zM {j:Nat} (h:0<j) (hj:j<=1000):E ((j:Int)-1)=((j-1:Nat):Int):=by rw[C8 K K];omega
theorem IK {j:Nat} (h:1<j) (hj:j<=1000):E ((j:Int)-2)=((j-2:Nat):Int):=by rw[C8 K K];omega
theorem CZ {j:Nat} (hj:j<=1000):E ((j:Int)+1)=((j+1:Nat):Int):=by rw[C8 K K];omega
theorem iL {Q1:Type} {Nx:Q1->V->Prop} {r:V} {C b1 b2 b3 b4 s:Bool} {X QY bc2:RT Q1} (hb:C=true->b1=true/\b2=true/\b3=true/\b4=true) (hX:C=true->s=true->aT Nx X r) (hY:C=true->s=false->aT Nx QY r) (ybq:C=false->aT Nx bc2 r) :
 aT Nx (.obi (.obi (.obi (.obi (.obj C b1 (.obi (.obj C b2 (.obi (.obi (.obi (.obi (.obj C b3 (.obi (.obj C b4 (.obi (.obi (.br C (.ob C (.ob C (.obc (.obt (.br s X QY))))) bc2))))))))))))))))) r :=
 B1 (B1 (B1 (B1 (DY (λh=>(hb h).1) (B1 (DY (λh=>(hb h).2.1) (B1 (B1 (B1 (B1 (DY (λh=>(hb h).2.2.1) (B1 (DY (λh=>(hb h).2.2.2) (B1 (B1 (C2 (λh=>aF h (aF h (ao (ac (C2 (hX h) (hY h)))))) ybq))))))))))))))))
def Ue (QR:List P2) (m:P2) (r:Int):Bool:=@decide (TP QR m r) (Classical.propDecidable _)
theorem acs {QR:List P2} {m:P2} {r:Int} (h:TP QR m r):Ue QR m r=true:=@BX _ (Classical.propDecidable _) h
theorem apo {QR:List P2} {m:P2} {r:Int} (h:¬TP QR m r):Ue QR m r=false:=@eQ _ (Classical.propDecidable _) h
theorem m4 {n cap:Nat} (h:n<=cap) (hc:cap<=1000):(decide (n<=cap/\(n+1)*16<=140737488355328)&&!Nat.beq 16 0)=true:=by rw[D2];exact⟨BX ⟨h,K⟩,rfl⟩
theorem io {n:Nat} {f:be} {k:Nat} (h:k<n):jt (DF n f) k=pq f k:=by have M:=iY (l:=DF n f) (i:=k) (by rw[dS];exact h);rw[yb h]at M;exact(Option.some.inj M).symm
theorem R55 {c:List P2} (h:2<=c.length):fh c=(bp [] c).tail.reverse++(bp [] c.reverse).tail.reverse:=by
 match c,h with
 |a::b::l,_=>rfl
theorem KD.cong {m:Nat} {f g:be} (h:KD m f) (e:∀k,k<m->pq g k=pq f k):KD m g:=λa b M N=>by rw[e a K,e b N];exact h a b M N
theorem mU.cong {m:Nat} {Bf:P2->Prop} {f g:be} (h:mU m Bf f) (e:∀k,k<m->pq g k=pq f k):mU m Bf g:=λPw=>by rw[h Pw];exact⟨λ⟨k,hk,h⟩=>⟨k,hk,by rw[e k hk];exact h⟩,λ⟨k,hk,h⟩=>⟨k,hk,by rw[← e k hk];exact h⟩⟩
theorem Bp {f:be} {l:List V} {m n k:Nat} (h:k<m):pq (λi=>bif Nat.ble m i&&Nat.ble i.succ n then l else D DC f i) k=pq f k:=by
 unfold pq;dsimp only
 have:Nat.ble m k=false:=by
  cases hb:Nat.ble m k with
  |false=>rfl|true=>have:=Dc hb;omega
 rw[this];rfl
section
variable {m:Nat} {f:be}
include m f
theorem fb1 (h:KD m f):(DF m f).Pairwise gf:=by unfold DF;rw[List.pairwise_map];refine List.Pairwise.imp_of_mem ?_ (List.pairwise_lt_range (n:=m));intro a b ha hb Sl;exact h a b Sl (List.mem_range.1 hb)
theorem avt {g:be} (h:∀ k,k<m->pq g k=pq f (m-1-k)):DF m g=(DF m f).reverse:=by
 apply F4;intro k;by_cases hk:k<m
 ·rw[yb hk,List.getElem?_reverse (by rw[dS];exact hk),dS,yb K,h k hk]
 ·rw[Do (by rw[dS];omega),Do (by rw[G9,dS];omega)]
theorem S51 {g:be} (h:∀k,k<m->pq g k=pq f k):DF m g=DF m f:=by unfold DF;exact JF λk hk=>h k (List.mem_range.1 hk)
end
theorem sC {n:Nat} {f:be} {base st:List P2} (h:DF n f=base++st.reverse) (hs:st≠[]):0<n/\DF (n-1) f=base++st.tail.reverse/\n=base.length+st.length/\0<st.length:=by
 have hl:=congrArg List.length h;rw[dS,Ea,G9]at hl
 match st,hs with
 |s::l,_=>simp only[EO]at hl;refine⟨K,?_,by simp only[EO];omega,au⟩;rw[S68 (n:=n) K,h,G2,← Ic,J9 (by simp;omega),IZ (by simp;omega)];rfl
theorem R99 {p Pw:P2}:∀ {st:List P2},Pw∈kO p st->Pw∈st
 |[],h=>h|[s],h=>h
 |b::a::l,h=>by
   simp only[kO]at h;cases hd:decide (cL a b p<=0) with
   |true=>rw[hd]at h;exact EQ _ (R99 h)|false=>rw[hd]at h;exact h
theorem lA {Pw:P2}:∀ {l st:List P2},Pw∈bp st l->Pw∈st∨Pw∈l
 |[],st,h=>.inl h
 |p::l,st,h=>by
   simp only[bp]at h;rcases lA h with h|h
   ·rcases List.mem_cons.1 h with rfl|h
    ·exact .inr au
    ·exact .inl (R99 h)
   ·exact .inr (EQ _ h)
theorem nn:∀ {l st:List P2},st≠[]∨l≠[]->bp st l≠[]
 |[],st,h=>by
   rcases h with h|h
   ·exact h
   ·exact(h rfl).elim
 |p::l,st,_=>nn (l:=l) (.inl au)
theorem Ent {p:P2}:∀ {st:List P2},(kO p st).length<=st.length
 |[]=>D7 _|[_]=>D7 _
 |b::a::l=>by
   simp only[kO];cases decide (cL a b p<=0) with
   |true=>have:=Ent (p:=p) (st:=a::l);simp only[EO,cond_true]at *;omega|false=>exact D7 _
theorem iA:∀ {l st:List P2},(bp st l).length<=st.length+l.length
 |[],st=>D7 _
 |p::l,st=>by simp only[bp];have:=iA (l:=l) (st:=p::kO p st);have:=Ent (p:=p) (st:=st);simp only[EO]at *;omega
theorem hp' {Pw:P2} {c:List P2} (h:Pw∈fh c):Pw∈c:=by
 match c,h with
 |[a],h=>exact h
 |a::b::l,h=>
   rcases List.mem_append.1 h with h|h
   ·rcases lA (Kz (List.mem_reverse.1 h)) with h|h
    ·cases h
    ·exact h
   ·rcases lA (Kz (List.mem_reverse.1 h)) with h|h
    ·cases h
    ·exact List.mem_reverse.1 h
theorem adj {c:List P2} (h:c.length<3):fh c=c:=by
 match c,h with
 |[],_=>rfl|[a],_=>rfl|[a,b],_=>rfl
theorem alZ {p:P2}:∀ {st:List P2},st≠[]->kO p st≠[]
 |[],h=>absurd rfl h|[a],_=>by simp[kO]
 |b::a::l,_=>by
   unfold kO;cases decide (cL a b p<=0) with
   |true=>exact alZ au|false=>simp
theorem hlb:∀ (l st:List P2),st≠[]->l≠[]->2<=(bp st l).length
 |[],_,_,h=>absurd rfl h
 |[p],st,h,_=>by have:=List.length_pos_iff.2 (alZ (p:=p) h);show 2<=(p::kO p st).length;simp only[EO];omega
 |p::Pw::l,st,h,_=>hlb (Pw::l) (p::kO p st) au au
theorem hoc {c:List P2} (hs:c.Pairwise gf) (h:c≠[]):0<(fh c).length:=by
 match c,h with
 |[a],_=>simp[fh]
 |a::b::l,_=>have:2<=(bp [] (a::b::l)).length:=hlb (b::l) [a] au au;simp only[fh,Ea,G9,JO];omega
theorem Cs:∀ Qu:List P2,∃ c:List P2,c.Pairwise gf/\∀ Pw,Pw∈Qu↔Pw∈c
 |[]=>⟨[],.nil,λ_=>Iff.rfl⟩
 |a::Qu=>by
   obtain⟨c,hc,hm⟩:=Cs Qu;by_cases ha:a∈c
   ·exact⟨c,hc,λPw=>⟨λh=>(List.mem_cons.1 h).elim (λe=>e▸ha) λh=>(hm Pw).1 h,λh=>EQ _ ((hm Pw).2 h)⟩⟩
   ·have key:∀ c:List P2,c.Pairwise gf->a∉c->∃ d:List P2,d.Pairwise gf/\∀ Pw,Pw∈d↔Pw=a∨Pw∈c:=by
     intro c;induction c with
     |nil=>exact λ_ _=>⟨[a],au,λPw=>by simp⟩
     |cons b c ih=>
       intro hs hn;rw[IX]at hs;simp only[ET,not_or]at hn;obtain⟨d,hd,hq⟩:=ih hs.2 hn.2;rcases qK a b with h|h|h
       ·refine⟨a::b::c,?_,λPw=>by simp⟩;rw[IX,IX];exact⟨λPw hq=>(List.mem_cons.1 hq).elim (λe=>e▸h) λhq=>qA h (hs.1 Pw hq),hs⟩
       ·exact absurd h hn.1
       ·refine⟨b::d,?_,λPw=>by simp only[ET,hq];exact⟨λh=>h.elim (λh=>.inr (.inl h)) λh=>h.elim .inl λh=>.inr (.inr h),λh=>h.elim (λh=>.inr (.inl h)) λh=>h.elim .inl λh=>.inr (.inr h)⟩⟩;rw[IX];exact⟨λPw izb1=>((hq Pw).1 izb1).elim (λe=>e▸h) λN=>hs.1 Pw N,hd⟩
    obtain⟨d,hd,hq⟩:=key c hc ha;exact⟨d,hd,λPw=>by rw[hq,ET,hm Pw]⟩
theorem awt:∀ {c d:List P2},c.Pairwise gf->d.Pairwise gf->(∀ Pw,Pw∈c↔Pw∈d)->c=d
 |[],[],_,_,_=>rfl|[],b::d,_,_,h=>absurd ((h b).2 au) au|a::c,[],_,_,h=>absurd ((h a).1 au) au
 |a::c,b::d,hc,hd,h=>by
   rw[IX]at hc hd;have Sl:a=b:=by
    rcases List.mem_cons.1 ((h a).1 au) with M|M
    ·exact M
    ·rcases List.mem_cons.1 ((h b).2 au) with N|N
     ·exact N.symm
     ·exact absurd (qA (hc.1 b N) (hd.1 a M)) (gI a)
   subst Sl;rw[awt hc.2 hd.2 λPw=>⟨λhq=>by
    rcases List.mem_cons.1 ((h Pw).1 (EQ _ hq)) with rfl|M
    ·exact absurd (hc.1 Pw hq) (gI Pw)
    ·exact M,λhq=>by
    rcases List.mem_cons.1 ((h Pw).2 (EQ _ hq)) with rfl|M
    ·exact absurd (hd.1 Pw hq) (gI Pw)
    ·exact M⟩]
noncomputable def Jc (Qu:List P2) (m:P2) (r:Int):Bool:=Ue (fh (Classical.choose (Cs Qu))) m r
theorem aih {c Qu:List P2} (hs:c.Pairwise gf) (hm:∀Pw,Pw∈Qu↔Pw∈c) {m:P2} {r:Int}:Ue (fh c) m r=Jc Qu m r:=by have k:=Classical.choose_spec (Cs Qu);unfold Jc;rw[awt hs k.1 λPw=>(hm Pw).symm.trans (k.2 Pw)]
def yc (Qu:List P2) (m:P2) (r:Int):Bool:=@decide (D1 (λPw=>Pw∈Qu) m r) (Classical.propDecidable _)
theorem ny4 {c Qu:List P2} (hs:c.Pairwise gf) (h0:c≠[]) (hm:∀ Pw,Pw∈Qu↔Pw∈c) {m:P2} {r:Int} (hr:0<=r):Ue (fh c) m r=yc Qu m r:=by
 unfold Ue yc;have:D1 (λPw=>Pw∈Qu) m r↔TP (fh c) m r:=by rw[ahV hs h0 hr,show(λPw=>Pw∈Qu)=λPw=>Pw∈c from funext λPw=>propext (hm Pw)]
 by_cases h:TP (fh c) m r
 ·rw[@BX _ (Classical.propDecidable _) h,@BX _ (Classical.propDecidable _) (this.2 h)]
 ·rw[@eQ _ (Classical.propDecidable _) h,@eQ _ (Classical.propDecidable _) λg=>h (this.1 g)]
theorem ie3 {Qu:List P2} (h0:Qu≠[]) {m:P2} {r:Int} (hr:0<=r):Jc Qu m r=yc Qu m r:=by have k:=Classical.choose_spec (Cs Qu);exact ny4 k.1 (λh=>by obtain⟨a,ha⟩:=List.exists_mem_of_ne_nil _ h0;have:=(k.2 a).1 ha;rw[h]at this;cases this) k.2 hr
end
end Go.Dx
namespace Go.Dx
open Go.IntKind (i64 u64 u8)
open Go.Sx Go.Proofs
variable (S R W U Q x5 x6 Z:Int) (b8:Bool) (x9 Ps Pr Px:Int)
noncomputable section
def jk:bm:=(226,.con acq)::(102,.con C55)::(157,.inl an3 u0)::(198,.inl atZ u0)::(233,.inl arJ u0)::(200,.inl ap3 u0)::(201,.inl ao8 u0)::(202,.inl asj u0)::(225,.inl aoL fz25)::Al
theorem hcf:aZ Tryz.prog Bs C3 jk:=.con aeq (.con ayo (iq Tryz.func157 bw (iq Tryz.func198 bw (iq Tryz.func233 bw (iq Tryz.func200 bw (iq Tryz.func201 bw (iq Tryz.func202 bw (iq Tryz.func225 bw (Ht)))))))))
def Em:l8:=λk=>bif Nat.beq k 0 then 5 else 0
inductive jI where|L0 (_:Int) (_:be)|L1 (_ _:Int) (_:be)|L2 (_:Int) (_:be) (_:Int) (_:be)|L3 (_:Int) (_ _:Nat) (_ _ _:Int) (_:Nat) (_ _:Int) (_:be) (_:Int) (_:be)|L4 (_:Int) (_:be) (_:Nat) (_:be) (_:Int) (_:be)|L5 (_ _:Int) (_:Nat) (_:Bool) (_:Nat) (_:be)|L7 (_:Int) (_:be) (_:Nat) (_ _:Int) (_:Nat) (_:be) (_:Int) (_:be)|L12 (_ _:Int) (_:Nat) (_:be) (_:Nat) (_:be) (_:Int) (_ _:Nat) (_ _ _:Int) (_:Nat) (_ _:Int) (_:be)|L13 (_ _:Int) (_:be) (_ _:Nat) (_:be) (_:Int) (_:be)|L14 (_ _:Int) (_:Nat) (_:be) (_:Nat) (_ _:Int) (_:Nat) (_:be) (_:Int) (_ _:Nat) (_ _ _:Int) (_:Nat) (_ _:Int) (_:be)|L15 (_ _ _:Int) (_:Nat) (_:be) (_ _:Nat) (_:be) (_:Int) (_ _:Nat) (_ _ _:Int) (_:Nat) (_ _:Int) (_:be)|L18 (_:Int) (_:be) (_ _:Nat) (_:be) (_ _:Int) (_:be) (_:be) (_:Int) (_:be)|L20 (_:Int) (_:be) (_ _:Nat) (_:be) (_ _ _ _:Int) (_:be) (_:Nat) (_:be) (_:Int) (_:be)|L22 (_ _:Int) (_:be) (_:Nat) (_ _:Int) (_:be) (_ _:Int) (_:be) (_ _:Nat) (_:be) (_:Int) (_:be)|L23 (_ _:Int) (_:be) (_:Nat) (_ _:Int) (_:Nat) (_:be) (_ _:Int) (_:be) (_ _:Nat) (_:be) (_:Int) (_:be)|L24 (_:Int) (_:Nat) (_:Int) (_:be) (_ _:Nat) (_:be) (_ _ _:Int) (_:Nat) (_:be) (_:be) (_:Int) (_ _:Nat) (_ _ _:Int) (_:Nat) (_ _:Int) (_:be)|L25 (_:Int) (_:Nat) (_:Int) (_:be) (_ _:Nat) (_:be) (_ _ _ _ _:Int) (_:Nat) (_:be) (_:Nat) (_:be) (_:Int) (_ _:Nat) (_ _ _:Int) (_:Nat) (_ _:Int) (_:be)|L26 (_ _:Int) (_:Nat) (_:Int) (_:be) (_:Nat) (_ _:Int) (_:be) (_ _ _:Int) (_:Nat) (_:be) (_ _:Nat) (_:be) (_:Int) (_ _:Nat) (_ _ _:Int) (_:Nat) (_ _:Int) (_:be)|L27 (_ _:Int) (_:Nat) (_:Int) (_:be) (_:Nat) (_ _:Int) (_:Nat) (_:be) (_ _ _:Int) (_:Nat) (_:be) (_ _:Nat) (_:be) (_:Int) (_ _:Nat) (_ _ _:Int) (_:Nat) (_ _:Int) (_:be)
def o6 (l:List Ax):List Ax:=Ax.cells [A S,A R,A W,A U,A Q,A x5,A x6,A Z,V.bool b8] 151::Ax.cells [A x9,A Ps,A Pr,A Px] 37::Ax.cells [A x9,A Ps] 149::Ax.cells [A (ci S W x9 U),A (cj R W Ps U),A (ci S W x9 Q),A (cj R W Ps Q)] 149::Ax.hid::Ax.cells [A Pr,A Ps] 149::Ax.cells [A (ci S W Pr U),A (cj R W Ps U),A (ci S W Pr Q),A (cj R W Ps Q)] 149::Ax.hid::Ax.cells [A Pr,A Px] 149::Ax.cells [A (ci S W Pr U),A (cj R W Px U),A (ci S W Pr Q),A (cj R W Px Q)] 149::Ax.hid::Ax.cells [A x9,A Px] 149::Ax.cells [A (ci S W x9 U),A (cj R W Px U),A (ci S W x9 Q),A (cj R W Px Q)] 149::l
def lW:jI->bS×List Ax×Option Ex
 |.L0 Pt SJ=>([(8,A Pt),(0,V.gs 13 8),(1,A 0),(2,A (↑8:Int)),(3,V.fn 199 [] [])],o6 S R W U Q x5 x6 Z b8 x9 Ps Pr Px [Ax.gl 2 8 (D aM SJ) 149],none)|.L1 QV Qz RU=>([(9,A QV),(8,A Qz),(0,V.gs 13 8),(1,A 0),(2,A (↑8:Int)),(3,V.fn 199 [] [])],o6 S R W U Q x5 x6 Z b8 x9 Ps Pr Px [Ax.gl 2 8 (D aM RU) 149],none)|.L2 QX Ss ..=>([(3,A QX),(8,V.kb false),(2,V.ns),(0,V.gs 13 8)],o6 S R W U Q x5 x6 Z b8 x9 Ps Pr Px [Ax.gl 2 8 (D aM Ss) 149],none)|.L3 RA Sr UO Uc V6 Yb ZL Yc Rs Su ..=>([(5,A RA),(4,V.go 13 Sr UO),(28,V.go 13 Sr UO),(27,A Uc),(26,V.gs 13 8),(25,V.kb true),(24,V.agg [A V6,A Yb]),(23,V.pe 13 ZL 0),(22,A Yc),(21,A Uc),(20,V.gs 13 8),(10,A Uc),(3,A Rs),(8,V.kb false),(2,V.ns),(0,V.gs 13 8)],o6 S R W U Q x5 x6 Z b8 x9 Ps Pr Px [Ax.gl 2 8 (D aM Su) 149],none)|.L4 RE W0 SU Wy ..=>([(10,A RE),(9,A (↑8:Int)),(8,V.gs 13 8),(3,A 0),(0,V.gs 13 8),(1,V.pl 14 0)],o6 S R W U Q x5 x6 Z b8 x9 Ps Pr Px [Ax.gl 2 8 (D aM W0) 149,Ax.cells [V.gs 15 SU] 156,Ax.gl 2 SU (D aM Wy) 149],none)|.L5 R1 Yd S8 Wx Va U0=>([(40,A R1),(39,A Yd),(38,V.gs 0 S8),(8,V.bool Wx),(5,V.gs 0 S8),(16,A (E (E (E (E (0+1)+1)+1)+1))),(15,V.agg [A x9,A Ps,A Pr,A Ps,A Pr,A Px,A x9,A Px]),(2,V.pl 1 0)],[Ax.gl 2 Va (D aM U0) 149,Ax.cells [A S,A R,A W,A U,A Q,A x5,A x6,A Z,V.bool b8] 151],none)|.L7 V7 W2 RR Tu Uk Vb UQ ..=>([(5,V.pl 15 0),(10,A V7),(9,A (↑8:Int)),(8,V.gs 13 8),(3,A 0),(0,V.gs 13 8),(1,V.pl 14 0)],o6 S R W U Q x5 x6 Z b8 x9 Ps Pr Px [Ax.gl 2 8 (D aM W2) 149,Ax.cells [V.gs 16 RR] 156,Ax.cells [A Tu,A Uk] 149,Ax.gl 2 Vb (D aM UQ) 149],none)|.L12 Vt c5 XW W5 Up Wz ..=>([(10,A Vt),(9,A c5),(8,V.gs 13 XW),(3,A 0),(0,V.gs 13 XW),(1,V.pl 14 0)],o6 S R W U Q x5 x6 Z b8 x9 Ps Pr Px [Ax.gl 2 8 (D aM W5) 149,Ax.cells [V.gs 15 Up] 156,Ax.gl 2 Up (D aM Wz) 149],none)|.L13 TT TV Tk ZO XX WZ ..=>([(3,A TT),(2,A TV),(5,A (↑8:Int)),(4,V.gs 13 8),(0,V.gs 13 8)],o6 S R W U Q x5 x6 Z b8 x9 Ps Pr Px [Ax.gl 2 8 (D aM Tk) 149,Ax.cells [V.gs 15 ZO] 156,Ax.gl 2 XX (D aM WZ) 149],none)|.L14 Ye Yf XY W6 RZ WT WU Vd UR ..=>([(5,V.pl 15 0),(10,A Ye),(9,A Yf),(8,V.gs 13 XY),(3,A 0),(0,V.gs 13 XY),(1,V.pl 14 0)],o6 S R W U Q x5 x6 Z b8 x9 Ps Pr Px [Ax.gl 2 8 (D aM W6) 149,Ax.cells [V.gs 16 RZ] 156,Ax.cells [A WT,A WU] 149,Ax.gl 2 Vd (D aM UR) 149],none)|.L15 TW TY em UP Tm ZS XZ Wa ..=>([(3,A TW),(2,A TY),(5,A em),(4,V.gs 13 UP),(0,V.gs 13 UP)],o6 S R W U Q x5 x6 Z b8 x9 Ps Pr Px [Ax.gl 2 8 (D aM Tm) 149,Ax.cells [V.gs 15 ZS] 156,Ax.gl 2 XZ (D aM Wa) 149],none)|.L18 wg X0 Xa Xd Zq ..=>([(10,A 0),(9,A (↑8:Int)),(8,V.gs 13 8),(3,A wg),(0,V.gs 13 8),(1,V.pl 14 0)],o6 S R W U Q x5 x6 Z b8 x9 Ps Pr Px [Ax.gl 2 8 (D aM X0) 149,Ax.cells [V.gs 15 Xa] 156,Ax.gl 2 Xd (D aM Zq) 149],none)|.L20 Um W7 Ra U9 US VO VP ..=>([(5,V.pl 16 0),(10,A 0),(9,A (↑8:Int)),(8,V.gs 13 8),(3,A Um),(0,V.gs 13 8),(1,V.pl 14 0)],o6 S R W U Q x5 x6 Z b8 x9 Ps Pr Px [Ax.gl 2 8 (D aM W7) 149,Ax.cells [V.gs 15 Ra] 156,Ax.gl 2 U9 (D aM US) 149,Ax.cells [A VO,A VP] 149],none)|.L22 Fe Ir X1 UA nz14 nz17 X3 ..=>([(10,A Fe),(5,V.pl 16 0),(9,A (↑8:Int)),(8,V.gs 13 8),(3,A Ir),(0,V.gs 13 8),(1,V.pl 14 0)],o6 S R W U Q x5 x6 Z b8 x9 Ps Pr Px [Ax.gl 2 8 (D aM X1) 149,Ax.cells [V.gs 17 UA] 156,Ax.hid,Ax.cells [A nz14,A nz17] 149,Ax.gl 2 UA (D aM X3) 149],none)|.L23 Yq EH W8 Rb VQ VR Vf UT ..=>([(5,V.pl 16 0),(10,A Yq),(9,A (↑8:Int)),(8,V.gs 13 8),(3,A EH),(0,V.gs 13 8),(1,V.pl 14 0)],o6 S R W U Q x5 x6 Z b8 x9 Ps Pr Px [Ax.gl 2 8 (D aM W8) 149,Ax.cells [V.gs 17 Rb] 156,Ax.hid,Ax.cells [A VQ,A VR] 149,Ax.gl 2 Vf (D aM UT) 149],none)|.L24 e₂ Xe xM X5 Uq WW X6 ..=>([(10,A 0),(9,A e₂),(8,V.gs 13 Xe),(3,A xM),(0,V.gs 13 Xe),(1,V.pl 14 0)],o6 S R W U Q x5 x6 Z b8 x9 Ps Pr Px [Ax.gl 2 8 (D aM X5) 149,Ax.cells [V.gs 15 Uq] 156,Ax.gl 2 WW (D aM X6) 149],none)|.L25 Yv Xf Un W9 Rc UB UU VS VT ..=>([(5,V.pl 16 0),(10,A 0),(9,A Yv),(8,V.gs 13 Xf),(3,A Un),(0,V.gs 13 Xf),(1,V.pl 14 0)],o6 S R W U Q x5 x6 Z b8 x9 Ps Pr Px [Ax.gl 2 8 (D aM W9) 149,Ax.cells [V.gs 15 Rc] 156,Ax.gl 2 UB (D aM UU) 149,Ax.cells [A VS,A VT] 149],none)|.L26 Vu f0 Xg yN X7 UD iza6 iza7 X8 ..=>([(10,A Vu),(5,V.pl 16 0),(9,A f0),(8,V.gs 13 Xg),(3,A yN),(0,V.gs 13 Xg),(1,V.pl 14 0)],o6 S R W U Q x5 x6 Z b8 x9 Ps Pr Px [Ax.gl 2 8 (D aM X7) 149,Ax.cells [V.gs 17 UD] 156,Ax.hid,Ax.cells [A iza6,A iza7] 149,Ax.gl 2 UD (D aM X8) 149],none)|.L27 Z6 Z7 Xh Uo WA Re VU VV Vg UV ..=>([(5,V.pl 16 0),(10,A Z6),(9,A Z7),(8,V.gs 13 Xh),(3,A Uo),(0,V.gs 13 Xh),(1,V.pl 14 0)],o6 S R W U Q x5 x6 Z b8 x9 Ps Pr Px [Ax.gl 2 8 (D aM WA) 149,Ax.cells [V.gs 17 Re] 156,Ax.hid,Ax.cells [A VU,A VV] 149,Ax.gl 2 Vg (D aM UV) 149],none)
def ayu:jI->JJ
 |.L0 ..=>(0,[])|.L1 ..=>(1,[])|.L2 _ _ Rk TG=>(2,[Cx.i Rk,Cx.f TG])|.L3 _ _ _ _ _ _ _ _ _ _ ah Zj=>(3,[Cx.i ah,Cx.f Zj])|.L4 _ _ _ _ Vq Zl=>(4,[Cx.i Vq,Cx.f Zl])|.L5 ..=>(5,[])|.L7 _ _ _ _ _ _ _ Vs Xj=>(7,[Cx.i Vs,Cx.f Xj])|.L12 _ _ _ _ _ _ cn fb fg d3 cd ce f5 ch Wu Zm=>(12,[Cx.i cn,Cx.n fb,Cx.n fg,Cx.i d3,Cx.i cd,Cx.i ce,Cx.n f5,Cx.i ch,Cx.i Wu,Cx.f Zm])|.L13 _ _ _ _ _ _ de Zn=>(13,[Cx.i de,Cx.f Zn])|.L14 _ _ _ _ _ _ _ _ _ Ym ZP ZQ Yg Yh Yi ZR Yj Yl Xk=>(14,[Cx.i Ym,Cx.n ZP,Cx.n ZQ,Cx.i Yg,Cx.i Yh,Cx.i Yi,Cx.n ZR,Cx.i Yj,Cx.i Yl,Cx.f Xk])|.L15 _ _ _ _ _ _ _ _ eq gu g7 dn eL eU gt ee XQ Zo=>(15,[Cx.i eq,Cx.n gu,Cx.n g7,Cx.i dn,Cx.i eL,Cx.i eU,Cx.n gt,Cx.i ee,Cx.i XQ,Cx.f Zo])|.L18 _ _ Xa Xd _ wt w₂ jf jg x0 j0=>(18,[Cx.i wt,Cx.i w₂,Cx.f jf,Cx.n Xa,Cx.n Xd,Cx.f jg,Cx.i x0,Cx.f j0])|.L20 _ _ _ U9 _ _ _ Yo Yp Xn ZT Xl Yn Xm=>(20,[Cx.i Yo,Cx.i Yp,Cx.f Xn,Cx.n ZT,Cx.n U9,Cx.f Xl,Cx.i Yn,Cx.f Xm])|.L22 _ _ _ _ _ _ _ x2 x3 k₁ z8 zF k9 x1 kG=>(18,[Cx.i x2,Cx.i x3,Cx.f k₁,Cx.n z8,Cx.n zF,Cx.f k9,Cx.i x1,Cx.f kG])|.L23 _ _ _ _ _ _ _ _ Ys Yt Xp ZU ZV Xq Yr Xr=>(20,[Cx.i Ys,Cx.i Yt,Cx.f Xp,Cx.n ZU,Cx.n ZV,Cx.f Xq,Cx.i Yr,Cx.f Xr])|.L24 _ _ _ _ Uq WW _ xY xe xg zH lx ly x4 zN zP x7 x8 xK zQ xP xS l₁=>(24,[Cx.i xY,Cx.i xe,Cx.i xg,Cx.n zH,Cx.f lx,Cx.n Uq,Cx.n WW,Cx.f ly,Cx.i x4,Cx.n zN,Cx.n zP,Cx.i x7,Cx.i x8,Cx.i xK,Cx.n zQ,Cx.i xP,Cx.i xS,Cx.f l₁])|.L25 _ _ _ _ _ UB _ _ _ Z5 Yx Yy ZW Xt ZX Xu Yz ZY ZZ Z0 Z1 Z2 Za Z3 Z4 Xv=>(25,[Cx.i Z5,Cx.i Yx,Cx.i Yy,Cx.n ZW,Cx.f Xt,Cx.n ZX,Cx.n UB,Cx.f Xu,Cx.i Yz,Cx.n ZY,Cx.n ZZ,Cx.i Z0,Cx.i Z1,Cx.i Z2,Cx.n Za,Cx.i Z3,Cx.i Z4,Cx.f Xv])|.L26 _ _ _ _ _ _ _ _ _ yP xi xw zU n0 zY zZ n2 xy zd zg y6 yA yC zv yD yF nB=>(24,[Cx.i yP,Cx.i xi,Cx.i xw,Cx.n zU,Cx.f n0,Cx.n zY,Cx.n zZ,Cx.f n2,Cx.i xy,Cx.n zd,Cx.n zg,Cx.i y6,Cx.i yA,Cx.i yC,Cx.n zv,Cx.i yD,Cx.i yF,Cx.f nB])|.L27 _ _ _ _ _ _ _ _ _ _ Z8 Z9 ZC Zb Xw Zc Zd Xx ZD Ze Zf ZF ZG ZH Zg ZI ZJ Xy=>(25,[Cx.i Z8,Cx.i Z9,Cx.i ZC,Cx.n Zb,Cx.f Xw,Cx.n Zc,Cx.n Zd,Cx.f Xx,Cx.i ZD,Cx.n Ze,Cx.n Zf,Cx.i ZF,Cx.i ZG,Cx.i ZH,Cx.n Zg,Cx.i ZI,Cx.i ZJ,Cx.f Xy])
def api:Bh (cq JJ):=aQ JJ jk Em avw [V.agg [A S,A R,A W,A U,A Q,A x5,A x6,A Z,V.bool b8],V.agg [A x9,A Ps,A Pr,A Px]]
def BS (cx:List Cx):Lp JJ:=eX (eJ (api S R W U Q x5 x6 Z b8 x9 Ps Pr Px) [false,true,true,true,true,false,true])
def aj1 (cx:List Cx):Lp JJ:=eX (eJ (oV jk Em (0,[]) (BS S R W U Q x5 x6 Z b8 x9 Ps Pr Px []) (lW S R W U Q x5 x6 Z b8 x9 Ps Pr Px (.L0 (0:Int) (λ_=>[])))) [true])
def Pb (cx:List Cx):Lp JJ:=eX (eJ (oV jk Em (0,[]) (BS S R W U Q x5 x6 Z b8 x9 Ps Pr Px []) (lW S R W U Q x5 x6 Z b8 x9 Ps Pr Px (.L0 (dv cx 0) (lT cx 1)))) J6)
def Hu (cx:List Cx):Lp JJ:=eX (eJ (oV jk Em (2,[.i (dv cx 0),.f (lT cx 1)]) (Pb S R W U Q x5 x6 Z b8 x9 Ps Pr Px [.i (dv cx 0),.f (lT cx 1)]) (lW S R W U Q x5 x6 Z b8 x9 Ps Pr Px (.L2 (0:Int) (λ_=>[]) (dv cx 0) (lT cx 1)))) HA)
def Hg (cx:List Cx):Lp JJ:=eX (eJ (oV jk Em (2,[.i (0:Int),.f (λ_=>[])]) (Pb S R W U Q x5 x6 Z b8 x9 Ps Pr Px [.i (0:Int),.f (λ_=>[])]) (lW S R W U Q x5 x6 Z b8 x9 Ps Pr Px (.L2 (dv cx 0) (lT cx 1) (0:Int) (λ_=>[])))) J6)
def agu (cx:List Cx):Lp JJ:=eX (eJ (oV jk Em (3,[.i (0:Int),.f (λ_=>[])]) (Hu S R W U Q x5 x6 Z b8 x9 Ps Pr Px [.i (0:Int),.f (λ_=>[])]) (lW S R W U Q x5 x6 Z b8 x9 Ps Pr Px (.L3 (0:Int) 0 0 (0:Int) (0:Int) (0:Int) 0 (0:Int) (0:Int) (λ_=>[]) (0:Int) (λ_=>[])))) [false,true])
section
variable (cx:List Cx)
include cx
def alX:Lp JJ:=eX (eJ (oV jk Em (4,[.i (dv cx 0),.f (lT cx 1)]) (Hg S R W U Q x5 x6 Z b8 x9 Ps Pr Px [.i (dv cx 0),.f (lT cx 1)]) (lW S R W U Q x5 x6 Z b8 x9 Ps Pr Px (.L4 (0:Int) (λ_=>[]) 0 (λ_=>[]) (dv cx 0) (lT cx 1)))) [true])
def Bm:Lp JJ:=eX (eJ (oV jk Em (3,[.i (0:Int),.f (λ_=>[])]) (Hu S R W U Q x5 x6 Z b8 x9 Ps Pr Px [.i (0:Int),.f (λ_=>[])]) (lW S R W U Q x5 x6 Z b8 x9 Ps Pr Px (.L3 (dv cx 0) (fU cx 1) (fU cx 2) (dv cx 3) (dv cx 4) (dv cx 5) (fU cx 6) (dv cx 7) (dv cx 8) (lT cx 9) (0:Int) (λ_=>[])))) J6)
def af3:Lp JJ:=eX (eJ (oV jk Em (4,[.i (dv cx 0),.f (lT cx 1)]) (Hg S R W U Q x5 x6 Z b8 x9 Ps Pr Px [.i (dv cx 0),.f (lT cx 1)]) (lW S R W U Q x5 x6 Z b8 x9 Ps Pr Px (.L4 (0:Int) (λ_=>[]) 0 (λ_=>[]) (dv cx 0) (lT cx 1)))) [false])
def m63:Lp JJ:=eX (eJ (oV jk Em (12,[.i (dv cx 0),.n (fU cx 1),.n (fU cx 2),.i (dv cx 3),.i (dv cx 4),.i (dv cx 5),.n (fU cx 6),.i (dv cx 7),.i (dv cx 8),.f (lT cx 9)]) (Bm S R W U Q x5 x6 Z b8 x9 Ps Pr Px [.i (dv cx 0),.n (fU cx 1),.n (fU cx 2),.i (dv cx 3),.i (dv cx 4),.i (dv cx 5),.n (fU cx 6),.i (dv cx 7),.i (dv cx 8),.f (lT cx 9)]) (lW S R W U Q x5 x6 Z b8 x9 Ps Pr Px (.L12 (0:Int) (0:Int) 0 (λ_=>[]) 0 (λ_=>[]) (dv cx 0) (fU cx 1) (fU cx 2) (dv cx 3) (dv cx 4) (dv cx 5) (fU cx 6) (dv cx 7) (dv cx 8) (lT cx 9)))) [true])
def amJ:Lp JJ:=eX (eJ (oV jk Em (12,[.i (dv cx 0),.n (fU cx 1),.n (fU cx 2),.i (dv cx 3),.i (dv cx 4),.i (dv cx 5),.n (fU cx 6),.i (dv cx 7),.i (dv cx 8),.f (lT cx 9)]) (Bm S R W U Q x5 x6 Z b8 x9 Ps Pr Px [.i (dv cx 0),.n (fU cx 1),.n (fU cx 2),.i (dv cx 3),.i (dv cx 4),.i (dv cx 5),.n (fU cx 6),.i (dv cx 7),.i (dv cx 8),.f (lT cx 9)]) (lW S R W U Q x5 x6 Z b8 x9 Ps Pr Px (.L12 (0:Int) (0:Int) 0 (λ_=>[]) 0 (λ_=>[]) (dv cx 0) (fU cx 1) (fU cx 2) (dv cx 3) (dv cx 4) (dv cx 5) (fU cx 6) (dv cx 7) (dv cx 8) (lT cx 9)))) [false])
def ai2:Lp JJ:=eX (eJ (oV jk Em (13,[.i (dv cx 6),.f (lT cx 7)]) (af3 S R W U Q x5 x6 Z b8 x9 Ps Pr Px [.i (dv cx 6),.f (lT cx 7)]) (lW S R W U Q x5 x6 Z b8 x9 Ps Pr Px (.L13 (dv cx 0) (dv cx 1) (lT cx 2) (fU cx 3) (fU cx 4) (lT cx 5) (dv cx 6) (lT cx 7)))) [false])
def iy9:Lp JJ:=eX (eJ (oV jk Em (18,[.i (dv cx 0),.i (dv cx 1),.f (lT cx 2),.n (fU cx 3),.n (fU cx 4),.f (lT cx 5),.i (dv cx 6),.f (lT cx 7)]) (ai2 S R W U Q x5 x6 Z b8 x9 Ps Pr Px [.i (dv cx 0),.i (dv cx 1),.f (lT cx 2),.n (fU cx 3),.n (fU cx 4),.f (lT cx 5),.i (dv cx 6),.f (lT cx 7)]) (lW S R W U Q x5 x6 Z b8 x9 Ps Pr Px (.L18 (0:Int) (λ_=>[]) (fU cx 3) (fU cx 4) (λ_=>[]) (dv cx 0) (dv cx 1) (lT cx 2) (lT cx 5) (dv cx 6) (lT cx 7)))) [true])
def aiq:Lp JJ:=eX (eJ (oV jk Em (15,[.i (dv cx 8),.n (fU cx 9),.n (fU cx 10),.i (dv cx 11),.i (dv cx 12),.i (dv cx 13),.n (fU cx 14),.i (dv cx 15),.i (dv cx 16),.f (lT cx 17)]) (amJ S R W U Q x5 x6 Z b8 x9 Ps Pr Px [.i (dv cx 8),.n (fU cx 9),.n (fU cx 10),.i (dv cx 11),.i (dv cx 12),.i (dv cx 13),.n (fU cx 14),.i (dv cx 15),.i (dv cx 16),.f (lT cx 17)]) (lW S R W U Q x5 x6 Z b8 x9 Ps Pr Px (.L15 (dv cx 0) (dv cx 1) (dv cx 2) (fU cx 3) (lT cx 4) (fU cx 5) (fU cx 6) (lT cx 7) (dv cx 8) (fU cx 9) (fU cx 10) (dv cx 11) (dv cx 12) (dv cx 13) (fU cx 14) (dv cx 15) (dv cx 16) (lT cx 17)))) [false])
def m72:Lp JJ:=eX (eJ (oV jk Em (24,[.i (dv cx 0),.i (dv cx 1),.i (dv cx 2),.n (fU cx 3),.f (lT cx 4),.n (fU cx 5),.n (fU cx 6),.f (lT cx 7),.i (dv cx 8),.n (fU cx 9),.n (fU cx 10),.i (dv cx 11),.i (dv cx 12),.i (dv cx 13),.n (fU cx 14),.i (dv cx 15),.i (dv cx 16),.f (lT cx 17)]) (aiq S R W U Q x5 x6 Z b8 x9 Ps Pr Px [.i (dv cx 0),.i (dv cx 1),.i (dv cx 2),.n (fU cx 3),.f (lT cx 4),.n (fU cx 5),.n (fU cx 6),.f (lT cx 7),.i (dv cx 8),.n (fU cx 9),.n (fU cx 10),.i (dv cx 11),.i (dv cx 12),.i (dv cx 13),.n (fU cx 14),.i (dv cx 15),.i (dv cx 16),.f (lT cx 17)]) (lW S R W U Q x5 x6 Z b8 x9 Ps Pr Px (.L24 (0:Int) 0 (0:Int) (λ_=>[]) (fU cx 5) (fU cx 6) (λ_=>[]) (dv cx 0) (dv cx 1) (dv cx 2) (fU cx 3) (lT cx 4) (lT cx 7) (dv cx 8) (fU cx 9) (fU cx 10) (dv cx 11) (dv cx 12) (dv cx 13) (fU cx 14) (dv cx 15) (dv cx 16) (lT cx 17)))) [true])
end
def awc:JJ->Lp JJ
 |(0,cx)=>BS S R W U Q x5 x6 Z b8 x9 Ps Pr Px cx|(1,cx)=>aj1 S R W U Q x5 x6 Z b8 x9 Ps Pr Px cx|(2,cx)=>Pb S R W U Q x5 x6 Z b8 x9 Ps Pr Px cx|(3,cx)=>Hu S R W U Q x5 x6 Z b8 x9 Ps Pr Px cx|(4,cx)=>Hg S R W U Q x5 x6 Z b8 x9 Ps Pr Px cx|(5,cx)=>agu S R W U Q x5 x6 Z b8 x9 Ps Pr Px cx|(7,cx)=>alX S R W U Q x5 x6 Z b8 x9 Ps Pr Px cx|(12,cx)=>Bm S R W U Q x5 x6 Z b8 x9 Ps Pr Px cx|(13,cx)=>af3 S R W U Q x5 x6 Z b8 x9 Ps Pr Px cx|(14,cx)=>m63 S R W U Q x5 x6 Z b8 x9 Ps Pr Px cx|(15,cx)=>amJ S R W U Q x5 x6 Z b8 x9 Ps Pr Px cx|(18,cx)=>ai2 S R W U Q x5 x6 Z b8 x9 Ps Pr Px cx|(20,cx)=>iy9 S R W U Q x5 x6 Z b8 x9 Ps Pr Px cx|(24,cx)=>aiq S R W U Q x5 x6 Z b8 x9 Ps Pr Px cx|(25,cx)=>m72 S R W U Q x5 x6 Z b8 x9 Ps Pr Px cx|(_,cx)=>BS S R W U Q x5 x6 Z b8 x9 Ps Pr Px cx
def D57:LD JJ jI:=⟨ayu,awc S R W U Q x5 x6 Z b8 x9 Ps Pr Px,lW S R W U Q x5 x6 Z b8 x9 Ps Pr Px⟩
abbrev I1:=[some (some 18)]
def fl (S R W U Q x5 x6 Z:Int) (b8:Bool) (x9 Ps Pr Px:Int):jI->RT jI
 |.L0 Pt SJ=>.br (decide (Pt<(↑8:Int))) (.enter (iR 0 14 []) (jI.L1 Pt Pt (D aM SJ)) [⟨13,aM,8,D aM SJ,aJ rfl _ _⟩]) (.brf (.enter (iR 0 14 []) (jI.L2 1 (D aM SJ) Pt SJ) [⟨13,aM,8,D aM SJ,aJ rfl _ _⟩]))|.L1 QV Qz RU=>.ii (.obj (decide (0<QV)) (decide (0<=QV/\QV<(↑8:Int)/\8<=8)) (.obi (.obj (decide (0<QV)) (decide (QV.toNat<8)) (.ii (.obi (.obj (decide (0<QV)) (decide (0<=E (QV-1)/\E (QV-1)<(↑8:Int)/\8<=8)) (.obi (.obj (decide (0<QV)) (decide ((E (QV-1)).toNat<8)) (.br (decide (0<QV)) (.ob (decide (0<QV)) (.ob (decide (0<QV)) (.ob (decide (0<QV)) (.cb (.br (decide (rP (av (RU QV.toNat)) (aP (RU QV.toNat)) (av (RU (E (QV-1)).toNat)) (aP (RU (E (QV-1)).toNat))<0)) (.ob (decide (0<=E (QV-1)/\E (QV-1)<(↑8:Int)/\8<=8)) (.ob (decide ((E (QV-1)).toNat<8)) (.ob (decide (0<=QV/\QV<(↑8:Int)/\8<=8)) (.ob (decide (QV.toNat<8)) (.ob (decide (0<=QV/\QV<(↑8:Int)/\8<=8)) (.ob (decide (QV.toNat<8)) (.ob (decide (0<=E (QV-1)/\E (QV-1)<(↑8:Int)/\8<=8)) (.ob (decide ((E (QV-1)).toNat<8)) (.next (iR 0 14 []) (jI.L1 (E (QV-1)) Qz (λi'=>bif i'.beq (E (QV-1)).toNat then [A (av (RU QV.toNat)),A (aP (RU QV.toNat))] else bif i'.beq QV.toNat then [A (av (RU (E (QV-1)).toNat)),A (aP (RU (E (QV-1)).toNat))] else D aM RU i')) [⟨13,aM,8,λi'=>bif i'.beq (E (QV-1)).toNat then [A (av (RU QV.toNat)),A (aP (RU QV.toNat))] else bif i'.beq QV.toNat then [A (av (RU (E (QV-1)).toNat)),A (aP (RU (E (QV-1)).toNat))] else D aM RU i',oG rfl (oG rfl (aJ rfl _ _) rfl) rfl⟩]))))))))) (.next (iR 0 14 []) (jI.L0 (E (Qz+1)) (D aM RU)) [⟨13,aM,8,D aM RU,aJ rfl _ _⟩])))))) (.next (iR 0 14 []) (jI.L0 (E (Qz+1)) (D aM RU)) [⟨13,aM,8,D aM RU,aJ rfl _ _⟩]))))))))))|.L2 QX Ss Rk TG=>.br (decide (QX<(↑8:Int))) (.ob (decide (0<=QX/\QX<(↑8:Int)/\8<=8)) (.ob (decide (QX.toNat<8)) (.ob (decide (0<=E (QX-1)/\E (QX-1)<(↑8:Int)/\8<=8)) (.ob (decide ((E (QX-1)).toNat<8)) (.br (av (Ss QX.toNat)==av (Ss (E (QX-1)).toNat)&&(aP (Ss QX.toNat)==aP (Ss (E (QX-1)).toNat)&&true)) (.ob (decide (0<=QX/\QX<=(↑8:Int))) (.enter (iR 0 14 []) (jI.L3 1 (QX.toNat) (8-QX.toNat) QX (av (Ss (E (QX-1)).toNat)) (aP (Ss (E (QX-1)).toNat)) ((E (QX-1)).toNat) (E (QX-1)) QX (D aM Ss) Rk TG) [⟨13,aM,8,D aM Ss,aJ rfl _ _⟩])) (.next (iR 0 14 []) (jI.L2 (E (QX+1)) (D aM Ss) Rk TG) [⟨13,aM,8,D aM Ss,aJ rfl _ _⟩])))))) (.brf (.enter (iR 0 15 [some none]) (jI.L4 0 (D aM Ss) 0 (λi=>[]) QX Ss) [⟨13,aM,8,D aM Ss,aJ rfl _ _⟩]))|.L3 RA Sr UO Uc V6 Yb ZL Yc Rs Su ah Zj=>.br (decide (RA<(↑UO:Int))) (.ob (decide (0<=RA/\RA<(↑UO:Int)/\Sr+UO<=8)) (.ob (decide (Sr+RA.toNat<8)) (.ob (decide (0<=E (RA-1)/\E (RA-1)<(↑UO:Int)/\Sr+UO<=8)) (.ob (decide (Sr+(E (RA-1)).toNat<8)) (.br (!(av (Su (Sr+RA.toNat))==av (Su (Sr+(E (RA-1)).toNat))&&(aP (Su (Sr+RA.toNat))==aP (Su (Sr+(E (RA-1)).toNat))&&true))) (.ob (decide (0<=RA/\RA<(↑UO:Int)/\Sr+UO<=8)) (.ob (decide (Sr+RA.toNat<8)) (.ob (decide (0<=Rs/\Rs<(↑8:Int)/\8<=8)) (.ob (decide (Rs.toNat<8)) (.next (iR 0 14 []) (jI.L3 (E (RA+1)) Sr UO Uc V6 Yb ZL Yc (E (Rs+1)) (λi'=>bif i'.beq Rs.toNat then [A (av (Su (Sr+RA.toNat))),A (aP (Su (Sr+RA.toNat)))] else D aM Su i') ah Zj) [⟨13,aM,8,λi'=>bif i'.beq Rs.toNat then [A (av (Su (Sr+RA.toNat))),A (aP (Su (Sr+RA.toNat)))] else D aM Su i',oG rfl (aJ rfl _ _) rfl⟩]))))) (.next (iR 0 14 []) (jI.L3 (E (RA+1)) Sr UO Uc V6 Yb ZL Yc Rs (D aM Su) ah Zj) [⟨13,aM,8,D aM Su,aJ rfl _ _⟩])))))) (.ob (decide (0<=Rs/\Rs<=(↑8:Int))) (.ob (decide (0<8-Rs.toNat/\Rs.toNat+(8-Rs.toNat)<=8)) (.ob (decide (0<=Rs/\Rs<=(↑8:Int))) (.br (decide ((↑Rs.toNat:Int)<3)) (.enter [some (some 13),some (some 0)] (jI.L5 0 ((↑Rs.toNat:Int)) (Rs.toNat) (decide (2<(↑Rs.toNat:Int))) 8 (λi=>bif Rs.toNat.ble i&&i.succ.ble (Rs.toNat+(8-Rs.toNat)) then Dj else D aM Su i)) [⟨0,aM,8,λi=>bif Rs.toNat.ble i&&i.succ.ble (Rs.toNat+(8-Rs.toNat)) then Dj else D aM Su i,adA rfl (aJ rfl _ _) rfl⟩]) (.enter (iR 0 15 [some none]) (jI.L12 0 ((↑Rs.toNat:Int)) (Rs.toNat) (λi=>bif Rs.toNat.ble i&&i.succ.ble (Rs.toNat+(8-Rs.toNat)) then Dj else D aM Su i) 0 (λi=>[]) RA Sr UO Uc V6 Yb ZL Yc Rs Su) [⟨13,aM,8,λi=>bif Rs.toNat.ble i&&i.succ.ble (Rs.toNat+(8-Rs.toNat)) then Dj else D aM Su i,adA rfl (aJ rfl _ _) rfl⟩])))))|.L4 RE W0 SU Wy Vq Zl=>.br (decide (RE<(↑8:Int))) (.ob (decide (0<=RE/\RE<(↑8:Int)/\8<=8)) (.ob (decide (RE.toNat<8)) (.enter (iR 0 15 [some (some 16),some (some 15)]) (jI.L7 RE (D aM W0) SU (av (W0 RE.toNat)) (aP (W0 RE.toNat)) SU (D aM Wy) Vq Zl) [⟨13,aM,8,D aM W0,aJ rfl _ _⟩,⟨16,aM,SU,D aM Wy,aJ rfl _ _⟩]))) (.ob (decide (0<=E ((↑SU:Int)-1)/\E ((↑SU:Int)-1)<=(↑SU:Int))) (.enter (iR 0 16 []) (jI.L13 (E ((↑8:Int)-1)) 0 (D aM W0) ((E ((↑SU:Int)-1)).toNat) SU (D aM Wy) Vq Zl) [⟨13,aM,8,D aM W0,aJ rfl _ _⟩,⟨15,aM,SU,D aM Wy,aJ rfl _ _⟩]))|.L5 R1 Yd S8 Wx Va U0=>.br (decide (R1<Yd)) (.ob (decide (0<=R1/\R1<(↑S8:Int)/\S8<=Va)) (.ob (decide (R1.toNat<Va)) (.ob (decide ((↑S8:Int)≠0)) (.ob (decide (0<=(E (R1+1)).tmod (↑S8:Int)/\(E (R1+1)).tmod (↑S8:Int)<(↑S8:Int)/\S8<=Va)) (.ob (decide (((E (R1+1)).tmod (↑S8:Int)).toNat<Va)) (.cb (.br (kt (av (U0 R1.toNat)) (aP (U0 R1.toNat)) (av (U0 ((E (R1+1)).tmod (↑S8:Int)).toNat)) (aP (U0 ((E (R1+1)).tmod (↑S8:Int)).toNat)) x5 x6 Z) (.ret (V.kb true)) (.obi (.br (Wx) (.ob (Wx) (.ob (Wx) (.cb (.next Dv (jI.L5 (E (R1+1)) Yd S8 (decide (0<kM (av (U0 R1.toNat)) (aP (U0 R1.toNat)) (av (U0 ((E (R1+1)).tmod (↑S8:Int)).toNat)) (aP (U0 ((E (R1+1)).tmod (↑S8:Int)).toNat)) x5 x6)) Va (D aM U0)) [⟨0,aM,Va,D aM U0,aJ rfl _ _⟩])))) (.next Dv (jI.L5 (E (R1+1)) Yd S8 (false) Va (D aM U0)) [⟨0,aM,Va,D aM U0,aJ rfl _ _⟩])))))))))) (.ret (V.bool Wx))|.L7 V7 W2 RR Tu Uk Vb UQ Vs Xj=>.iv (.obj (decide (E (0+1)<(↑RR:Int))) (decide (0<=E ((↑RR:Int)-2)/\E ((↑RR:Int)-2)<(↑RR:Int)/\RR<=Vb)) (.obi (.obj (decide (E (0+1)<(↑RR:Int))) (decide ((E ((↑RR:Int)-2)).toNat<Vb)) (.iv (.obj (decide (E (0+1)<(↑RR:Int))) (decide (0<=E ((↑RR:Int)-1)/\E ((↑RR:Int)-1)<(↑RR:Int)/\RR<=Vb)) (.obi (.obj (decide (E (0+1)<(↑RR:Int))) (decide ((E ((↑RR:Int)-1)).toNat<Vb)) (.ii (.br (decide (E (0+1)<(↑RR:Int))) (.ob (decide (E (0+1)<(↑RR:Int))) (.ob (decide (E (0+1)<(↑RR:Int))) (.cb (.br (decide (kM (av (UQ (E ((↑RR:Int)-2)).toNat)) (aP (UQ (E ((↑RR:Int)-2)).toNat)) (av (UQ (E ((↑RR:Int)-1)).toNat)) (aP (UQ (E ((↑RR:Int)-1)).toNat)) Tu Uk<=0)) (.ob (decide (0<=E ((↑RR:Int)-1)/\E ((↑RR:Int)-1)<=(↑RR:Int))) (.next (iR 0 17 []) (jI.L7 V7 (D aM W2) ((E ((↑RR:Int)-1)).toNat) Tu Uk Vb (D aM UQ) Vs Xj) [⟨13,aM,8,D aM W2,aJ rfl _ _⟩,⟨16,aM,Vb,D aM UQ,aJ rfl _ _⟩])) (.obt (.ob (decide (RR<=Vb/\(RR+1)*16<=140737488355328)&&!Nat.beq 16 0) (.next (iR 0 15 I1) (jI.L4 (E (V7+1)) (D aM W2) (RR+1) (bb RR (D aM UQ) λx=>[A Tu,A Uk]) Vs Xj) [⟨13,aM,8,D aM W2,aJ rfl _ _⟩,⟨15,aM,RR+1,bb RR (D aM UQ) λx=>[A Tu,A Uk],gh (aJ rfl _ _) (e8 rfl _ rfl)⟩]))))))) (.obt (.ob (decide (RR<=Vb/\(RR+1)*16<=140737488355328)&&!Nat.beq 16 0) (.next (iR 0 15 I1) (jI.L4 (E (V7+1)) (D aM W2) (RR+1) (bb RR (D aM UQ) λx=>[A Tu,A Uk]) Vs Xj) [⟨13,aM,8,D aM W2,aJ rfl _ _⟩,⟨15,aM,RR+1,bb RR (D aM UQ) λx=>[A Tu,A Uk],gh (aJ rfl _ _) (e8 rfl _ rfl)⟩]))))))))))))|.L12 Vt c5 XW W5 Up Wz cn fb fg d3 cd ce f5 ch Wu Zm=>.br (decide (Vt<c5)) (.ob (decide (0<=Vt/\Vt<(↑XW:Int)/\XW<=8)) (.ob (decide (Vt.toNat<8)) (.enter (iR 0 15 [some (some 16),some (some 15)]) (jI.L14 Vt c5 XW (D aM W5) Up (av (W5 Vt.toNat)) (aP (W5 Vt.toNat)) Up (D aM Wz) cn fb fg d3 cd ce f5 ch Wu Zm) [⟨13,aM,8,D aM W5,aJ rfl _ _⟩,⟨16,aM,Up,D aM Wz,aJ rfl _ _⟩]))) (.ob (decide (0<=E ((↑Up:Int)-1)/\E ((↑Up:Int)-1)<=(↑Up:Int))) (.enter (iR 0 16 []) (jI.L15 (E ((↑Wu.toNat:Int)-1)) 0 ((↑Wu.toNat:Int)) (Wu.toNat) (D aM W5) ((E ((↑Up:Int)-1)).toNat) Up (D aM Wz) cn fb fg d3 cd ce f5 ch Wu Zm) [⟨13,aM,8,D aM W5,aJ rfl _ _⟩,⟨15,aM,Up,D aM Wz,aJ rfl _ _⟩]))|.L13 TT TV Tk ZO XX WZ de Zn=>.br (decide (TV<TT)) (.ob (decide (0<=TT/\TT<(↑8:Int)/\8<=8)) (.ob (decide (TT.toNat<8)) (.ob (decide (0<=TV/\TV<(↑8:Int)/\8<=8)) (.ob (decide (TV.toNat<8)) (.ob (decide (0<=TV/\TV<(↑8:Int)/\8<=8)) (.ob (decide (TV.toNat<8)) (.ob (decide (0<=TT/\TT<(↑8:Int)/\8<=8)) (.ob (decide (TT.toNat<8)) (.next (iR 0 16 []) (jI.L13 (E (TT-1)) (E (TV+1)) (λi'=>bif i'.beq TT.toNat then [A (av (Tk TV.toNat)),A (aP (Tk TV.toNat))] else bif i'.beq TV.toNat then [A (av (Tk TT.toNat)),A (aP (Tk TT.toNat))] else D aM Tk i') ZO XX (D aM WZ) de Zn) [⟨13,aM,8,λi'=>bif i'.beq TT.toNat then [A (av (Tk TV.toNat)),A (aP (Tk TV.toNat))] else bif i'.beq TV.toNat then [A (av (Tk TT.toNat)),A (aP (Tk TT.toNat))] else D aM Tk i',oG rfl (oG rfl (aJ rfl _ _) rfl) rfl⟩,⟨15,aM,XX,D aM WZ,aJ rfl _ _⟩]))))))))) (.enter (iR 0 16 []) (jI.L18 ((↑ZO:Int)) (D aM Tk) ZO XX (D aM WZ) TT TV Tk WZ de Zn) [⟨13,aM,8,D aM Tk,aJ rfl _ _⟩,⟨15,aM,XX,D aM WZ,aJ rfl _ _⟩])|.L14 Ye Yf XY W6 RZ WT WU Vd UR Ym ZP ZQ Yg Yh Yi ZR Yj Yl Xk=>.iv (.obj (decide (E (0+1)<(↑RZ:Int))) (decide (0<=E ((↑RZ:Int)-2)/\E ((↑RZ:Int)-2)<(↑RZ:Int)/\RZ<=Vd)) (.obi (.obj (decide (E (0+1)<(↑RZ:Int))) (decide ((E ((↑RZ:Int)-2)).toNat<Vd)) (.iv (.obj (decide (E (0+1)<(↑RZ:Int))) (decide (0<=E ((↑RZ:Int)-1)/\E ((↑RZ:Int)-1)<(↑RZ:Int)/\RZ<=Vd)) (.obi (.obj (decide (E (0+1)<(↑RZ:Int))) (decide ((E ((↑RZ:Int)-1)).toNat<Vd)) (.ii (.br (decide (E (0+1)<(↑RZ:Int))) (.ob (decide (E (0+1)<(↑RZ:Int))) (.ob (decide (E (0+1)<(↑RZ:Int))) (.cb (.br (decide (kM (av (UR (E ((↑RZ:Int)-2)).toNat)) (aP (UR (E ((↑RZ:Int)-2)).toNat)) (av (UR (E ((↑RZ:Int)-1)).toNat)) (aP (UR (E ((↑RZ:Int)-1)).toNat)) WT WU<=0)) (.ob (decide (0<=E ((↑RZ:Int)-1)/\E ((↑RZ:Int)-1)<=(↑RZ:Int))) (.next (iR 0 17 []) (jI.L14 Ye Yf XY (D aM W6) ((E ((↑RZ:Int)-1)).toNat) WT WU Vd (D aM UR) Ym ZP ZQ Yg Yh Yi ZR Yj Yl Xk) [⟨13,aM,8,D aM W6,aJ rfl _ _⟩,⟨16,aM,Vd,D aM UR,aJ rfl _ _⟩])) (.obt (.ob (decide (RZ<=Vd/\(RZ+1)*16<=140737488355328)&&!Nat.beq 16 0) (.next (iR 0 15 I1) (jI.L12 (E (Ye+1)) Yf XY (D aM W6) (RZ+1) (bb RZ (D aM UR) λx=>[A WT,A WU]) Ym ZP ZQ Yg Yh Yi ZR Yj Yl Xk) [⟨13,aM,8,D aM W6,aJ rfl _ _⟩,⟨15,aM,RZ+1,bb RZ (D aM UR) λx=>[A WT,A WU],gh (aJ rfl _ _) (e8 rfl _ rfl)⟩]))))))) (.obt (.ob (decide (RZ<=Vd/\(RZ+1)*16<=140737488355328)&&!Nat.beq 16 0) (.next (iR 0 15 I1) (jI.L12 (E (Ye+1)) Yf XY (D aM W6) (RZ+1) (bb RZ (D aM UR) λx=>[A WT,A WU]) Ym ZP ZQ Yg Yh Yi ZR Yj Yl Xk) [⟨13,aM,8,D aM W6,aJ rfl _ _⟩,⟨15,aM,RZ+1,bb RZ (D aM UR) λx=>[A WT,A WU],gh (aJ rfl _ _) (e8 rfl _ rfl)⟩]))))))))))))|.L15 TW TY em UP Tm ZS XZ Wa eq gu g7 dn eL eU gt ee XQ Zo=>.br (decide (TY<TW)) (.ob (decide (0<=TW/\TW<(↑UP:Int)/\UP<=8)) (.ob (decide (TW.toNat<8)) (.ob (decide (0<=TY/\TY<(↑UP:Int)/\UP<=8)) (.ob (decide (TY.toNat<8)) (.ob (decide (0<=TY/\TY<(↑UP:Int)/\UP<=8)) (.ob (decide (TY.toNat<8)) (.ob (decide (0<=TW/\TW<(↑UP:Int)/\UP<=8)) (.ob (decide (TW.toNat<8)) (.next (iR 0 16 []) (jI.L15 (E (TW-1)) (E (TY+1)) em UP (λi'=>bif i'.beq TW.toNat then [A (av (Tm TY.toNat)),A (aP (Tm TY.toNat))] else bif i'.beq TY.toNat then [A (av (Tm TW.toNat)),A (aP (Tm TW.toNat))] else D aM Tm i') ZS XZ (D aM Wa) eq gu g7 dn eL eU gt ee XQ Zo) [⟨13,aM,8,λi'=>bif i'.beq TW.toNat then [A (av (Tm TY.toNat)),A (aP (Tm TY.toNat))] else bif i'.beq TY.toNat then [A (av (Tm TW.toNat)),A (aP (Tm TW.toNat))] else D aM Tm i',oG rfl (oG rfl (aJ rfl _ _) rfl) rfl⟩,⟨15,aM,XZ,D aM Wa,aJ rfl _ _⟩]))))))))) (.enter (iR 0 16 []) (jI.L24 ((↑XQ.toNat:Int)) (XQ.toNat) ((↑ZS:Int)) (D aM Tm) ZS XZ (D aM Wa) TW TY em UP Tm Wa eq gu g7 dn eL eU gt ee XQ Zo) [⟨13,aM,8,D aM Tm,aJ rfl _ _⟩,⟨15,aM,XZ,D aM Wa,aJ rfl _ _⟩])|.L18 wg X0 Xa Xd Zq wt w₂ jf jg x0 j0=>.brt (.obt (.obt (.enter (iR 0 17 []) (jI.L20 wg (D aM X0) Xa Xd (D aM Zq) (av (X0 0)) (aP (X0 0)) wt w₂ jf Xa jg x0 j0) [⟨13,aM,8,D aM X0,aJ rfl _ _⟩,⟨15,aM,Xd,D aM Zq,aJ rfl _ _⟩])))|.L20 Um W7 Ra U9 US VO VP Yo Yp Xn ZT Xl Yn Xm=>.iv (.obj (decide (E (Um+1)<(↑Ra:Int))) (decide (0<=E ((↑Ra:Int)-2)/\E ((↑Ra:Int)-2)<(↑Ra:Int)/\Ra<=U9)) (.obi (.obj (decide (E (Um+1)<(↑Ra:Int))) (decide ((E ((↑Ra:Int)-2)).toNat<U9)) (.iv (.obj (decide (E (Um+1)<(↑Ra:Int))) (decide (0<=E ((↑Ra:Int)-1)/\E ((↑Ra:Int)-1)<(↑Ra:Int)/\Ra<=U9)) (.obi (.obj (decide (E (Um+1)<(↑Ra:Int))) (decide ((E ((↑Ra:Int)-1)).toNat<U9)) (.ii (.br (decide (E (Um+1)<(↑Ra:Int))) (.ob (decide (E (Um+1)<(↑Ra:Int))) (.ob (decide (E (Um+1)<(↑Ra:Int))) (.cb (.br (decide (kM (av (US (E ((↑Ra:Int)-2)).toNat)) (aP (US (E ((↑Ra:Int)-2)).toNat)) (av (US (E ((↑Ra:Int)-1)).toNat)) (aP (US (E ((↑Ra:Int)-1)).toNat)) VO VP<=0)) (.ob (decide (0<=E ((↑Ra:Int)-1)/\E ((↑Ra:Int)-1)<=(↑Ra:Int))) (.next (iR 0 17 []) (jI.L20 Um (D aM W7) ((E ((↑Ra:Int)-1)).toNat) U9 (D aM US) VO VP Yo Yp Xn ZT Xl Yn Xm) [⟨13,aM,8,D aM W7,aJ rfl _ _⟩,⟨15,aM,U9,D aM US,aJ rfl _ _⟩])) (.obt (.ob (decide (Ra<=U9/\(Ra+1)*16<=140737488355328)&&!Nat.beq 16 0) (.next (iR 0 17 I1) (jI.L22 (E (0+1)) Um (D aM W7) (Ra+1) VO VP (bb Ra (D aM US) λx=>[A VO,A VP]) Yo Yp Xn ZT U9 Xl Yn Xm) [⟨13,aM,8,D aM W7,aJ rfl _ _⟩,⟨17,aM,Ra+1,bb Ra (D aM US) λx=>[A VO,A VP],gh (aJ rfl _ _) (e8 rfl _ rfl)⟩]))))))) (.obt (.ob (decide (Ra<=U9/\(Ra+1)*16<=140737488355328)&&!Nat.beq 16 0) (.next (iR 0 17 I1) (jI.L22 (E (0+1)) Um (D aM W7) (Ra+1) VO VP (bb Ra (D aM US) λx=>[A VO,A VP]) Yo Yp Xn ZT U9 Xl Yn Xm) [⟨13,aM,8,D aM W7,aJ rfl _ _⟩,⟨17,aM,Ra+1,bb Ra (D aM US) λx=>[A VO,A VP],gh (aJ rfl _ _) (e8 rfl _ rfl)⟩]))))))))))))|.L22 Fe Ir X1 UA _ _ X3 x2 x3 k₁ z8 zF k9 x1 kG=>.br (decide (Fe<(↑8:Int))) (.ob (decide (0<=Fe/\Fe<(↑8:Int)/\8<=8)) (.ob (decide (Fe.toNat<8)) (.enter (iR 0 16 [some (some 18),some (some 17)]) (jI.L23 Fe Ir (D aM X1) UA (av (X1 Fe.toNat)) (aP (X1 Fe.toNat)) UA (D aM X3) x2 x3 k₁ z8 zF k9 x1 kG) [⟨13,aM,8,D aM X1,aJ rfl _ _⟩,⟨17,aM,UA,D aM X3,aJ rfl _ _⟩]))) (.ob (decide (0<=E ((↑UA:Int)-1)/\E ((↑UA:Int)-1)<=(↑UA:Int))) (.enter [some (some 17),some (some 0)] (jI.L5 0 ((↑(E ((↑UA:Int)-1)).toNat:Int)) ((E ((↑UA:Int)-1)).toNat) (decide (2<(↑(E ((↑UA:Int)-1)).toNat:Int))) UA (D aM X3)) [⟨0,aM,UA,D aM X3,aJ rfl _ _⟩]))|.L23 Yq EH W8 Rb VQ VR Vf UT Ys Yt Xp ZU ZV Xq Yr Xr=>.iv (.obj (decide (E (EH+1)<(↑Rb:Int))) (decide (0<=E ((↑Rb:Int)-2)/\E ((↑Rb:Int)-2)<(↑Rb:Int)/\Rb<=Vf)) (.obi (.obj (decide (E (EH+1)<(↑Rb:Int))) (decide ((E ((↑Rb:Int)-2)).toNat<Vf)) (.iv (.obj (decide (E (EH+1)<(↑Rb:Int))) (decide (0<=E ((↑Rb:Int)-1)/\E ((↑Rb:Int)-1)<(↑Rb:Int)/\Rb<=Vf)) (.obi (.obj (decide (E (EH+1)<(↑Rb:Int))) (decide ((E ((↑Rb:Int)-1)).toNat<Vf)) (.ii (.br (decide (E (EH+1)<(↑Rb:Int))) (.ob (decide (E (EH+1)<(↑Rb:Int))) (.ob (decide (E (EH+1)<(↑Rb:Int))) (.cb (.br (decide (kM (av (UT (E ((↑Rb:Int)-2)).toNat)) (aP (UT (E ((↑Rb:Int)-2)).toNat)) (av (UT (E ((↑Rb:Int)-1)).toNat)) (aP (UT (E ((↑Rb:Int)-1)).toNat)) VQ VR<=0)) (.ob (decide (0<=E ((↑Rb:Int)-1)/\E ((↑Rb:Int)-1)<=(↑Rb:Int))) (.next (iR 0 18 []) (jI.L23 Yq EH (D aM W8) ((E ((↑Rb:Int)-1)).toNat) VQ VR Vf (D aM UT) Ys Yt Xp ZU ZV Xq Yr Xr) [⟨13,aM,8,D aM W8,aJ rfl _ _⟩,⟨17,aM,Vf,D aM UT,aJ rfl _ _⟩])) (.obt (.ob (decide (Rb<=Vf/\(Rb+1)*16<=140737488355328)&&!Nat.beq 16 0) (.next (iR 0 17 [some (some 19)]) (jI.L22 (E (Yq+1)) EH (D aM W8) (Rb+1) VQ VR (bb Rb (D aM UT) λx=>[A VQ,A VR]) Ys Yt Xp ZU ZV Xq Yr Xr) [⟨13,aM,8,D aM W8,aJ rfl _ _⟩,⟨17,aM,Rb+1,bb Rb (D aM UT) λx=>[A VQ,A VR],gh (aJ rfl _ _) (e8 rfl _ rfl)⟩]))))))) (.obt (.ob (decide (Rb<=Vf/\(Rb+1)*16<=140737488355328)&&!Nat.beq 16 0) (.next (iR 0 17 [some (some 19)]) (jI.L22 (E (Yq+1)) EH (D aM W8) (Rb+1) VQ VR (bb Rb (D aM UT) λx=>[A VQ,A VR]) Ys Yt Xp ZU ZV Xq Yr Xr) [⟨13,aM,8,D aM W8,aJ rfl _ _⟩,⟨17,aM,Rb+1,bb Rb (D aM UT) λx=>[A VQ,A VR],gh (aJ rfl _ _) (e8 rfl _ rfl)⟩]))))))))))))|.L24 e₂ Xe xM X5 Uq WW X6 xY xe xg zH lx ly x4 zN zP x7 x8 xK zQ xP xS l₁=>.br (decide (0<e₂)) (.ob (decide ((0:Int)<=0/\0<(↑Xe:Int)/\Xe<=8)) (.obt (.enter (iR 0 17 []) (jI.L25 e₂ Xe xM (D aM X5) Uq WW (D aM X6) (av (X5 0)) (aP (X5 0)) xY xe xg zH lx Uq ly x4 zN zP x7 x8 xK zQ xP xS l₁) [⟨13,aM,8,D aM X5,aJ rfl _ _⟩,⟨15,aM,WW,D aM X6,aJ rfl _ _⟩]))) (.ob (decide (0<=E ((↑Uq:Int)-1)/\E ((↑Uq:Int)-1)<=(↑Uq:Int))) (.enter [some (some 15),some (some 0)] (jI.L5 0 ((↑(E ((↑Uq:Int)-1)).toNat:Int)) ((E ((↑Uq:Int)-1)).toNat) (decide (2<(↑(E ((↑Uq:Int)-1)).toNat:Int))) WW (D aM X6)) [⟨0,aM,WW,D aM X6,aJ rfl _ _⟩]))|.L25 Yv Xf Un W9 Rc UB UU VS VT Z5 Yx Yy ZW Xt ZX Xu Yz ZY ZZ Z0 Z1 Z2 Za Z3 Z4 Xv=>.iv (.obj (decide (E (Un+1)<(↑Rc:Int))) (decide (0<=E ((↑Rc:Int)-2)/\E ((↑Rc:Int)-2)<(↑Rc:Int)/\Rc<=UB)) (.obi (.obj (decide (E (Un+1)<(↑Rc:Int))) (decide ((E ((↑Rc:Int)-2)).toNat<UB)) (.iv (.obj (decide (E (Un+1)<(↑Rc:Int))) (decide (0<=E ((↑Rc:Int)-1)/\E ((↑Rc:Int)-1)<(↑Rc:Int)/\Rc<=UB)) (.obi (.obj (decide (E (Un+1)<(↑Rc:Int))) (decide ((E ((↑Rc:Int)-1)).toNat<UB)) (.ii (.br (decide (E (Un+1)<(↑Rc:Int))) (.ob (decide (E (Un+1)<(↑Rc:Int))) (.ob (decide (E (Un+1)<(↑Rc:Int))) (.cb (.br (decide (kM (av (UU (E ((↑Rc:Int)-2)).toNat)) (aP (UU (E ((↑Rc:Int)-2)).toNat)) (av (UU (E ((↑Rc:Int)-1)).toNat)) (aP (UU (E ((↑Rc:Int)-1)).toNat)) VS VT<=0)) (.ob (decide (0<=E ((↑Rc:Int)-1)/\E ((↑Rc:Int)-1)<=(↑Rc:Int))) (.next (iR 0 17 []) (jI.L25 Yv Xf Un (D aM W9) ((E ((↑Rc:Int)-1)).toNat) UB (D aM UU) VS VT Z5 Yx Yy ZW Xt ZX Xu Yz ZY ZZ Z0 Z1 Z2 Za Z3 Z4 Xv) [⟨13,aM,8,D aM W9,aJ rfl _ _⟩,⟨15,aM,UB,D aM UU,aJ rfl _ _⟩])) (.obt (.ob (decide (Rc<=UB/\(Rc+1)*16<=140737488355328)&&!Nat.beq 16 0) (.next (iR 0 17 I1) (jI.L26 (E (0+1)) Yv Xf Un (D aM W9) (Rc+1) VS VT (bb Rc (D aM UU) λx=>[A VS,A VT]) Z5 Yx Yy ZW Xt ZX UB Xu Yz ZY ZZ Z0 Z1 Z2 Za Z3 Z4 Xv) [⟨13,aM,8,D aM W9,aJ rfl _ _⟩,⟨17,aM,Rc+1,bb Rc (D aM UU) λx=>[A VS,A VT],gh (aJ rfl _ _) (e8 rfl _ rfl)⟩]))))))) (.obt (.ob (decide (Rc<=UB/\(Rc+1)*16<=140737488355328)&&!Nat.beq 16 0) (.next (iR 0 17 I1) (jI.L26 (E (0+1)) Yv Xf Un (D aM W9) (Rc+1) VS VT (bb Rc (D aM UU) λx=>[A VS,A VT]) Z5 Yx Yy ZW Xt ZX UB Xu Yz ZY ZZ Z0 Z1 Z2 Za Z3 Z4 Xv) [⟨13,aM,8,D aM W9,aJ rfl _ _⟩,⟨17,aM,Rc+1,bb Rc (D aM UU) λx=>[A VS,A VT],gh (aJ rfl _ _) (e8 rfl _ rfl)⟩]))))))))))))|.L26 Vu f0 Xg yN X7 UD _ _ X8 yP xi xw zU n0 zY zZ n2 xy zd zg y6 yA yC zv yD yF nB=>.br (decide (Vu<f0)) (.ob (decide (0<=Vu/\Vu<(↑Xg:Int)/\Xg<=8)) (.ob (decide (Vu.toNat<8)) (.enter (iR 0 16 [some (some 18),some (some 17)]) (jI.L27 (Vu) (f0) (Xg) (yN) (D aM X7) (UD) (av (X7 Vu.toNat)) (aP (X7 Vu.toNat)) (UD) (D aM X8) (yP) (xi) (xw) (zU) (n0) (zY) (zZ) (n2) (xy) (zd) (zg) (y6) (yA) (yC) (zv) (yD) (yF) (nB)) [⟨13,aM,8,D aM X7,aJ rfl _ _⟩,⟨17,aM,UD,D aM X8,aJ rfl _ _⟩]))) (.ob (decide (0<=E ((↑UD:Int)-1)/\E ((↑UD:Int)-1)<=(↑UD:Int))) (.enter [some (some 17),some (some 0)] (jI.L5 0 ((↑(E ((↑UD:Int)-1)).toNat:Int)) ((E ((↑UD:Int)-1)).toNat) (decide (2<(↑(E ((↑UD:Int)-1)).toNat:Int))) (UD) (D aM X8)) [⟨0,aM,UD,D aM X8,aJ rfl _ _⟩]))|.L27 Z6 Z7 Xh Uo WA Re VU VV Vg UV Z8 Z9 ZC Zb Xw Zc Zd Xx ZD Ze Zf ZF ZG ZH Zg ZI ZJ Xy=>.iv (.obj (decide (E (Uo+1)<(↑Re:Int))) (decide (0<=E ((↑Re:Int)-2)/\E ((↑Re:Int)-2)<(↑Re:Int)/\Re<=Vg)) (.obi (.obj (decide (E (Uo+1)<(↑Re:Int))) (decide ((E ((↑Re:Int)-2)).toNat<Vg)) (.iv (.obj (decide (E (Uo+1)<(↑Re:Int))) (decide (0<=E ((↑Re:Int)-1)/\E ((↑Re:Int)-1)<(↑Re:Int)/\Re<=Vg)) (.obi (.obj (decide (E (Uo+1)<(↑Re:Int))) (decide ((E ((↑Re:Int)-1)).toNat<Vg)) (.ii (.br (decide (E (Uo+1)<(↑Re:Int))) (.ob (decide (E (Uo+1)<(↑Re:Int))) (.ob (decide (E (Uo+1)<(↑Re:Int))) (.cb (.br (decide (kM (av (UV (E ((↑Re:Int)-2)).toNat)) (aP (UV (E ((↑Re:Int)-2)).toNat)) (av (UV (E ((↑Re:Int)-1)).toNat)) (aP (UV (E ((↑Re:Int)-1)).toNat)) VU VV<=0)) (.ob (decide (0<=E ((↑Re:Int)-1)/\E ((↑Re:Int)-1)<=(↑Re:Int))) (.next (iR 0 18 []) (jI.L27 (Z6) (Z7) (Xh) (Uo) (D aM WA) ((E ((↑Re:Int)-1)).toNat) (VU) (VV) (Vg) (D aM UV) (Z8) (Z9) (ZC) (Zb) (Xw) (Zc) (Zd) (Xx) (ZD) (Ze) (Zf) (ZF) (ZG) (ZH) (Zg) (ZI) (ZJ) (Xy)) [⟨13,aM,8,D aM WA,aJ rfl _ _⟩,⟨17,aM,Vg,D aM UV,aJ rfl _ _⟩])) (.obt (.ob (decide (Re<=Vg/\(Re+1)*16<=140737488355328)&&!Nat.beq 16 0) (.next (iR 0 17 [some (some 19)]) (jI.L26 (E (Z6+1)) (Z7) (Xh) (Uo) (D aM WA) (Re+1) (VU) (VV) (bb Re (D aM UV) λx=>[A VU,A VV]) (Z8) (Z9) (ZC) (Zb) (Xw) (Zc) (Zd) (Xx) (ZD) (Ze) (Zf) (ZF) (ZG) (ZH) (Zg) (ZI) (ZJ) (Xy)) [⟨13,aM,8,D aM WA,aJ rfl _ _⟩,⟨17,aM,Re+1,bb Re (D aM UV) λx=>[A VU,A VV],gh (aJ rfl _ _) (e8 rfl _ rfl)⟩]))))))) (.obt (.ob (decide (Re<=Vg/\(Re+1)*16<=140737488355328)&&!Nat.beq 16 0) (.next (iR 0 17 [some (some 19)]) (jI.L26 (E (Z6+1)) (Z7) (Xh) (Uo) (D aM WA) (Re+1) (VU) (VV) (bb Re (D aM UV) λx=>[A VU,A VV]) (Z8) (Z9) (ZC) (Zb) (Xw) (Zc) (Zd) (Xx) (ZD) (Ze) (Zf) (ZF) (ZG) (ZH) (Zg) (ZI) (ZJ) (Xy)) [⟨13,aM,8,D aM WA,aJ rfl _ _⟩,⟨17,aM,Re+1,bb Re (D aM UV) λx=>[A VU,A VV],gh (aJ rfl _ _) (e8 rfl _ rfl)⟩]))))))))))))
def m57:RT jI:=dm (x5,x6,Z) (.br (b8) (.ret (V.kb false)) (.cb (.brt (.obt (.cb (.cb (.obt (.obt (.brt (.obt (.cb (.cb (.obt (.obt (.brt (.obt (.cb (.cb (.obt (.obt (.brt (.obt (.cb (.cb (.obt (.obt (.brf (.cb (.brt (.enter (iR 0 14 []) (jI.L0 (E (0+1)) (bb 6 (bb 4 (bb 2 (λi=>List.take 2 (List.drop (i*2) [A (ci S W x9 U),A (cj R W Ps U),A (ci S W x9 Q),A (cj R W Ps Q)])) λi=>List.take 2 (List.drop (i*2) [A (ci S W Pr U),A (cj R W Ps U),A (ci S W Pr Q),A (cj R W Ps Q)])) λi=>List.take 2 (List.drop (i*2) [A (ci S W Pr U),A (cj R W Px U),A (ci S W Pr Q),A (cj R W Px Q)])) λi=>List.take 2 (List.drop (i*2) [A (ci S W x9 U),A (cj R W Px U),A (ci S W x9 Q),A (cj R W Px Q)]))) [⟨13,aM,8,bb 6 (bb 4 (bb 2 (λi=>List.take 2 (List.drop (i*2) [A (ci S W x9 U),A (cj R W Ps U),A (ci S W x9 Q),A (cj R W Ps Q)])) λi=>List.take 2 (List.drop (i*2) [A (ci S W Pr U),A (cj R W Ps U),A (ci S W Pr Q),A (cj R W Ps Q)])) λi=>List.take 2 (List.drop (i*2) [A (ci S W Pr U),A (cj R W Px U),A (ci S W Pr Q),A (cj R W Px Q)])) λi=>List.take 2 (List.drop (i*2) [A (ci S W x9 U),A (cj R W Px U),A (ci S W x9 Q),A (cj R W Px Q)]),Cq rfl rfl⟩]))))))))))))))))))))))))))))))
theorem apb:dZ jk Em (D57 S R W U Q x5 x6 Z b8 x9 Ps Pr Px) (api S R W U Q x5 x6 Z b8 x9 Ps Pr Px) (m57 S R W U Q x5 x6 Z b8 x9 Ps Pr Px) (fl S R W U Q x5 x6 Z b8 x9 Ps Pr Px):=⟨bD,λs=>by cases s<;>exact bD⟩
attribute [local irreducible] kt kM rP
def H5:List P2:=[(ci S W x9 U,cj R W Ps U),(ci S W x9 Q,cj R W Ps Q),(ci S W Pr U,cj R W Ps U),(ci S W Pr Q,cj R W Ps Q),(ci S W Pr U,cj R W Px U),(ci S W Pr Q,cj R W Px Q),(ci S W x9 U,cj R W Px U),(ci S W x9 Q,cj R W Px Q)]
def Pk:Bool:=!b8&&Jc (H5 S R W U Q x9 Ps Pr Px) (x5,x6) Z
def Dm:Prop:=(-100000<=S/\S<=100000)/\(-100000<=R/\R<=100000)/\(0<=W/\W<=200)/\(0<=U/\U<=200)/\(0<=Q/\Q<=200)/\sm x5/\sm x6/\(0<=Z/\Z<=1073741824)/\(-100000<=x9/\x9<=100000)/\(-100000<=Ps/\Ps<=100000)/\(-100000<=Pr/\Pr<=100000)/\(-100000<=Px/\Px<=100000)
theorem J8 {l h n x:Int} (hl:-100000<=l/\l<=100000) (hh:0<=h/\h<=200) (hn:0<=n/\n<=200) (hx:-100000<=x/\x<=100000):ci l h x n=h*l+n*(x-l)/\cj l h x n=h*l+n*(x-l)/\sm (h*l+n*(x-l)):=by have k1:=mW (x:=h) (y:=l) (Qa:=200) (B:=100000) K K K K;have k2:=mW (x:=n) (y:=x-l) (Qa:=200) (B:=200000) K K K K;unfold ci cj bN bM;rw[C8 (x:=x-l) K K,C8 (x:=h*l) K K,C8 (x:=n*(x-l)) K K,C8 (x:=h*l+n*(x-l)) K K];exact⟨rfl,rfl,by unfold sm;omega⟩
theorem agV {S R W U Q x5 x6 Z x9 Ps Pr Px:Int} (h:Dm S R W U Q x5 x6 Z x9 Ps Pr Px):∀ Pw∈H5 S R W U Q x9 Ps Pr Px,mg Pw:=by
 obtain⟨h0,M,N,h3,h4,h5,h6,h7,h9,WB,WC,VA⟩:=h;have k:∀a b n:Int,(-100000<=a/\a<=100000)->(-100000<=b/\b<=100000)->(0<=n/\n<=200)->mg (ci S W a n,cj R W b n):=λa b n ha hb hn=>by have e1:=J8 h0 N hn ha;have e2:=J8 M N hn hb;exact⟨by show sm (ci S W a n);rw[e1.1];exact e1.2.2,by show sm (cj R W b n);rw[e2.2.1];exact e2.2.2⟩
 intro Pw hq;simp only[H5,ET,I4,or_false]at hq;rcases hq with rfl|rfl|rfl|rfl|rfl|rfl|rfl|rfl
 ·exact k _ _ _ h9 WB h3
 ·exact k _ _ _ h9 WB h4
 ·exact k _ _ _ WC WB h3
 ·exact k _ _ _ WC WB h4
 ·exact k _ _ _ WC VA h3
 ·exact k _ _ _ WC VA h4
 ·exact k _ _ _ h9 VA h3
 ·exact k _ _ _ h9 VA h4
theorem asR (hm:mg (x5,x6)) (h7:0<=Z) (h8:Z<=1073741824) {n cap:Nat} {fo:(Nat->List V)} (hc:n<=cap) (hC:cap<=100) (M:1<=n) (hs:∀ k,k<n->mg (pq fo k)) :
 Ev (fl S R W U Q x5 x6 Z b8 x9 Ps Pr Px) (.L5 0 (n:Int) n (decide (2<(n:Int))) cap fo) (.bool (Ue (DF n fo) (x5,x6) Z)):=by
 have key:∀ i,i<=n->∀ (b:Bool) (g:(Nat->List V)),(∀ k,pq g k=pq fo k)->(b=true↔2<n/\∀ k,k<i->0<cL (pq fo k) (pq fo ((k+1) % n)) (x5,x6))->(∀ k,k<i->CY (pq fo k) (pq fo ((k+1) % n)) (x5,x6) Z=false)->Ev (fl S R W U Q x5 x6 Z b8 x9 Ps Pr Px) (.L5 (i:Int) (n:Int) n b cap g) (.bool (Ue (DF n fo) (x5,x6) Z)):=by
  refine dB λi hi ih b g hg hb hN=>?_;by_cases Q7:i<n
  ·have hmod:(i+1) % n<n:=I8 _ K
   have e:(E ((i:Int)+1)).tmod (n:Int)=(((i+1) % n:Nat):Int):=by rw[CZ K];exact(Int.ofNat_tmod _ _).symm
   have n1:kt (pq g i).1 (pq g i).2 (pq g ((i+1) % n)).1 (pq g ((i+1) % n)).2 x5 x6 Z=CY (pq fo i) (pq fo ((i+1) % n)) (x5,x6) Z:=by rw[hg,hg];exact fx15 (a:=pq fo i) (b:=pq fo ((i+1) % n)) (p:=(x5,x6)) (hs i Q7) (hs _ hmod) hm h7 h8
   have T:kM (pq g i).1 (pq g i).2 (pq g ((i+1) % n)).1 (pq g ((i+1) % n)).2 x5 x6=cL (pq fo i) (pq fo ((i+1) % n)) (x5,x6):=by rw[hg,hg];exact Xs (a:=pq fo i) (b:=pq fo ((i+1) % n)) (p:=(x5,x6)) (hs i Q7) (hs _ hmod) hm
   refine Ev.of rfl (cP (BX K) (aF (BX K) (aF (BX K) (aF (BX K) (aF (BX (by rw[e];omega)) (aF (BX (by rw[e];omega)) (ao (ac ?_))))))));have hstep:∀ b',(b'=true↔b=true/\0<cL (pq fo i) (pq fo ((i+1) % n)) (x5,x6))->CY (pq fo i) (pq fo ((i+1) % n)) (x5,x6) Z=false->Ev (fl S R W U Q x5 x6 Z b8 x9 Ps Pr Px) (.L5 (E ((i:Int)+1)) (n:Int) n b' cap (D DC g)) (.bool (Ue (DF n fo) (x5,x6) Z)):=λb' Qx hn=>by
    rw[CZ K];refine ih Q7 b' _ (λk=>hg k) ?_ ?_
    ·rw [Qx,hb]
     constructor
     ·rintro⟨⟨q1,q2⟩,q3⟩
      refine⟨q1,λk hk=>?_⟩;by_cases ek:k=i
      ·rw[ek];exact q3
      ·exact q2 k K
     ·rintro⟨q1,q2⟩;exact⟨⟨q1,λk hk=>q2 k K⟩,q2 i K⟩
    ·intro k hk
     by_cases ek:k=i
     ·rw[ek];exact hn
     ·exact hN k K
   have e':((E ((i:Int)+1)).tmod (n:Int)).toNat=(i+1) % n:=by rw[e];rfl
   refine C2 (λhx=>B5 ?_) (λhx=>B1 (C2 (λRz=>aF Rz (aF Rz (ao (ac (aL ?_))))) (λRz=>aL ?_)))
   ·rw[e']at hx;have hx:CY (pq fo i) (pq fo ((i+1) % n)) (x5,x6) Z=true:=n1.symm.trans hx;rw[acs (.inl ⟨i,by rw[dS];exact Q7,by rw[dS,io Q7,io hmod];exact hx⟩)];rfl
   ·rw[e']at hx ⊢;refine hstep _ ?_ (n1.symm.trans hx);rw[E0];have n2':kM (av (g (i:Int).toNat)) (aP (g (i:Int).toNat)) (av (g ((i+1) % n))) (aP (g ((i+1) % n))) x5 x6=_:=T;rw[n2'];exact⟨λPw=>⟨Rz,Pw⟩,λPw=>Pw.2⟩
   ·rw[e']at hx;refine hstep _ ?_ (n1.symm.trans hx);rw[Rz];exact⟨(λPw=>by cases Pw),λPw=>Pw.1⟩
  ·have ei:i=n:=by omega
   subst ei;refine Ev.of rfl (cW (eQ K) (B5 ?_));have:b=Ue (DF i fo) (x5,x6) Z:=by
    cases Qx:b with
    |true=>have:=hb.1 Qx;refine(acs (.inr ⟨by rw[dS];exact this.1,λk hk=>?_⟩)).symm;rw[dS]at hk ⊢;rw[io hk,io (I8 _ K)];exact this.2 k hk
    |false=>
      refine(apo ?_).symm;rintro (⟨k,hk,h⟩|⟨q1,q2⟩)
      ·rw[dS]at hk h;rw[io hk,io (I8 _ K),hN k hk]at h;cases h
      ·rw[dS]at q1 q2;have:=hb.2 ⟨q1,λk hk=>by have:=q2 k hk;rwa [io hk,io (I8 _ K)]at this⟩;rw[Qx]at this;cases this
   rw[this]
 exact key 0 (Da _) _ fo (λ_=>rfl) ⟨λh=>⟨by have:=DU h;omega,λk hk=>by omega⟩,λh=>BX K⟩ (λk hk=>by omega)
theorem aog {r:V} {Bf:P2->Prop} (hD:∀ Pw,Bf Pw->mg Pw) (N:∀ f j g,Jv 8 f->mU 8 Bf f->Ev (fl S R W U Q x5 x6 Z b8 x9 Ps Pr Px) (.L2 1 f j g) r) {f:(Nat->List V)} (hf:mU 8 Bf f):Ev (fl S R W U Q x5 x6 Z b8 x9 Ps Pr Px) (.L0 1 f) r:=by
 refine yB (QG:=8) (Bf:=Bf) (P0:=λi f=>Ev (fl S R W U Q x5 x6 Z b8 x9 Ps Pr Px) (.L0 (i:Int) f) r) (P1:=λj i f=>Ev (fl S R W U Q x5 x6 Z b8 x9 Ps Pr Px) (.L1 (j:Int) (i:Int) f) r) ?_ ?_ ?_ ?_ 7 1 f rfl (D7 _) (λa b M N=>by omega) hf
 ·intro i f M N h;exact Ev.of rfl (cP (BX K) (aH h))
 ·intro f hs hm;exact Ev.of rfl (cW (eQ K) (gW (aH (N _ _ _ hs hm))))
 ·intro j i f h0 SA hi hm Q7 h
  have e:=zM h0 K;have hC:decide (0<(j:Int))=true:=BX K;have hlt':=(asG (hD _ ((hm _).2 ⟨j,K,rfl⟩)) (hD _ ((hm _).2 ⟨j-1,K,rfl⟩))).2 Q7
  refine Ev.of rfl (B1 (B1 (DY (λ_=>BX (by first|omega|(rw[e];omega))) (B1 (DY (λ_=>BX (by first|omega|(rw[e];omega))) (B1 (B1 (B1 (DY (λ_=>BX (by first|omega|(rw[e];omega))) (B1 (DY (λ_=>BX (by first|omega|(rw[e];omega))) (cP hC (aF hC (aF hC (aF hC (ao (ac (cP ?_
   (aF (BX (by first|omega|(rw[e];omega))) (aF (BX (by first|omega|(rw[e];omega))) (aF (BX (by first|omega|(rw[e];omega))) (aF (BX (by first|omega|(rw[e];omega))) (aF (BX (by first|omega|(rw[e];omega))) (aF (BX (by first|omega|(rw[e];omega))) (aF (BX (by first|omega|(rw[e];omega))) (aF (BX (by first|omega|(rw[e];omega))) (aL ?_)))))))))))))))))))))))))))
  ·rw[e];exact hlt'
  ·rw[e];exact h
 ·intro j i f SA hi hm hn h
  have h':Ev (fl S R W U Q x5 x6 Z b8 x9 Ps Pr Px) (.L0 (E ((i:Int)+1)) (D DC f)) r:=by rw[CZ K];exact h
  by_cases h0:0<j
  ·have e:=zM h0 K;have hC:decide (0<(j:Int))=true:=BX K;have hlt':=λhh=>hn h0 ((asG (hD _ ((hm _).2 ⟨j,K,rfl⟩)) (hD _ ((hm _).2 ⟨j-1,K,rfl⟩))).1 hh);refine Ev.of rfl (B1 (B1 (DY (λ_=>BX (by first|omega|(rw[e];omega))) (B1 (DY (λ_=>BX (by first|omega|(rw[e];omega))) (B1 (B1 (B1 (DY (λ_=>BX (by first|omega|(rw[e];omega))) (B1 (DY (λ_=>BX (by first|omega|(rw[e];omega))) (cP hC (aF hC (aF hC (aF hC (ao (ac (cW ?_ (aL h')))))))))))))))))));rw[e];exact Bool.eq_false_iff.2 hlt'
  ·have hC:decide (0<(j:Int))=false:=eQ K
   have hx:∀{b:Bool},decide (0<(j:Int))=true->b=true:=λhh=>by rw[hC]at hh;cases hh
   exact Ev.of rfl (B1 (B1 (DY hx (B1 (DY hx (B1 (B1 (B1 (DY hx (B1 (DY hx (cW hC (aL h')))))))))))))
theorem ang {r:V} {Bf:P2->Prop} (h4:∀ f j g,KD 8 f->mU 8 Bf f->Ev (fl S R W U Q x5 x6 Z b8 x9 Ps Pr Px) (.L4 0 f 0 (λ_=>[]) j g) r) (h5:∀ m f,1<=m->m<3->KD m f->mU m Bf f->Ev (fl S R W U Q x5 x6 Z b8 x9 Ps Pr Px) (.L5 0 (m:Int) m (decide (2<(m:Int))) 8 f) r)
 (VA:∀m f i n1 T i1 i2 i3 n3 i4 g,3<=m->m<8->KD m f->mU m Bf f->Ev (fl S R W U Q x5 x6 Z b8 x9 Ps Pr Px) (.L12 0 (m:Int) m f 0 (λ_=>[]) i n1 T i1 i2 i3 n3 i4 (m:Int) g) r) {f:(Nat->List V)} (j:Int) (g:(Nat->List V)) (hs:Jv 8 f) (hf:mU 8 Bf f):Ev (fl S R W U Q x5 x6 Z b8 x9 Ps Pr Px) (.L2 1 f j g) r:=by
 refine R56 (QG:=8) (Bf:=Bf) (P2':=λi f=>∀j g,Ev (fl S R W U Q x5 x6 Z b8 x9 Ps Pr Px) (.L2 (i:Int) f j g) r) (P3:=λk off m f=>∀i1 i2 i3 n i4 i5 g,Ev (fl S R W U Q x5 x6 Z b8 x9 Ps Pr Px) (.L3 (k:Int) off (8-off) i1 i2 i3 n i4 (m:Int) f i5 g) r) ?_ ?_ ?_ ?_ ?_ ?_ 7 1 f rfl (D7 _) hs (λa b M N=>by omega) hf j g
 ·intro f hs hm j g;exact Ev.of rfl (cW (eQ K) (gW (aH (h4 _ _ _ hs hm))))
 ·intro i f M h8 Rw h j g
  have e:=zM (show 0<i by omega) K;refine Ev.of rfl (cP (BX K) (aF (BX (by first|omega|(rw[e];omega))) (aF (BX (by first|omega|(rw[e];omega))) (aF (BX (by first|omega|(rw[e];omega))) (aF (BX (by first|omega|(rw[e];omega))) (cW ?_ (aL ?_)))))))
  ·rw[e];exact(LO _ _ _ _).trans (eQ Rw)
  ·rw[CZ K];exact h j g
 ·intro i f M h8 he h j g;have e:=zM (show 0<i by omega) K;refine Ev.of rfl (cP (BX K) (aF (BX (by first|omega|(rw[e];omega))) (aF (BX (by first|omega|(rw[e];omega))) (aF (BX (by first|omega|(rw[e];omega))) (aF (BX (by first|omega|(rw[e];omega))) (cP ?_ (aF (BX K) (aH (h _ _ _ _ _ _ _)))))))));rw[e];exact(LO _ _ _ _).trans (BX he)
 ·intro k off m f M hN hm iz11 Rw h i1 i2 i3 n i4 i5 g
  have e:=zM (show 0<k by omega) K;refine Ev.of rfl (cP (BX K) (aF (BX (by first|omega|(rw[e];omega))) (aF (BX (by first|omega|(rw[e];omega))) (aF (BX (by first|omega|(rw[e];omega))) (aF (BX (by first|omega|(rw[e];omega))) (cP ?_ (aF (BX (by first|omega|(rw[e];omega))) (aF (BX (by first|omega|(rw[e];omega))) (aF (BX (by first|omega|(rw[e];omega))) (aF (BX (by first|omega|(rw[e];omega))) (aL ?_)))))))))))
  ·rw[e];exact fy12 ((LO _ _ _ _).trans (eQ Rw))
  ·rw[CZ (j:=k) K,CZ (j:=m) K];exact h _ _ _ _ _ _ _
 ·intro k off m f M hN hm iz11 he h i1 i2 i3 n i4 i5 g
  have e:=zM (show 0<k by omega) K;refine Ev.of rfl (cP (BX K) (aF (BX (by first|omega|(rw[e];omega))) (aF (BX (by first|omega|(rw[e];omega))) (aF (BX (by first|omega|(rw[e];omega))) (aF (BX (by first|omega|(rw[e];omega))) (cW ?_ (aL ?_)))))))
  ·rw[e];exact fy11 ((LO _ _ _ _).trans (BX he))
  ·rw[CZ (j:=k) K];exact h _ _ _ _ _ _ _
 ·intro off m f hoff sM iz10 hs hm i1 i2 i3 n i4 i5 g
  refine Ev.of rfl (cW (eQ K) (aF (BX K) (aF (BX K) (aF (BX K) (C2 (λhh=>aH ?_) (λhh=>aH ?_))))))
  ·have:=DU hh;exact h5 m _ sM K (hs.cong λk hk=>Bp hk) (hm.cong λk hk=>Bp hk)
  ·have:=Dp hh;exact VA m _ _ _ _ _ _ _ _ _ _ K iz10 (hs.cong λk hk=>Bp hk) (hm.cong λk hk=>Bp hk)
theorem IN {c:List P2} {i:Nat} (h:i<c.length):jt c i∈c:=by have:=iY h;exact JG this
theorem IH {fo:be} {p:P2} {n:Nat} {s:Int} (w1:E ((n:Int)-1)=((n-1:Nat):Int)) (w2:E ((n:Int)-2)=((n-2:Nat):Int)) (e:kM (pq fo (n-2)).1 (pq fo (n-2)).2 (pq fo (n-1)).1 (pq fo (n-1)).2 p.1 p.2=s) :
 decide (kM (av (fo (E ((n:Int)-2)).toNat)) (aP (fo (E ((n:Int)-2)).toNat)) (av (fo (E ((n:Int)-1)).toNat)) (aP (fo (E ((n:Int)-1)).toNat)) p.1 p.2<=0)=decide (s<=0):=by
 rw[w1,w2,← e];rfl
theorem aww {r:V} {c:List P2} {bl:Nat} {base:List P2} {f:(Nat->List V)} (hf:DF 8 f=c) (Se:∀ Pw∈c,mg Pw) (hb:∀ Pw∈base,mg Pw) (Sj:base.length=bl) (hb8:bl<=8)
 (h5:∀n fo cap,n<=cap->cap<=100->DF n fo=base++(bp [] c).tail.reverse->n=base.length+(bp [] c).tail.length->Ev (fl S R W U Q x5 x6 Z b8 x9 Ps Pr Px) (.L5 0 (n:Int) n (decide (2<(n:Int))) cap fo) r)
 {cap:Nat} {fo:(Nat->List V)} (hc:bl<=cap) (WJ:cap<=50) (XA:DF bl fo=base) (i5:Int) (ny15:Int) (f7:(Nat->List V)) (f8:(Nat->List V)) (i9:Int) (Us:(Nat->List V)):Ev (fl S R W U Q x5 x6 Z b8 x9 Ps Pr Px) (.L18 (bl:Int) f bl cap fo i5 ny15 f7 f8 i9 Us) r:=by
 have Ri:c.length=8:=by rw[← hf,dS]
 have ew:=CZ (j:=bl) K;have e0:E (0+1)=((1:Nat):Int):=by rw[C8 K K];rfl
 have at':∀(g:(Nat->List V)),(∀k,k<8->pq g k=pq f k)->∀i,i<8->jt c i=pq g i:=λg hg i hi=>by rw[hg i hi,← hf];exact io hi
 have key:=nK (base:=base) (c:=c) (S2:=bl+8) K
  (PO:=λi n fo=>∀(g:(Nat->List V)) (ix:Int) (iy:Int) (i7:Int) (i8:Int) (f9:(Nat->List V)) (Sf:Nat) (Pq:Nat) (Rl:(Nat->List V)) (VI:Int) (Tw:(Nat->List V)),(∀k,k<8->pq g k=pq f k)->Ev (fl S R W U Q x5 x6 Z b8 x9 Ps Pr Px) (.L22 (i:Int) (bl:Int) g n ix iy fo i7 i8 f9 Sf Pq Rl VI Tw) r)
  (PI:=λi n cap fo=>∀(g:(Nat->List V)) (i7:Int) (i8:Int) (f9:(Nat->List V)) (Sf:Nat) (Pq:Nat) (Rl:(Nat->List V)) (VI:Int) (Tw:(Nat->List V)),(∀k,k<8->pq g k=pq f k)->Ev (fl S R W U Q x5 x6 Z b8 x9 Ps Pr Px) (.L23 (i:Int) (bl:Int) g n (jt c i).1 (jt c i).2 cap fo i7 i8 f9 Sf Pq Rl VI Tw) r) ?_ ?_ ?_ ?_
 ·-- the first round
  obtain⟨p,l,ec⟩:∃ p l,c=p::l:=by
   cases c with
   |nil=>simp at Ri|cons p l=>exact⟨p,l,rfl⟩
  have hp:pq f 0=p:=by have:=at' f (λ_ _=>rfl) 0 K;rw[← this,ec];rfl
  subst hp;have k1:=key l [pq f 0] [pq f 0] (bl+1) (bb bl (D DC fo) λ_=>GR (pq f 0)) (by rw[ec];rfl) (by rw[ec];rfl) (by rw[yd,XA];rfl) (D7 _) (λPw hq=>by rw[ec];simp at hq;simp[hq]);have T0:∀ (i7:Int) (i8:Int) (f9:(Nat->List V)) (Sf:Nat) (Pp:(Nat->List V)) (i12:Int) (Q3:(Nat->List V)),Ev (fl S R W U Q x5 x6 Z b8 x9 Ps Pr Px) (.L20 (bl:Int) (D DC f) bl cap (D DC fo) (pq f 0).1 (pq f 0).2 i7 i8 f9 Sf Pp i12 Q3) r:=by
   intro i7 i8 f9 Sf Pp i12 Q3;have hC:decide (E ((bl:Int)+1)<(bl:Int))=false:=eQ (by rw[ew];omega);have hx:∀{P:Prop},decide (E ((bl:Int)+1)<(bl:Int))=true->P:=λhh=>by rw[hC]at hh;cases hh
   refine Ev.of rfl (iL hx hx hx λ_=>ac (aF (m4 hc K) (aL ?_)));rw[e0];exact k1 (D DC f) _ _ _ _ _ _ _ _ _ _ (λk hk=>rfl)
  exact Ev.of rfl (ed (ac (ac (aH (T0 _ _ _ _ _ _ _)))))
 ·intro i n fo hi hn h g ix iy i7 i8 f9 Sf Pq Rl VI Tw hg;rw[Ri]at hi;have e:=at' g hg i hi;have h':=h;rw[e]at h';exact Ev.of rfl (cP (BX K) (aF (BX K) (aF (BX K) (aH (h' (D DC g) _ _ _ _ _ _ _ _ (λk hk=>hg k hk))))))
 ·intro i n cap fo hi M N VB RB hs h g i7 i8 f9 Sf Pq Rl VI Tw hg
  have Rq:bl+1<n:=by rw[← Sj];exact M
  have w1:=zM (j:=n) K K;have w2:=IK (j:=n) K K;have sm:∀k,k<n->mg (pq fo k):=λk hk=>(RB k hk).elim (hb _) (Se _);have e3:=Xs (sm (n-2) K) (sm (n-1) K) (Se (jt c i) (IN hi));have hC:decide (E ((bl:Int)+1)<(n:Int))=true:=BX (by rw[ew];omega);have hS:=IH (fo:=fo) (p:=jt c i) w1 w2 e3;refine Ev.of rfl (iL (λ_=>⟨BX (by rw[w2];omega),BX (by rw[w2];omega),BX (by rw[w1];omega),BX (by rw[w1];omega)⟩) (λ_ _=>aF (BX (by rw[w1];omega)) (aL ?_)) (λ_ hf=>by rw[hS,BX hs]at hf;cases hf) (λhf=>by rw[hC]at hf;cases hf));rw[w1];exact h (D DC g) _ _ _ _ _ _ _ _ (λk hk=>hg k hk)
 ·intro i n cap fo hi M RB hs N VB h g i7 i8 f9 Sf Pq Rl VI Tw hg
  have nx:∀(_:Unit),Ev (fl S R W U Q x5 x6 Z b8 x9 Ps Pr Px) (.L22 (E ((i:Int)+1)) (bl:Int) (D DC g) (n+1) (jt c i).1 (jt c i).2 (bb n (D DC fo) λ_=>GR (jt c i)) i7 i8 f9 Sf Pq Rl VI Tw) r:=λ_=>by rw[CZ (j:=i) K];exact h (D DC g) _ _ _ _ _ _ _ _ _ _ (λk hk=>hg k hk)
  by_cases Rq:bl+1<n
  ·have w1:=zM (j:=n) K K;have w2:=IK (j:=n) K K;have sm:∀k,k<n->mg (pq fo k):=λk hk=>(RB k hk).elim (hb _) (Se _);have e3:=Xs (sm (n-2) K) (sm (n-1) K) (Se (jt c i) (IN hi));have hC:decide (E ((bl:Int)+1)<(n:Int))=true:=BX (by rw[ew];omega);have hS:=IH (fo:=fo) (p:=jt c i) w1 w2 e3;have S0:=hs (by first|exact Rq|(rw[Sj];exact Rq));exact Ev.of rfl (iL (λ_=>⟨BX (by rw[w2];omega),BX (by rw[w2];omega),BX (by rw[w1];omega),BX (by rw[w1];omega)⟩) (λ_ hf=>by rw[hS,eQ K]at hf;cases hf) (λ_ _=>ac (aF (m4 N K) (aL (nx ())))) (λhf=>by rw[hC]at hf;cases hf))
  ·have hC:decide (E ((bl:Int)+1)<(n:Int))=false:=eQ (by rw[ew];omega)
   have hx:∀{P:Prop},decide (E ((bl:Int)+1)<(n:Int))=true->P:=λhh=>by rw[hC]at hh;cases hh
   exact Ev.of rfl (iL hx hx hx λ_=>ac (aF (m4 N K) (aL (nx ()))))
 ·intro n fo Wk g ix iy i7 i8 f9 Sf Pq Rl VI Tw hg;rw[Ri];obtain⟨q1,q2,q3,q4⟩:=sC Wk (nn (.inr (by intro h;rw[h]at Ri;simp at Ri)));have w1:=zM (j:=n) q1 (by have:=iA (l:=c) (st:=[]);simp only[FL]at this;omega);have hl:=iA (l:=c) (st:=[]);simp only[FL]at hl;have:=h5 (n-1) (D DC fo) n K K q2 (by rw[JO];omega);refine Ev.of rfl (cW (eQ K) (aF (BX (by rw[w1];omega)) (aH ?_)));rw[w1];exact this
theorem axA {r:V} {f:(Nat->List V)} (hS:KD 8 f) (Se:∀ Pw∈DF 8 f,mg Pw)
 (h5:∀n fo cap,n<=cap->cap<=100->DF n fo=fh (DF 8 f)->n=(fh (DF 8 f)).length->Ev (fl S R W U Q x5 x6 Z b8 x9 Ps Pr Px) (.L5 0 (n:Int) n (decide (2<(n:Int))) cap fo) r) (ia:Int) (fz:(Nat->List V)):Ev (fl S R W U Q x5 x6 Z b8 x9 Ps Pr Px) (.L4 0 f 0 (λ_=>[]) ia fz) r:=by
 generalize hc:DF 8 f=c at *
 have Ri:c.length=8:=by rw[← hc,dS]
 have e0:E (0+1)=((1:Nat):Int):=by rw[C8 K K];rfl
 have at':∀(g:(Nat->List V)),(∀k,k<8->pq g k=pq f k)->∀i,i<8->jt c i=pq g i:=λg hg i hi=>by rw[hg i hi,← hc];exact io hi
 have sB:=iA (l:=c) (st:=[]);simp only[FL]at sB
 have key:=nK (base:=[]) (c:=c) (S2:=8) (by simp;omega)
  (PO:=λi n fo=>∀(g:(Nat->List V)) (ia:Int) (fz:(Nat->List V)),(∀k,k<8->pq g k=pq f k)->Ev (fl S R W U Q x5 x6 Z b8 x9 Ps Pr Px) (.L4 (i:Int) g n fo ia fz) r)
  (PI:=λi n cap fo=>∀(g:(Nat->List V)) (ia:Int) (fz:(Nat->List V)),(∀k,k<8->pq g k=pq f k)->Ev (fl S R W U Q x5 x6 Z b8 x9 Ps Pr Px) (.L7 (i:Int) g n (jt c i).1 (jt c i).2 cap fo ia fz) r) ?_ ?_ ?_ ?_
 ·exact key c [] [] 0 (λ_=>[]) rfl rfl rfl (D7 _) (λPw hq=>by cases hq) f ia fz (λ_ _=>rfl)
 ·intro i n fo hi hn h g ia fz hg;rw[Ri]at hi;have e:=at' g hg i hi;have h':=h;rw[e]at h';exact Ev.of rfl (cP (BX K) (aF (BX K) (aF (BX K) (aH (h' (D DC g) _ _ (λk hk=>hg k hk))))))
 ·intro i n cap fo hi M N VB RB hs h g ia fz hg
  have Rq:0+1<n:=by simpa using M
  have w1:=zM (j:=n) K K;have w2:=IK (j:=n) K K;have sm:∀k,k<n->mg (pq fo k):=λk hk=>(RB k hk).elim (λh=>by cases h) (Se _);have e3:=Xs (sm (n-2) K) (sm (n-1) K) (Se (jt c i) (IN hi));have hC:decide (E (0+1)<(n:Int))=true:=BX (by rw[e0];omega);have hS:=IH (fo:=fo) (p:=jt c i) w1 w2 e3;refine Ev.of rfl (iL (λ_=>⟨BX (by rw[w2];omega),BX (by rw[w2];omega),BX (by rw[w1];omega),BX (by rw[w1];omega)⟩) (λ_ _=>aF (BX (by rw[w1];omega)) (aL ?_)) (λ_ hf=>by rw[hS,BX hs]at hf;cases hf) (λhf=>by rw[hC]at hf;cases hf));rw[w1];exact h (D DC g) _ _ (λk hk=>hg k hk)
 ·intro i n cap fo hi M RB hs N VB h g ia fz hg
  have nx:∀(_:Unit),Ev (fl S R W U Q x5 x6 Z b8 x9 Ps Pr Px) (.L4 (E ((i:Int)+1)) (D DC g) (n+1) (bb n (D DC fo) λ_=>GR (jt c i)) ia fz) r:=λ_=>by rw[CZ (j:=i) K];exact h (D DC g) _ _ (λk hk=>hg k hk)
  by_cases Rq:0+1<n
  ·have w1:=zM (j:=n) K K;have w2:=IK (j:=n) K K;have sm:∀k,k<n->mg (pq fo k):=λk hk=>(RB k hk).elim (λh=>by cases h) (Se _);have e3:=Xs (sm (n-2) K) (sm (n-1) K) (Se (jt c i) (IN hi));have hC:decide (E (0+1)<(n:Int))=true:=BX (by rw[e0];omega);have hS:=IH (fo:=fo) (p:=jt c i) w1 w2 e3;have S0:=hs (by simpa using Rq);exact Ev.of rfl (iL (λ_=>⟨BX (by rw[w2];omega),BX (by rw[w2];omega),BX (by rw[w1];omega),BX (by rw[w1];omega)⟩) (λ_ hf=>by rw[hS,eQ K]at hf;cases hf) (λ_ _=>ac (aF (m4 N K) (aL (nx ())))) (λhf=>by rw[hC]at hf;cases hf))
  ·have hC:decide (E (0+1)<(n:Int))=false:=eQ (by rw[e0];omega)
   have hx:∀{P:Prop},decide (E (0+1)<(n:Int))=true->P:=λhh=>by rw[hC]at hh;cases hh
   exact Ev.of rfl (iL hx hx hx λ_=>ac (aF (m4 N K) (aL (nx ()))))
 ·intro n fo Wk g ia fz hg
  rw[Ri];obtain⟨q1,q2,q3,q4⟩:=sC Wk (nn (.inr (by intro h;rw[h]at Ri;simp at Ri)));simp only[FL,EB,List.nil_append]at q2 q3;have w1:=zM (j:=n) q1 K;have wN:E ((8:Int)-1)=((8-1:Nat):Int):=by rw[C8 K K];rfl
  refine Ev.of rfl (cW (eQ K) (aF (BX (by rw[w1];omega)) (aH ?_)));rw[w1,wN];have rev:=CX (QG:=8) (g:=pq f) (P:=λi j O=>∀(Tl:(Nat->List V)) (ia:Int) (fz:(Nat->List V)),(∀k,pq Tl k=pq fo k)->Ev (fl S R W U Q x5 x6 Z b8 x9 Ps Pr Px) (.L13 (j:Int) (i:Int) O (n-1) n Tl ia fz) r) ?_ ?_
  ·exact rev 8 0 (8-1) (D DC g) K K (λk hk=>by rw[C4 K];exact hg k hk) (D DC fo) _ _ (λ_=>rfl)
  ·intro i j O UH hj h Tl ia fz Wd;have v1:=zM (j:=j) K K;have v2:=CZ (j:=i) K;refine Ev.of rfl (cP (BX K) (aF (BX K) (aF (BX K) (aF (BX K) (aF (BX K) (aF (BX K) (aF (BX K) (aF (BX K) (aF (BX K) (aL ?_))))))))));rw[v1,v2];exact h (D DC Tl) _ _ (λk=>Wd k)
  ·intro i j O UH pD Tl ia fz Wd
   have hb:DF (n-1) Tl=(bp [] c).tail.reverse:=by rw[S51 λk _=>Wd k];exact q2
   have Vn:DF 8 O=c.reverse:=by rw[← hc];exact avt pD
   have Q7:(bp [] c).tail.reverse.length=n-1:=by rw[G9,JO,← q3]
   have hu:fh c=(bp [] c).tail.reverse++(bp [] c.reverse).tail.reverse:=R55 K;have Y1:∀ Pw∈(bp [] c).tail.reverse,mg Pw:=λPw hq=>by
    rcases lA (Kz (List.mem_reverse.1 hq)) with h|h
    ·cases h
    ·exact Se Pw h
   have fin:=aww S R W U Q x5 x6 Z b8 x9 Ps Pr Px  (r:=r) (c:=c.reverse) (base:=(bp [] c).tail.reverse) (f:=D DC O) Vn (λPw hq=>Se Pw (List.mem_reverse.1 hq)) Y1 Q7 K (λn fo cap k1 k2 k3 k4=>h5 n fo cap k1 k2 (by rw[hu];exact k3) (by rw[hu,Ea,k4];congr 1;exact(G9 ..).symm)) (cap:=n) (fo:=D DC Tl) K K hb;exact Ev.of rfl (cW (eQ K) (aH (fin _ _ _ _ _ _)))
theorem axe {r:V} {QG:Nat} {c:List P2} {bl:Nat} {base:List P2} {f:(Nat->List V)} (h3:3<=QG) (h8:QG<=8) (hf:DF QG f=c) (Se:∀ Pw∈c,mg Pw) (hb:∀ Pw∈base,mg Pw) (Sj:base.length=bl) (hb8:bl<=8)
 (h5:∀n fo cap,n<=cap->cap<=100->DF n fo=base++(bp [] c).tail.reverse->n=base.length+(bp [] c).tail.length->Ev (fl S R W U Q x5 x6 Z b8 x9 Ps Pr Px) (.L5 0 (n:Int) n (decide (2<(n:Int))) cap fo) r)
 {cap:Nat} {fo:(Nat->List V)} (hc:bl<=cap) (WJ:cap<=50) (XA:DF bl fo=base) (i7:Int) (i8:Int) (i9:Int) (Sf:Nat) (Pp:(Nat->List V)) (Rl:(Nat->List V)) (VI:Int) (RG:Nat) (QH:Nat) (i16:Int) (VJ:Int) (ny14:Int) (VX:Nat) (UM:Int) (UN:Int) (f22:(Nat->List V)):Ev (fl S R W U Q x5 x6 Z b8 x9 Ps Pr Px) (.L24 (QG:Int) QG (bl:Int) f bl cap fo i7 i8 i9 Sf Pp Rl VI RG QH i16 VJ ny14 VX UM UN f22) r:=by
 have Ri:c.length=QG:=by rw[← hf,dS]
 have ew:=CZ (j:=bl) K;have e0:E (0+1)=((1:Nat):Int):=by rw[C8 K K];rfl
 have at':∀(g:(Nat->List V)),(∀k,k<QG->pq g k=pq f k)->∀i,i<QG->jt c i=pq g i:=λg hg i hi=>by rw[hg i hi,← hf];exact io hi
 have key:=nK (base:=base) (c:=c) (S2:=bl+8) K
  (PO:=λi n fo=>∀(g:(Nat->List V)) (ix:Int) (iy:Int) (Uz:Int) (V0:Int) (V1:Int) (SD:Nat) (Q3:(Nat->List V)) (RG:Nat) (QH:Nat) (Tx:(Nat->List V)) (VJ:Int) (V8:Nat) (VX:Nat) (UM:Int) (UN:Int) (WQ:Int) (WV:Nat) (V5:Int) (WS:Int) (Vz:(Nat->List V)),(∀k,k<QG->pq g k=pq f k)->Ev (fl S R W U Q x5 x6 Z b8 x9 Ps Pr Px) (.L26 (i:Int) (QG:Int) QG (bl:Int) g n ix iy fo Uz V0 V1 SD Q3 RG QH Tx VJ V8 VX UM UN WQ WV V5 WS Vz) r)
  (PI:=λi n cap fo=>∀(g:(Nat->List V)) (Uz:Int) (V0:Int) (V1:Int) (SD:Nat) (Q3:(Nat->List V)) (RG:Nat) (QH:Nat) (Tx:(Nat->List V)) (VJ:Int) (V8:Nat) (VX:Nat) (UM:Int) (UN:Int) (WQ:Int) (WV:Nat) (V5:Int) (WS:Int) (Vz:(Nat->List V)),(∀k,k<QG->pq g k=pq f k)->Ev (fl S R W U Q x5 x6 Z b8 x9 Ps Pr Px) (.L27 (i:Int) (QG:Int) QG (bl:Int) g n (jt c i).1 (jt c i).2 cap fo Uz V0 V1 SD Q3 RG QH Tx VJ V8 VX UM UN WQ WV V5 WS Vz) r) ?_ ?_ ?_ ?_
 ·-- the first round
  obtain⟨p,l,ec⟩:∃ p l,c=p::l:=by
   cases c with
   |nil=>simp at Ri;omega|cons p l=>exact⟨p,l,rfl⟩
  have hp:pq f 0=p:=by have:=at' f (λ_ _=>rfl) 0 K;rw[← this,ec];rfl
  subst hp;have k1:=key l [pq f 0] [pq f 0] (bl+1) (bb bl (D DC fo) λ_=>GR (pq f 0)) (by rw[ec];rfl) (by rw[ec];rfl) (by rw[yd,XA];rfl) (D7 _) (λPw hq=>by rw[ec];simp at hq;simp[hq]);have T0:∀ (Uz:Int) (V0:Int) (V1:Int) (SD:Nat) (Q3:(Nat->List V)) (RG:Nat) (Q5:(Nat->List V)) (i16:Int) (n17:Nat) (V8:Nat) (i19:Int) (UM:Int) (UN:Int) (n22:Nat) (i23:Int) (V5:Int) (f25:(Nat->List V)),Ev (fl S R W U Q x5 x6 Z b8 x9 Ps Pr Px) (.L25 (QG:Int) QG (bl:Int) (D DC f) bl cap (D DC fo) (pq f 0).1 (pq f 0).2 Uz V0 V1 SD Q3 RG Q5 i16 n17 V8 i19 UM UN n22 i23 V5 f25) r:=by
   intro Uz V0 V1 SD Q3 RG Q5 i16 n17 V8 i19 UM UN n22 i23 V5 f25;have hC:decide (E ((bl:Int)+1)<(bl:Int))=false:=eQ (by rw[ew];omega);have hx:∀{P:Prop},decide (E ((bl:Int)+1)<(bl:Int))=true->P:=λhh=>by rw[hC]at hh;cases hh
   refine Ev.of rfl (iL hx hx hx λ_=>ac (aF (m4 hc K) (aL ?_)));rw[e0];exact k1 (D DC f) _ _ _ _ _ _ _ _ _ _ _ _ _ _ _ _ _ _ _ _ (λk hk=>rfl)
  exact Ev.of rfl (cP (BX K) (aF (BX K) (ac (aH (T0 _ _ _ _ _ _ _ _ _ _ _ _ _ _ _ _ _)))))
 ·intro i n fo hi hn h g ix iy Uz V0 V1 SD Q3 RG QH Tx VJ V8 VX UM UN WQ WV V5 WS Vz hg;rw[Ri]at hi;have e:=at' g hg i hi;have h':=h;rw[e]at h';exact Ev.of rfl (cP (BX K) (aF (BX K) (aF (BX K) (aH (h' (D DC g) _ _ _ _ _ _ _ _ _ _ _ _ _ _ _ _ _ _ (λk hk=>hg k hk))))))
 ·intro i n cap fo hi M N VB RB hs h g Uz V0 V1 SD Q3 RG QH Tx VJ V8 VX UM UN WQ WV V5 WS Vz hg
  have Rq:bl+1<n:=by rw[← Sj];exact M
  have w1:=zM (j:=n) K K;have w2:=IK (j:=n) K K;have sm:∀k,k<n->mg (pq fo k):=λk hk=>(RB k hk).elim (hb _) (Se _);have e3:=Xs (sm (n-2) K) (sm (n-1) K) (Se (jt c i) (IN hi));have hC:decide (E ((bl:Int)+1)<(n:Int))=true:=BX (by rw[ew];omega);have hS:=IH (fo:=fo) (p:=jt c i) w1 w2 e3;refine Ev.of rfl (iL (λ_=>⟨BX (by rw[w2];omega),BX (by rw[w2];omega),BX (by rw[w1];omega),BX (by rw[w1];omega)⟩) (λ_ _=>aF (BX (by rw[w1];omega)) (aL ?_)) (λ_ hf=>by rw[hS,BX hs]at hf;cases hf) (λhf=>by rw[hC]at hf;cases hf));rw[w1];exact h (D DC g) _ _ _ _ _ _ _ _ _ _ _ _ _ _ _ _ _ _ (λk hk=>hg k hk)
 ·intro i n cap fo hi M RB hs N VB h g Uz V0 V1 SD Q3 RG QH Tx VJ V8 VX UM UN WQ WV V5 WS Vz hg
  have nx:∀(_:Unit),Ev (fl S R W U Q x5 x6 Z b8 x9 Ps Pr Px) (.L26 (E ((i:Int)+1)) (QG:Int) QG (bl:Int) (D DC g) (n+1) (jt c i).1 (jt c i).2 (bb n (D DC fo) λ_=>GR (jt c i)) Uz V0 V1 SD Q3 RG QH Tx VJ V8 VX UM UN WQ WV V5 WS Vz) r:=λ_=>by rw[CZ (j:=i) K];exact h (D DC g) _ _ _ _ _ _ _ _ _ _ _ _ _ _ _ _ _ _ _ _ (λk hk=>hg k hk)
  by_cases Rq:bl+1<n
  ·have w1:=zM (j:=n) K K;have w2:=IK (j:=n) K K;have sm:∀k,k<n->mg (pq fo k):=λk hk=>(RB k hk).elim (hb _) (Se _);have e3:=Xs (sm (n-2) K) (sm (n-1) K) (Se (jt c i) (IN hi));have hC:decide (E ((bl:Int)+1)<(n:Int))=true:=BX (by rw[ew];omega);have hS:=IH (fo:=fo) (p:=jt c i) w1 w2 e3;have S0:=hs (by first|exact Rq|(rw[Sj];exact Rq));exact Ev.of rfl (iL (λ_=>⟨BX (by rw[w2];omega),BX (by rw[w2];omega),BX (by rw[w1];omega),BX (by rw[w1];omega)⟩) (λ_ hf=>by rw[hS,eQ K]at hf;cases hf) (λ_ _=>ac (aF (m4 N K) (aL (nx ())))) (λhf=>by rw[hC]at hf;cases hf))
  ·have hC:decide (E ((bl:Int)+1)<(n:Int))=false:=eQ (by rw[ew];omega)
   have hx:∀{P:Prop},decide (E ((bl:Int)+1)<(n:Int))=true->P:=λhh=>by rw[hC]at hh;cases hh
   exact Ev.of rfl (iL hx hx hx λ_=>ac (aF (m4 N K) (aL (nx ()))))
 ·intro n fo Wk g ix iy Uz V0 V1 SD Q3 RG QH Tx VJ V8 VX UM UN WQ WV V5 WS Vz hg;rw[Ri];obtain⟨q1,q2,q3,q4⟩:=sC Wk (nn (.inr (by intro h;rw[h]at Ri;simp at Ri;omega)));have w1:=zM (j:=n) q1 (by have:=iA (l:=c) (st:=[]);simp only[FL]at this;omega);have hl:=iA (l:=c) (st:=[]);simp only[FL]at hl;have:=h5 (n-1) (D DC fo) n K K q2 (by rw[JO];omega);refine Ev.of rfl (cW (eQ K) (aF (BX (by rw[w1];omega)) (aH ?_)));rw[w1];exact this
theorem awP {r:V} {QG:Nat} {f:(Nat->List V)} (h3:3<=QG) (h8:QG<=8) (hS:KD QG f) (Se:∀ Pw∈DF QG f,mg Pw)
 (h5:∀n fo cap,n<=cap->cap<=100->DF n fo=fh (DF QG f)->n=(fh (DF QG f)).length->Ev (fl S R W U Q x5 x6 Z b8 x9 Ps Pr Px) (.L5 0 (n:Int) n (decide (2<(n:Int))) cap fo) r) (ia:Int) (na:Nat) (nb:Nat) (ib:Int) (ic:Int) (id:Int) (nc:Nat) (ie:Int) (fz:(Nat->List V)):Ev (fl S R W U Q x5 x6 Z b8 x9 Ps Pr Px) (.L12 0 (QG:Int) QG f 0 (λ_=>[]) ia na nb ib ic id nc ie (QG:Int) fz) r:=by
 generalize hc:DF QG f=c at *
 have Ri:c.length=QG:=by rw[← hc,dS]
 have e0:E (0+1)=((1:Nat):Int):=by rw[C8 K K];rfl
 have at':∀(g:(Nat->List V)),(∀k,k<QG->pq g k=pq f k)->∀i,i<QG->jt c i=pq g i:=λg hg i hi=>by rw[hg i hi,← hc];exact io hi
 have sB:=iA (l:=c) (st:=[]);simp only[FL]at sB
 have key:=nK (base:=[]) (c:=c) (S2:=8) (by simp;omega)
  (PO:=λi n fo=>∀(g:(Nat->List V)) (ia:Int) (na:Nat) (nb:Nat) (ib:Int) (ic:Int) (id:Int) (nc:Nat) (ie:Int) (fz:(Nat->List V)),(∀k,k<QG->pq g k=pq f k)->Ev (fl S R W U Q x5 x6 Z b8 x9 Ps Pr Px) (.L12 (i:Int) (QG:Int) QG g n fo ia na nb ib ic id nc ie (QG:Int) fz) r)
  (PI:=λi n cap fo=>∀(g:(Nat->List V)) (ia:Int) (na:Nat) (nb:Nat) (ib:Int) (ic:Int) (id:Int) (nc:Nat) (ie:Int) (fz:(Nat->List V)),(∀k,k<QG->pq g k=pq f k)->Ev (fl S R W U Q x5 x6 Z b8 x9 Ps Pr Px) (.L14 (i:Int) (QG:Int) QG g n (jt c i).1 (jt c i).2 cap fo ia na nb ib ic id nc ie (QG:Int) fz) r) ?_ ?_ ?_ ?_
 ·exact key c [] [] 0 (λ_=>[]) rfl rfl rfl (D7 _) (λPw hq=>by cases hq) f ia na nb ib ic id nc ie fz (λ_ _=>rfl)
 ·intro i n fo hi hn h g ia na nb ib ic id nc ie fz hg;rw[Ri]at hi;have e:=at' g hg i hi;have h':=h;rw[e]at h';exact Ev.of rfl (cP (BX K) (aF (BX K) (aF (BX K) (aH (h' (D DC g) _ _ _ _ _ _ _ _ _ (λk hk=>hg k hk))))))
 ·intro i n cap fo hi M N VB RB hs h g ia na nb ib ic id nc ie fz hg
  have Rq:0+1<n:=by simpa using M
  have w1:=zM (j:=n) K K;have w2:=IK (j:=n) K K;have sm:∀k,k<n->mg (pq fo k):=λk hk=>(RB k hk).elim (λh=>by cases h) (Se _);have e3:=Xs (sm (n-2) K) (sm (n-1) K) (Se (jt c i) (IN hi));have hC:decide (E (0+1)<(n:Int))=true:=BX (by rw[e0];omega);have hS:=IH (fo:=fo) (p:=jt c i) w1 w2 e3;refine Ev.of rfl (iL (λ_=>⟨BX (by rw[w2];omega),BX (by rw[w2];omega),BX (by rw[w1];omega),BX (by rw[w1];omega)⟩) (λ_ _=>aF (BX (by rw[w1];omega)) (aL ?_)) (λ_ hf=>by rw[hS,BX hs]at hf;cases hf) (λhf=>by rw[hC]at hf;cases hf));rw[w1];exact h (D DC g) _ _ _ _ _ _ _ _ _ (λk hk=>hg k hk)
 ·intro i n cap fo hi M RB hs N VB h g ia na nb ib ic id nc ie fz hg
  have nx:∀(_:Unit),Ev (fl S R W U Q x5 x6 Z b8 x9 Ps Pr Px) (.L12 (E ((i:Int)+1)) (QG:Int) QG (D DC g) (n+1) (bb n (D DC fo) λ_=>GR (jt c i)) ia na nb ib ic id nc ie (QG:Int) fz) r:=λ_=>by rw[CZ (j:=i) K];exact h (D DC g) _ _ _ _ _ _ _ _ _ (λk hk=>hg k hk)
  by_cases Rq:0+1<n
  ·have w1:=zM (j:=n) K K;have w2:=IK (j:=n) K K;have sm:∀k,k<n->mg (pq fo k):=λk hk=>(RB k hk).elim (λh=>by cases h) (Se _);have e3:=Xs (sm (n-2) K) (sm (n-1) K) (Se (jt c i) (IN hi));have hC:decide (E (0+1)<(n:Int))=true:=BX (by rw[e0];omega);have hS:=IH (fo:=fo) (p:=jt c i) w1 w2 e3;have S0:=hs (by simpa using Rq);exact Ev.of rfl (iL (λ_=>⟨BX (by rw[w2];omega),BX (by rw[w2];omega),BX (by rw[w1];omega),BX (by rw[w1];omega)⟩) (λ_ hf=>by rw[hS,eQ K]at hf;cases hf) (λ_ _=>ac (aF (m4 N K) (aL (nx ())))) (λhf=>by rw[hC]at hf;cases hf))
  ·have hC:decide (E (0+1)<(n:Int))=false:=eQ (by rw[e0];omega)
   have hx:∀{P:Prop},decide (E (0+1)<(n:Int))=true->P:=λhh=>by rw[hC]at hh;cases hh
   exact Ev.of rfl (iL hx hx hx λ_=>ac (aF (m4 N K) (aL (nx ()))))
 ·intro n fo Wk g ia na nb ib ic id nc ie fz hg
  rw[Ri];obtain⟨q1,q2,q3,q4⟩:=sC Wk (nn (.inr (by intro h;rw[h]at Ri;simp at Ri;omega)));simp only[FL,EB,List.nil_append]at q2 q3;have w1:=zM (j:=n) q1 K;have wN:E ((((QG:Int)).toNat:Int)-1)=((QG-1:Nat):Int):=by exact zM K K
  refine Ev.of rfl (cW (eQ K) (aF (BX (by rw[w1];omega)) (aH ?_)));rw[w1,wN];have rev:=CX (QG:=QG) (g:=pq f) (P:=λi j O=>∀(Tl:(Nat->List V)) (ia:Int) (na:Nat) (nb:Nat) (ib:Int) (ic:Int) (id:Int) (nc:Nat) (ie:Int) (fz:(Nat->List V)),(∀k,pq Tl k=pq fo k)->Ev (fl S R W U Q x5 x6 Z b8 x9 Ps Pr Px) (.L15 (j:Int) (i:Int) (QG:Int) QG O (n-1) n Tl ia na nb ib ic id nc ie (QG:Int) fz) r) ?_ ?_
  ·exact rev QG 0 (QG-1) (D DC g) K K (λk hk=>by rw[C4 K];exact hg k hk) (D DC fo) _ _ _ _ _ _ _ _ _ (λ_=>rfl)
  ·intro i j O UH hj h Tl ia na nb ib ic id nc ie fz Wd;have v1:=zM (j:=j) K K;have v2:=CZ (j:=i) K;refine Ev.of rfl (cP (BX K) (aF (BX K) (aF (BX K) (aF (BX K) (aF (BX K) (aF (BX K) (aF (BX K) (aF (BX K) (aF (BX K) (aL ?_))))))))));rw[v1,v2];exact h (D DC Tl) _ _ _ _ _ _ _ _ _ (λk=>Wd k)
  ·intro i j O UH pD Tl ia na nb ib ic id nc ie fz Wd
   have hb:DF (n-1) Tl=(bp [] c).tail.reverse:=by rw[S51 λk _=>Wd k];exact q2
   have Vn:DF QG O=c.reverse:=by rw[← hc];exact avt pD
   have Q7:(bp [] c).tail.reverse.length=n-1:=by rw[G9,JO,← q3]
   have hu:fh c=(bp [] c).tail.reverse++(bp [] c.reverse).tail.reverse:=R55 K;have Y1:∀ Pw∈(bp [] c).tail.reverse,mg Pw:=λPw hq=>by
    rcases lA (Kz (List.mem_reverse.1 hq)) with h|h
    ·cases h
    ·exact Se Pw h
   have fin:=axe S R W U Q x5 x6 Z b8 x9 Ps Pr Px h3 h8 (r:=r) (c:=c.reverse) (base:=(bp [] c).tail.reverse) (f:=D DC O) Vn (λPw hq=>Se Pw (List.mem_reverse.1 hq)) Y1 Q7 K (λn fo cap k1 k2 k3 k4=>h5 n fo cap k1 k2 (by rw[hu];exact k3) (by rw[hu,Ea,k4];congr 1;exact(G9 ..).symm)) (cap:=n) (fo:=D DC Tl) K K hb;exact Ev.of rfl (cW (eQ K) (aH (fin _ _ _ _ _ _ _ _ _ _ _ _ _ _ _ _)))
theorem SI (hm:mg (x5,x6)) (h7:0<=Z) (h8:Z<=1073741824) {Qu:List P2} (hL:∀ Pw∈Qu,mg Pw) {m:Nat} {f:(Nat->List V)} (M:1<=m) (hs:KD m f) (hf:mU m (λPw=>Pw∈Qu) f) {n cap:Nat} {fo:(Nat->List V)} (k1:n<=cap) (k2:cap<=100) (k3:DF n fo=fh (DF m f)) (k4:n=(fh (DF m f)).length) :
 Ev (fl S R W U Q x5 x6 Z b8 x9 Ps Pr Px) (.L5 0 (n:Int) n (decide (2<(n:Int))) cap fo) (.bool (Jc Qu (x5,x6) Z)):=by
 have hmem:∀Pw,Pw∈Qu↔Pw∈DF m f:=λPw=>(hf Pw).trans qg.symm;have Rw:DF m f≠[]:=λh=>by have:=dS m f;rw[h]at this;simp at this;omega
 have:=asR S R W U Q x5 x6 Z b8 x9 Ps Pr Px hm h7 h8 k1 k2 (by have:=hoc (fb1 hs) Rw;omega) (λk hk=>hL _ ((hmem _).2 (hp' (by rw[← k3];exact qg.2 ⟨k,hk,rfl⟩))));rw[k3,aih (fb1 hs) hmem]at this;exact this
theorem aoB (hb:b8=false) (Ru:Dm S R W U Q x5 x6 Z x9 Ps Pr Px) {f:(Nat->List V)} (hf:DF 8 f=H5 S R W U Q x9 Ps Pr Px):Ev (fl S R W U Q x5 x6 Z b8 x9 Ps Pr Px) (.L0 1 f) (.bool (Pk S R W U Q x5 x6 Z b8 x9 Ps Pr Px)):=by
 have hF:Pk S R W U Q x5 x6 Z b8 x9 Ps Pr Px=Jc (H5 S R W U Q x9 Ps Pr Px) (x5,x6) Z:=by unfold Pk;rw[hb];rfl
 rw[hF];have hL:=agV Ru;have hm:mg (x5,x6):=⟨Ru.2.2.2.2.2.1,Ru.2.2.2.2.2.2.1⟩;have h7:=Ru.2.2.2.2.2.2.2.1;have sml:∀{m:Nat} {f:(Nat->List V)},mU m (λPw=>Pw∈H5 S R W U Q x9 Ps Pr Px) f->∀Pw∈DF m f,mg Pw:=λhm Pw hq=>hL Pw ((hm Pw).2 (qg.1 hq));refine aog S R W U Q x5 x6 Z b8 x9 Ps Pr Px (Bf:=λPw=>Pw∈H5 S R W U Q x9 Ps Pr Px) hL (λf j g hs UJ=>ang S R W U Q x5 x6 Z b8 x9 Ps Pr Px ?_ ?_ ?_ j g hs UJ) (λPw=>by rw[← hf];exact qg)
 ·exact λf j g hs UJ=>axA S R W U Q x5 x6 Z b8 x9 Ps Pr Px hs (sml UJ) (λn fo cap k1 k2 k3 k4=>SI S R W U Q x5 x6 Z b8 x9 Ps Pr Px hm h7.1 h7.2 hL K hs UJ k1 k2 k3 k4) j g
 ·exact λm f M h3 hs UJ=>SI S R W U Q x5 x6 Z b8 x9 Ps Pr Px hm h7.1 h7.2 hL M hs UJ (n:=m) K K (adj (by rw[dS];exact h3)).symm (by rw[adj (by rw[dS];exact h3),dS])
 ·exact λm f i n1 T i1 i2 i3 n3 i4 g h3 h8 hs UJ=>awP S R W U Q x5 x6 Z b8 x9 Ps Pr Px h3 K hs (sml UJ) (λn fo cap k1 k2 k3 k4=>SI S R W U Q x5 x6 Z b8 x9 Ps Pr Px hm h7.1 h7.2 hL K hs UJ k1 k2 k3 k4) i n1 T i1 i2 i3 n3 i4 g
theorem avC (hp:b8=false->Dm S R W U Q x5 x6 Z x9 Ps Pr Px):aT (Ev (fl S R W U Q x5 x6 Z b8 x9 Ps Pr Px)) (m57 S R W U Q x5 x6 Z b8 x9 Ps Pr Px) (.bool (Pk S R W U Q x5 x6 Z b8 x9 Ps Pr Px)):=by
 refine C2 (λh=>B5 ?_) (λh=>?_)
 ·have:Pk S R W U Q x5 x6 Z b8 x9 Ps Pr Px=false:=by unfold Pk;rw[h];rfl
  rw[this];rfl
 ·have e1:E (0+1)=1:=by rw[C8 K K];rfl
  repeat (first|refine ac ?_|refine ao ?_|refine ed ?_|refine gW ?_)
  refine aH ?_;rw[e1];exact aoB S R W U Q x5 x6 Z b8 x9 Ps Pr Px h (hp h) rfl
def C57:aE:=bP [.agg [tI,tI,tI,tI,tI,tI,tI,tI,.bool],.agg gV] (λ
 |[.agg [.int _ S,.int _ R,.int _ W,.int _ U,.int _ Q,.int _ x5,.int _ x6,.int _ Z,.bool b8],.agg [.int _ x9,.int _ Ps,.int _ Pr,.int _ Px]]=>b8=false->Dm S R W U Q x5 x6 Z x9 Ps Pr Px|_=>False) λ
 |[.agg [.int _ S,.int _ R,.int _ W,.int _ U,.int _ Q,.int _ x5,.int _ x6,.int _ Z,.bool b8],.agg [.int _ x9,.int _ Ps,.int _ Pr,.int _ Px]]=>.bool (Pk S R W U Q x5 x6 Z b8 x9 Ps Pr Px)|_=>.any
theorem ayG:b9 C57 105:=aU hcf λ_ hp=>kr (apb ..) (avC _ _ _ _ _ _ _ _ _ _ _ _ _ hp)
end
end Go.Dx
namespace Go.Dx
open Go.Sx
noncomputable section
section
variable {a b c m:P2} {r:Int}
theorem Wn.sw1 (h:Wn m a b c):Wn m b a c:=by
 have e1:cL b a c=-cL a b c:=by unfold cL sd;grind
 have e2:=iV a b m;have e3:=iV c a m;have e4:=iV b c m;obtain⟨M,N⟩:=h;exact⟨K,K⟩
theorem Wn.sw2 (h:Wn m a b c):Wn m a c b:=by
 have e1:cL a c b=-cL a b c:=by unfold cL sd;grind
 have e2:=iV a b m;have e3:=iV c a m;have e4:=iV b c m;obtain⟨M,N⟩:=h;exact⟨K,K⟩
theorem amA (hr:0<=r) (h:CY a b m r=true):CY b a m r=true:=by unfold CY at *;rw[plR hr];exact h
theorem ave (hr:0<=r) (h:CY a a m r=true) (b:P2):CY a b m r=true:=by
 refine(qM hr).2 (acl ?_ b);obtain⟨n,k,M,N,h3,h4⟩:=(qM hr).1 h;rw[show k*m.1-1*((k-n)*a.1+n*a.1)=k*(m.1-a.1) by grind,show k*m.2-1*((k-n)*a.2+n*a.2)=k*(m.2-a.2) by grind,y9]at h4;refine tt h3 ?_;have e:k*1*r*(k*1*r)=k*k*(r*r):=by grind
 omega
theorem fzb9 (hm:mg m) (ha:mg a) (hb:mg b) (hc:mg c):pT m.1 m.2 a.1 a.2 b.1 b.2 c.1 c.2=true↔Wn m a b c:=by
 have k:∀{a b p:P2},mg a->mg b->mg p->fy (bG b.1 a.1) (bH b.2 a.2) (bG p.1 a.1) (bH p.2 a.2)=cL a b p:=λha hb hp=>(aqQ ha.1 ha.2 hb.1 hb.2 hp.1 hp.2).1;unfold pT Wn;rw[k ha hb hc,k ha hb hm,k hb hc hm,k hc ha hm];generalize cL a b c=s;generalize cL a b m=x;generalize cL b c m=y;generalize cL c a m=z;have g1:∀n:Int,(0<=fA n)↔0<=n:=λn=>by rcases aaE n with ⟨h,h0⟩|⟨h,h0⟩|⟨h,h0⟩<;>rw[h]<;>omega
 have g2:∀n:Int,(fA n<=0)↔n<=0:=λn=>by rcases aaE n with ⟨h,h0⟩|⟨h,h0⟩|⟨h,h0⟩<;>rw[h]<;>omega
 simp only[g1,g2];by_cases h0:s=0
 ·simp[h0]
 ·by_cases R:0<=x<;>by_cases y1:0<=y<;>by_cases z1:0<=z<;>by_cases W:x<=0<;>by_cases y2:y<=0<;>by_cases z2:z<=0<;>simp[h0,R,y1,z1,W,y2,z2]
theorem ix9 {v:Nat->P2} {QG:Nat} {Qu:List P2} (N:2<=QG) (hL:∀ Pw,Pw∈Qu↔∃ k,k<QG/\v k=Pw) (hr:0<=r) (h:∀ i j,j<i->i<QG->CY (v i) (v j) m r=false/\∀ n,n<j->¬ Wn m (v i) (v j) (v n)):¬ D1 (λPw=>Pw∈Qu) m r:=by
 have np:∀ i j,i<QG->j<QG->i≠j->CY (v i) (v j) m r=true->False:=λi j hi hj UH hn=>by
  rcases LH UH with M|M
  ·have:=amA hr hn;rw[(h j i M hj).1]at this;cases this
  ·rw[(h i j M hi).1]at hn;cases hn
 rintro (⟨p,Pw,hp,hq,hn⟩|⟨p,Pw,s,hp,hq,hs,hw⟩)
 ·obtain ⟨i,hi,rfl⟩:=(hL _).1 hp
  obtain⟨j,hj,rfl⟩:=(hL _).1 hq;by_cases UH:i=j
  ·subst UH
   by_cases h0:i=0
   ·exact np i 1 hi K K (ave hr hn _)
   ·exact np i 0 hi K h0 (ave hr hn _)
  ·exact np i j hi hj UH hn
 ·obtain⟨i,hi,rfl⟩:=(hL _).1 hp
  obtain⟨j,hj,rfl⟩:=(hL _).1 hq;obtain⟨k,hk,rfl⟩:=(hL _).1 hs;have z1:i≠j:=λe=>hw.1 (by rw[e];exact atg _ _);have z2:j≠k:=λe=>hw.1 (by rw[e];exact HC _ _);have z3:i≠k:=λe=>hw.1 (by rw[e];exact Rt _ _);have tr:∀i j k,i<QG->k<j->j<i->Wn m (v i) (v j) (v k)->False:=λi j k hi M N hw=>(h i j N hi).2 k M hw;rcases LH z1 with M|M<;>rcases LH z2 with N|N<;>rcases LH z3 with h3|h3
  ·exact tr k j i hk M N hw.sw1.sw2.sw1
  ·omega
  ·exact tr j k i hj h3 N hw.sw1.sw2
  ·exact tr j i k hj h3 M hw.sw1
  ·exact tr k i j hk M h3 hw.sw2.sw1
  ·exact tr i k j hi N h3 hw.sw2
  ·omega
  ·exact tr i j k hi N M hw
theorem fn7 {Qu:List P2} (h:D1 (λPw=>Pw∈Qu) m r):yc Qu m r=true:=@BX _ (Classical.propDecidable _) h
theorem aff {Qu:List P2} (h:¬D1 (λPw=>Pw∈Qu) m r):yc Qu m r=false:=@eQ _ (Classical.propDecidable _) h
end
end
end Go.Dx
