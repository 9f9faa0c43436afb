/- Part 8 of a proof. No conditions. -/
import Derived.Test.YtefgedeiipggkaaGreatDoorLx7
set_option maxRecDepth 100000
set_option linter.unusedVariables false
set_option linter.unusedSimpArgs false
namespace Go.Dx
open Go.IntKind (i64 u64 u8)
open Go.Sx Go.Proofs
variable (s0:ByteArray) (R W U Q x5 x6 Z Y x9 Ps Pr Px Q8 QJ:Int)
noncomputable section
def AA:bm:=(105,.con C57)::jk
theorem awj:aZ Tryz.prog Bs C3 AA:=.con ayG (hcf)
def Lr:l8:=λk=>bif Nat.beq k 0 then 5 else 0
inductive Mx where|L0 (_:Int) (_:be)|L1 (_ _:Int) (_:be)|L2 (_ _ _:Int) (_:be)
def Pu:Mx->bS×List Ax×Option Ex
 |.L0 Pt SJ=>([(15,A Pt),(14,A (E (E (E (E (0+1)+1)+1)+1))),(13,V.gs 0 8),(12,V.pl 1 0),(11,A (dc U Y)),(10,V.pl 2 0),(8,A (cH U x9)),(7,A (cD U Ps)),(3,V.pl 3 0)],[Ax.gl 2 8 (D aM SJ) 163,Ax.cells [A Pr,A Px,A Q8,A Px,A Q8,A QJ,A Pr,A QJ] 164,Ax.cells [A (cE U x6),A (cG U Z)] 163,Ax.cells [V.str s0,A R,A W,A U,A Q,A x5] 52],none)|.L1 QV Qz RU=>([(16,A QV),(15,A Qz),(14,A (E (E (E (E (0+1)+1)+1)+1))),(13,V.gs 0 8),(12,V.pl 1 0),(11,A (dc U Y)),(10,V.pl 2 0),(8,A (cH U x9)),(7,A (cD U Ps)),(3,V.pl 3 0)],[Ax.gl 2 8 (D aM RU) 163,Ax.cells [A Pr,A Px,A Q8,A Px,A Q8,A QJ,A Pr,A QJ] 164,Ax.cells [A (cE U x6),A (cG U Z)] 163,Ax.cells [V.str s0,A R,A W,A U,A Q,A x5] 52],none)|.L2 QX RX Rk TG=>([(17,A QX),(16,A RX),(15,A Rk),(14,A (E (E (E (E (0+1)+1)+1)+1))),(13,V.gs 0 8),(12,V.pl 1 0),(11,A (dc U Y)),(10,V.pl 2 0),(8,A (cH U x9)),(7,A (cD U Ps)),(3,V.pl 3 0)],[Ax.gl 2 8 (D aM TG) 163,Ax.cells [A Pr,A Px,A Q8,A Px,A Q8,A QJ,A Pr,A QJ] 164,Ax.cells [A (cE U x6),A (cG U Z)] 163,Ax.cells [V.str s0,A R,A W,A U,A Q,A x5] 52],none)
def awa:Mx->JJ
 |.L0 ..=>(0,[])|.L1 ..=>(1,[])|.L2 ..=>(2,[])
def arA:Bh (cq JJ):=aQ JJ AA Lr ayS [V.agg [V.str s0,A R,A W,A U,A Q,A x5],V.agg [A x6,A Z,A Y,A x9,A Ps],V.agg [A Pr,A Px,A Q8,A QJ]]
def GW (cx:List Cx):Lp JJ:=eX (eJ (arA s0 R W U Q x5 x6 Z Y x9 Ps Pr Px Q8 QJ) [false,true,true,true,true,false])
def hbi (cx:List Cx):Lp JJ:=eX (eJ (oV AA Lr (0,[]) (GW s0 R W U Q x5 x6 Z Y x9 Ps Pr Px Q8 QJ []) (Pu s0 R W U Q x5 x6 Z Y x9 Ps Pr Px Q8 QJ (.L0 (0:Int) (λ_=>[])))) [true])
def akV (cx:List Cx):Lp JJ:=eX (eJ (oV AA Lr (1,[]) (hbi s0 R W U Q x5 x6 Z Y x9 Ps Pr Px Q8 QJ []) (Pu s0 R W U Q x5 x6 Z Y x9 Ps Pr Px Q8 QJ (.L1 (0:Int) (0:Int) (λ_=>[])))) [true,false])
def aym:JJ->Lp JJ
 |(0,cx)=>GW s0 R W U Q x5 x6 Z Y x9 Ps Pr Px Q8 QJ cx|(1,cx)=>hbi s0 R W U Q x5 x6 Z Y x9 Ps Pr Px Q8 QJ cx|(2,cx)=>akV s0 R W U Q x5 x6 Z Y x9 Ps Pr Px Q8 QJ cx|(_,cx)=>GW s0 R W U Q x5 x6 Z Y x9 Ps Pr Px Q8 QJ cx
def D60:LD JJ Mx:=⟨awa,aym s0 R W U Q x5 x6 Z Y x9 Ps Pr Px Q8 QJ,Pu s0 R W U Q x5 x6 Z Y x9 Ps Pr Px Q8 QJ⟩
def Md (s0:ByteArray) (R W U Q x5 x6 Z Y x9 Ps Pr Px Q8 QJ:Int):Mx->RT Mx
 |.L0 Pt SJ=>.br (decide (Pt<(↑8:Int))) (.enter (iR 0 4 []) (Mx.L1 0 Pt (D aM SJ)) [⟨0,aM,8,D aM SJ,aJ rfl _ _⟩]) (.ret (V.kb false))|.L1 QV Qz RU=>.br (decide (QV<Qz)) (.ob (decide (0<=Qz/\Qz<(↑8:Int)/\8<=8)) (.ob (decide (Qz.toNat<8)) (.ob (decide (0<=QV/\QV<(↑8:Int)/\8<=8)) (.ob (decide (QV.toNat<8)) (.cb (.br (lG (cE U x6) (cG U Z) (av (RU Qz.toNat)) (aP (RU Qz.toNat)) (av (RU QV.toNat)) (aP (RU QV.toNat)) (dc U Y)) (.ret (V.kb true)) (.enter (iR 0 4 []) (Mx.L2 0 QV Qz (D aM RU)) [⟨0,aM,8,D aM RU,aJ rfl _ _⟩]))))))) (.next (iR 0 4 []) (Mx.L0 (E (Qz+1)) (D aM RU)) [⟨0,aM,8,D aM RU,aJ rfl _ _⟩])|.L2 QX RX Rk TG=>.br (decide (QX<RX)) (.ob (decide (0<=Rk/\Rk<(↑8:Int)/\8<=8)) (.ob (decide (Rk.toNat<8)) (.ob (decide (0<=RX/\RX<(↑8:Int)/\8<=8)) (.ob (decide (RX.toNat<8)) (.ob (decide (0<=QX/\QX<(↑8:Int)/\8<=8)) (.ob (decide (QX.toNat<8)) (.cb (.br (pT (cE U x6) (cG U Z) (av (TG Rk.toNat)) (aP (TG Rk.toNat)) (av (TG RX.toNat)) (aP (TG RX.toNat)) (av (TG QX.toNat)) (aP (TG QX.toNat))) (.ret (V.kb true)) (.next (iR 0 4 []) (Mx.L2 (E (QX+1)) RX Rk (D aM TG)) [⟨0,aM,8,D aM TG,aJ rfl _ _⟩]))))))))) (.next (iR 0 4 []) (Mx.L1 (E (RX+1)) Rk (D aM TG)) [⟨0,aM,8,D aM TG,aJ rfl _ _⟩])
def m60:RT Mx:=dm (s0,Q,x5,x6,Z,Y) (.cb (.br (!fL U x9) (.ret (V.kb false)) (.cb (.cb (.brt (.obt (.cb (.obt (.cb (.obt (.obt (.brt (.obt (.cb (.obt (.cb (.obt (.obt (.brt (.obt (.cb (.obt (.cb (.obt (.obt (.brt (.obt (.cb (.obt (.cb (.obt (.obt (.brf (.enter [some (some 12),some (some 4),some (some 3),some (some 0)] (Mx.L0 0 (bb 6 (bb 4 (bb 2 (λi=>List.take 2 (List.drop (i*2) [A (eE R U Pr (cD U Ps)),A (er W U Px (cD U Ps)),A (eE R U Pr (cH U x9)),A (er W U Px (cH U x9))])) λi=>List.take 2 (List.drop (i*2) [A (eE R U Q8 (cD U Ps)),A (er W U Px (cD U Ps)),A (eE R U Q8 (cH U x9)),A (er W U Px (cH U x9))])) λi=>List.take 2 (List.drop (i*2) [A (eE R U Q8 (cD U Ps)),A (er W U QJ (cD U Ps)),A (eE R U Q8 (cH U x9)),A (er W U QJ (cH U x9))])) λi=>List.take 2 (List.drop (i*2) [A (eE R U Pr (cD U Ps)),A (er W U QJ (cD U Ps)),A (eE R U Pr (cH U x9)),A (er W U QJ (cH U x9))]))) [⟨0,aM,8,bb 6 (bb 4 (bb 2 (λi=>List.take 2 (List.drop (i*2) [A (eE R U Pr (cD U Ps)),A (er W U Px (cD U Ps)),A (eE R U Pr (cH U x9)),A (er W U Px (cH U x9))])) λi=>List.take 2 (List.drop (i*2) [A (eE R U Q8 (cD U Ps)),A (er W U Px (cD U Ps)),A (eE R U Q8 (cH U x9)),A (er W U Px (cH U x9))])) λi=>List.take 2 (List.drop (i*2) [A (eE R U Q8 (cD U Ps)),A (er W U QJ (cD U Ps)),A (eE R U Q8 (cH U x9)),A (er W U QJ (cH U x9))])) λi=>List.take 2 (List.drop (i*2) [A (eE R U Pr (cD U Ps)),A (er W U QJ (cD U Ps)),A (eE R U Pr (cH U x9)),A (er W U QJ (cH U x9))]),Cq rfl rfl⟩]))))))))))))))))))))))))))))))))))
theorem aqv:dZ AA Lr (D60 s0 R W U Q x5 x6 Z Y x9 Ps Pr Px Q8 QJ) (arA s0 R W U Q x5 x6 Z Y x9 Ps Pr Px Q8 QJ) (m60 s0 R W U Q x5 x6 Z Y x9 Ps Pr Px Q8 QJ) (Md s0 R W U Q x5 x6 Z Y x9 Ps Pr Px Q8 QJ):=⟨bD,λs=>by cases s<;>exact bD⟩
attribute [local irreducible] lG pT
def Kc:Bool:=fL U x9&&yc (H5 R W U (cD U Ps) (cH U x9) Pr Px Q8 QJ) (cE U x6,cG U Z) (dc U Y)
theorem atB (h7:0<=(dc U Y)) (h8:(dc U Y)<=1073741824) (hm:mg (cE U x6,cG U Z)) {Qu:List P2} (hL:∀ Pw∈Qu,mg Pw) {f:be} (hf:DF 8 f=Qu):Ev (Md s0 R W U Q x5 x6 Z Y x9 Ps Pr Px Q8 QJ) (.L0 0 f) (.bool (yc Qu (cE U x6,cG U Z) (dc U Y))):=by
 have hv:∀Pw,Pw∈Qu↔∃k,k<8/\pq f k=Pw:=λPw=>by rw[← hf];exact qg
 have sv:∀ k,k<8->mg (pq f k):=λk hk=>hL _ ((hv _).2 ⟨k,hk,rfl⟩);have nzb2:∀ i j,i<8->j<8->lG (cE U x6) (cG U Z) (pq f i).1 (pq f i).2 (pq f j).1 (pq f j).2 (dc U Y)=CY (pq f i) (pq f j) (cE U x6,cG U Z) (dc U Y):=λi j hi hj=>
  axw (sv i hi).1 (sv i hi).2 (sv j hj).1 (sv j hj).2 hm.1 hm.2 h7 h8
 have resV:∀ i j n,i<8->j<8->n<8->(pT (cE U x6) (cG U Z) (pq f i).1 (pq f i).2 (pq f j).1 (pq f j).2 (pq f n).1 (pq f n).2=true↔Wn (cE U x6,cG U Z) (pq f i) (pq f j) (pq f n)):=λi j n hi hj hn=>fzb9 (m:=(cE U x6,cG U Z)) hm (sv i hi) (sv j hj) (sv n hn);have k0:∀ i,i<=8->∀ g:be,(∀ k,pq g k=pq f k)->(∀ i' j',j'<i'->i'<i->CY (pq f i') (pq f j') (cE U x6,cG U Z) (dc U Y)=false/\∀ n,n<j'->¬ Wn (cE U x6,cG U Z) (pq f i') (pq f j') (pq f n))->Ev (Md s0 R W U Q x5 x6 Z Y x9 Ps Pr Px Q8 QJ) (.L0 (i:Int) g) (.bool (yc Qu (cE U x6,cG U Z) (dc U Y))):=by
  refine dB λi hi V7 g hg h0=>?_;by_cases YC:i<8
  ·refine Ev.of rfl (cP (BX K) (aH ?_))
   have k1:∀ j,j<=i->∀ g:be,(∀ k,pq g k=pq f k)->(∀ j',j'<j->CY (pq f i) (pq f j') (cE U x6,cG U Z) (dc U Y)=false/\∀ n,n<j'->¬ Wn (cE U x6,cG U Z) (pq f i) (pq f j') (pq f n))->Ev (Md s0 R W U Q x5 x6 Z Y x9 Ps Pr Px Q8 QJ) (.L1 (j:Int) (i:Int) g) (.bool (yc Qu (cE U x6,cG U Z) (dc U Y))):=by
    refine dB λj hj ny19 g hg M=>?_;by_cases SA:j<i
    ·have e1:=nzb2 i j YC K
     rw[← hg,← hg j]at e1;refine Ev.of rfl (cP (BX K) (aF (BX K) (aF (BX K) (aF (BX K) (aF (BX K) (ao (ac (C2 (λhh=>B5 ?_) (λhh=>aH ?_)))))))))
     ·have YB:=e1.symm.trans hh;rw[hg,hg]at YB;rw[fn7 (.inl ⟨_,_,(hv _).2 ⟨i,YC,rfl⟩,(hv _).2 ⟨j,K,rfl⟩,YB⟩)];rfl
     ·have YB:=e1.symm.trans hh
      rw[hg,hg]at YB;have k2:∀ n,n<=j->∀ g:be,(∀ k,pq g k=pq f k)->(∀ n',n'<n->¬ Wn (cE U x6,cG U Z) (pq f i) (pq f j) (pq f n'))->Ev (Md s0 R W U Q x5 x6 Z Y x9 Ps Pr Px Q8 QJ) (.L2 (n:Int) (j:Int) (i:Int) g) (.bool (yc Qu (cE U x6,cG U Z) (dc U Y))):=by
       refine dB λn hn nz12 g hg hw=>?_;by_cases iz20:n<j
       ·have e2:=resV i j n YC K K
        rw[← hg,← hg j,← hg n]at e2;refine Ev.of rfl (cP (BX K) (aF (BX K) (aF (BX K) (aF (BX K) (aF (BX K) (aF (BX K) (aF (BX K) (ao (ac (C2 (λhh=>B5 ?_) (λhh=>aL ?_)))))))))))
        ·have U7:=e2.1 hh;rw[hg,hg,hg]at U7;rw[fn7 (.inr ⟨_,_,_,(hv _).2 ⟨i,YC,rfl⟩,(hv _).2 ⟨j,K,rfl⟩,(hv _).2 ⟨n,K,rfl⟩,U7⟩)];rfl
        ·rw [CZ K]
         refine nz12 iz20 _ (λk=>hg k) λn' VE=>?_;by_cases en:n'=n
         ·intro U7;rw[en]at U7;rw[← hg i,← hg j,← hg n]at U7;have:=e2.2 U7;have ip11:pT (cE U x6) (cG U Z) (pq g i).1 (pq g i).2 (pq g j).1 (pq g j).2 (pq g n).1 (pq g n).2=false:=hh;rw[ip11]at this;cases this
         ·exact hw n' K
       ·have en:n=j:=by omega
        subst en;refine Ev.of rfl (cW (eQ K) (aL ?_));rw[CZ K];refine ny19 SA _ (λk=>hg k) λj' Sm=>?_;by_cases ej:j'=n
        ·rw[ej];exact⟨YB,λn' VE=>hw n' VE⟩
        ·exact M j' K
      exact k2 0 (Da _) _ (λk=>hg k) (λn' VE=>by omega)
    ·have ej:j=i:=by omega
     subst ej;refine Ev.of rfl (cW (eQ K) (aL ?_));rw[CZ K];refine V7 YC _ (λk=>hg k) λi' j' Sm Rn=>?_;by_cases ei:i'=j
     ·rw[ei]at Sm ⊢;exact M j' Sm
     ·exact h0 i' j' Sm K
   exact k1 0 (Da _) _ (λk=>hg k) (λj' Sm=>by omega)
  ·have ei:i=8:=by omega
   subst ei;refine Ev.of rfl (cW (eQ K) (B5 ?_));rw[aff (ix9 (v:=pq f) (QG:=8) K hv h7 h0)];rfl
 exact k0 0 (Da _) f (λ_=>rfl) (λi' j' _ h=>by omega)
theorem awr (hp:fL U x9=true->Dm R W U (cD U Ps) (cH U x9) (cE U x6) (cG U Z) (dc U Y) Pr Px Q8 QJ):aT (Ev (Md s0 R W U Q x5 x6 Z Y x9 Ps Pr Px Q8 QJ)) (m60 s0 R W U Q x5 x6 Z Y x9 Ps Pr Px Q8 QJ) (.bool (Kc R W U x6 Z Y x9 Ps Pr Px Q8 QJ)):=by
 refine ao (ac (C2 (λh=>B5 ?_) (λh=>?_)))
 ·have:Kc R W U x6 Z Y x9 Ps Pr Px Q8 QJ=false:=by unfold Kc;rw[LS h];rfl
  rw[this];rfl
 ·have Ru:=hp (wa h)
  have:Kc R W U x6 Z Y x9 Ps Pr Px Q8 QJ=yc (H5 R W U (cD U Ps) (cH U x9) Pr Px Q8 QJ) (cE U x6,cG U Z) (dc U Y):=by unfold Kc;rw[wa h];rfl
  rw[this]
  repeat (first|refine ac ?_|refine ao ?_|refine ed ?_|refine gW ?_)
  refine aH ?_;exact atB s0 R W U Q x5 x6 Z Y x9 Ps Pr Px Q8 QJ Ru.2.2.2.2.2.2.2.1.1 Ru.2.2.2.2.2.2.2.1.2 ⟨Ru.2.2.2.2.2.1,Ru.2.2.2.2.2.2.1⟩ (agV Ru) rfl
def C60:aE:=bP [.agg aV,.agg bq,.agg gV] (λ
 |[.agg [.str s0,.int _ R,.int _ W,.int _ U,.int _ Q,.int _ x5],.agg [.int _ x6,.int _ Z,.int _ Y,.int _ x9,.int _ Ps],.agg [.int _ Pr,.int _ Px,.int _ Q8,.int _ QJ]]=>fL U x9=true->Dm R W U (cD U Ps) (cH U x9) (cE U x6) (cG U Z) (dc U Y) Pr Px Q8 QJ|_=>False) λ
 |[.agg [.str s0,.int _ R,.int _ W,.int _ U,.int _ Q,.int _ x5],.agg [.int _ x6,.int _ Z,.int _ Y,.int _ x9,.int _ Ps],.agg [.int _ Pr,.int _ Px,.int _ Q8,.int _ QJ]]=>.bool (Kc R W U x6 Z Y x9 Ps Pr Px Q8 QJ)|_=>.any
theorem av3:b9 C60 121:=aU awj λ_ hp=>kr (aqv ..) (awr _ _ _ _ _ _ _ _ _ _ _ _ _ _ _ hp)
end
end Go.Dx
namespace Go.Dx
open Go.Sx
noncomputable section
theorem ih2 {x y a z w:Int} (h:xm x y a z w=0):(-100000<=x/\x<=100000)/\(-100000<=y/\y<=100000)/\(1<=a/\a<=20000)/\0<=z/\z<w/\w<=1000:=by
 unfold xm at h;cases hp:nY x y with
 |false=>rw[hp]at h;cases h
 |true=>
   rw[hp]at h;simp only[HM,HK,cond_true]at h;cases hf:dC a 1 20000 with
   |false=>rw[hf]at h;cases h
   |true=>
     rw[hf]at h;have ha:=mI hf;have hq:=QL hp;by_cases M:z<0
     ·simp[M]at h
     ·by_cases N:w<=z
      ·simp[M,N]at h
      ·by_cases h3:1000<w
       ·simp[M,N,h3]at h
       ·exact⟨hq.1,hq.2,ha,K,K,K⟩
theorem aiW {x y h dx dy:Int} (hc:Me x y h dx dy=0):(-100000<=x/\x<=100000)/\(-100000<=y/\y<=100000)/\(1<=h/\h<=200):=by
 have SO:(bif bif bif bif !nY x y then true else !dC h 1 200 then true else !dC dx (-1000) 1000 then true else !dC dy (-1000) 1000 then 7 else bif bif dx==0 then dy==0 else false then 2 else(0:Int))=0:=hc;cases hp:nY x y with
 |false=>rw[hp]at SO;cases SO
 |true=>
   rw[hp]at SO;cases hf:dC h 1 200 with
   |false=>rw[hf]at SO;cases SO|true=>exact⟨(QL hp).1,(QL hp).2,mI hf⟩
theorem aiM {n6:Nat} {f6:be} {i:Nat} (h:cC n6 f6 i=0):Me (aP (f6 i)) (bV (f6 i)) (bf (f6 i)) (cu (f6 i)) (bE (f6 i))=0:=by
 have h':RF n6 (D aV f6) (i:Int)=0:=h;unfold RF at h';simp only[De]at h';cases hn:nQ (sv (aA (D aV f6 i))) with
 |false=>rw[hn]at h';cases h'
 |true=>
   rw[hn,HM,cond_false]at h';cases hd:gS i (λk=>(sv (aA (D aV f6 k))).toList==(sv (aA (D aV f6 i))).toList) with
   |true=>rw[hd]at h';cases h'|false=>rw[hd,cond_false]at h';exact h'
section
variable {X QY h tx ty Qv lo hi x9 Ps Pr Px px py:Int}
structure TC (X QY h tx ty Qv lo hi:Int):Prop where
 X':-100000<=X/\X<=100000
 Y':-100000<=QY/\QY<=100000
 h':1<=h/\h<=200
 tx':-100000<=tx/\tx<=100000
 ty':-100000<=ty/\ty<=100000
 R':1<=Qv/\Qv<=20000
 lo':0<=lo/\lo<hi/\hi<=1000
theorem TC.vals (t:TC X QY h tx ty Qv lo hi):nU h hi=max 0 (h-hi)/\cD h hi=max 0 (h-hi)/\ny h lo=h-lo/\cH h lo=h-lo/\nN h tx=h*tx/\cE h tx=h*tx/\nm h ty=h*ty/\cG h ty=h*ty/\nd h Qv=h*Qv/\dc h Qv=h*Qv/\sm (h*tx)/\sm (h*ty)/\0<=h*Qv/\h*Qv<=1073741824:=by obtain⟨_,_,hh,M,N,h3,h4⟩:=t;have k1:=mW (x:=h) (y:=tx) (Qa:=200) (B:=100000) K K K K;have k2:=mW (x:=h) (y:=ty) (Qa:=200) (B:=100000) K K K K;have k3:=mW (x:=h) (y:=Qv) (Qa:=200) (B:=20000) K K K K;have k4:=mn (show 0<=h by omega) (show 0<=Qv by omega);unfold nU cD ny cH nN nm nd xG y7 cE cG dc;rw[Int.mul_comm Qv h,C8 (x:=h-hi) K K,C8 (x:=h-min hi h) K K,C8 (x:=h-lo) K K,C8 (x:=h*tx) K K,C8 (x:=h*ty) K K,C8 (x:=h*Qv) K K];unfold sm;refine⟨rfl,K,rfl,rfl,rfl,rfl,rfl,rfl,rfl,rfl,K,K,k4,K⟩
theorem TC.lo5 (lo hi h:Int):fL h lo=!ls h lo:=by
 unfold fL ls;by_cases k:lo<=h
 ·rw[BX k,eQ K];rfl
 ·rw[eQ k,BX K];rfl
section
variable (t:TC X QY h tx ty Qv lo hi)
include t
theorem TC.in57 (hb:ls h lo=false) (h9:-100000<=x9/\x9<=100000) (WB:-100000<=Ps/\Ps<=100000) (WC:-100000<=Pr/\Pr<=100000) (VA:-100000<=Px/\Px<=100000):Dm X QY h (nU h hi) (ny h lo) (nN h tx) (nm h ty) (nd h Qv) x9 Ps Pr Px:=by obtain⟨e1,_,e2,_,e3,_,e4,_,e5,_,s1,s2,s3,s4⟩:=t.vals;have:=t.h';have:=t.lo';unfold ls at hb;have hb:=Dp hb;rw[e1,e2,e3,e4,e5];exact⟨t.X',t.Y',K,K,K,s1,s2,⟨s3,s4⟩,h9,WB,WC,VA⟩
theorem TC.refIn (hb:fL h lo=true) (h9:-100000<=x9/\x9<=100000) (WB:-100000<=Ps/\Ps<=100000) (WC:-100000<=Pr/\Pr<=100000) (VA:-100000<=Px/\Px<=100000):Dm X QY h (cD h hi) (cH h lo) (cE h tx) (cG h ty) (dc h Qv) x9 Ps Pr Px:=by obtain⟨e1,e1',e2,e2',e3,e3',e4,e4',e5,e5',_⟩:=t.vals;have:=t.in57 (x9:=x9) (Ps:=Ps) (Pr:=Pr) (Px:=Px) (by rw[TC.lo5 lo hi h]at hb;exact LS hb) h9 WB WC VA;rwa [e1,← e1',e2,← e2',e3,← e3',e4,← e4',e5,← e5']at this
theorem TC.touch:Pk X QY h (nU h hi) (ny h lo) (nN h tx) (nm h ty) (nd h Qv) (ls h lo) x9 Ps Pr Px=Kc X QY h tx ty Qv lo hi x9 Ps Pr Px:=by obtain⟨e1,e1',e2,e2',e3,e3',e4,e4',e5,e5',s1,s2,s3,s4⟩:=t.vals;unfold Pk Kc;rw[TC.lo5 lo hi h,e1,e1',e2,e2',e3,e3',e4,e4',e5,e5',ie3 (by simp[H5]) s3]
theorem TC.hasE (hx:-100000<=px/\px<=100000) (hy:-100000<=py/\py<=100000):yR X QY h (nU h hi) (ny h lo) (nN h tx) (nm h ty) (nd h Qv) (ls h lo) px py=fe X QY h tx ty Qv lo hi px py:=by
 obtain⟨e1,e1',e2,e2',e3,e3',e4,e4',e5,e5',s1,s2,s3,s4⟩:=t.vals;have:=t.h';have:=t.lo';unfold yR fe;rw[TC.lo5 lo hi h];cases hb:ls h lo with
 |true=>rfl
 |false=>rw[HK,cond_true,cond_true,e1,e1',e2,e2',e3,e3',e4,e4',e5,e5'];unfold ls at hb;have hb:=Dp hb;have p0:=J8 t.X' (h:=h) (n:=max 0 (h-hi)) K K hx;have p1:=J8 t.Y' (h:=h) (n:=max 0 (h-hi)) K K hy;have q0:=J8 t.X' (h:=h) (n:=h-lo) K K hx;have q1:=J8 t.Y' (h:=h) (n:=h-lo) K K hy;rw[show eE X h px (max 0 (h-hi))=ci X h px (max 0 (h-hi)) from rfl,show er QY h py (max 0 (h-hi))=cj QY h py (max 0 (h-hi)) from rfl,show eE X h px (h-lo)=ci X h px (h-lo) from rfl,show er QY h py (h-lo)=cj QY h py (h-lo) from rfl];rw[p0.1,p1.2.1,q0.1,q1.2.1];rw[awi p0.2.2 p1.2.2 q0.2.2 q1.2.2 s1 s2 s3 s4,axw p0.2.2 p1.2.2 q0.2.2 q1.2.2 s1 s2 s3 s4]
end
end
def kk (d t:Nat->Bool):Nat->Int
 |0=>0|k+1=>bif d k then 2 else bif t k then max (kk d t k) 1 else kk d t k
def jr (d t:Nat->Bool) (n:Nat):Int:=bif gS n d then 2 else bif gS n t then 1 else 0
theorem hJ (n:Nat) (p:Nat->Bool):gS (n+1) p=(gS n p||p n):=by
 cases h:gS (n+1) p with
 |true=>
   obtain⟨i,hi,hp⟩:=BM.1 h;by_cases e:i=n
   ·rw[← e,hp];simp
   ·rw[cV i K hp];rfl
 |false=>
   have M:gS n p=false:=by
    cases N:gS n p with
    |false=>rfl|true=>obtain⟨i,hi,hp⟩:=BM.1 N;rw[cV i K hp]at h;cases h
   have N:p n=false:=by
    cases N:p n with
    |false=>rfl|true=>rw[cV n K N]at h;cases h
   rw[M,N];rfl
theorem hjy (d t:Nat->Bool):∀ n,kk d t n=jr d t n
 |0=>rfl
 |n+1=>by
   have ih:=hjy d t n;unfold jr at *
   simp only[kk];rw[hJ,hJ,ih];cases gS n d<;>cases gS n t<;>cases d n<;>cases t n<;>rfl
end
end Go.Dx
namespace Go.Dx
open Go.IntKind (i64 u64 u8)
open Go.Sx Go.Proofs
variable (H:Nat) (G:be) (T:Nat) (O:be) (n4:Nat) (f4:be) (n6:Nat) (f6:be) (Y x9 Ps Pr Px:Int)
noncomputable section
def Ef:bm:=(121,.con C60)::AA
theorem azs:aZ Tryz.prog Bs C3 Ef:=.con av3 (awj)
attribute [local irreducible] MC jj sX
def u18:l8:=λk=>bif Nat.beq k 2 then 5 else 0
theorem Jb {H:Nat} {G:be} {T:Nat} {O:be} {n4:Nat} {f4:be} {n6:Nat} {f6:be} {Y:Int} (h:EH (gN H (D bd G) T (D bq O) n4 (D bu f4) n6 (D aV f6)) Y n6=0):(0<=Y/\Y<(n6:Int))/\∀i,i<T->TC (aP (f6 Y.toNat)) (bV (f6 Y.toNat)) (bf (f6 Y.toNat)) (av (O i)) (aP (O i)) (bV (O i)) (bf (O i)) (cu (O i)):=by obtain⟨M,N,h3⟩:=hw' h;have hv:=KW M;refine⟨⟨N,h3⟩,λi hi=>?_⟩;have hc:=aiW (aiM (f6:=D aV f6) (hv.cl Y.toNat K));have ht:=ih2 (hv.tr i hi);exact⟨hc.1,hc.2.1,hc.2.2,ht.1,ht.2.1,ht.2.2.1,ht.2.2.2⟩
inductive Ui where|L0 (_ _:Int)
def an6:Ui->bS×List Ax×Option Ex
 |.L0 Pt Qf=>([(31,A Pt),(30,A (T:Int)),(29,V.sl T (D bq O)),(9,A Qf),(5,V.pl 0 0),(3,V.pl 1 0),(1,A Y)],[Ax.cells [A x9,A Ps,A Pr,A Px] 37,Ax.cells [V.sl H (D bd G),V.sl T (D bq O),V.sl n4 (D bu f4),V.sl n6 (D aV f6)] 31],none)
def axg:Ui->JJ
 |.L0 ..=>(0,[])
def ybp:Bh (cq JJ):=aQ JJ Ef u0 Ul [Ca H G T O n4 f4 n6 f6,A Y,V.agg [A x9,A Ps,A Pr,A Px]]
def fs7 (cx:List Cx):Lp JJ:=eX (eJ (ybp H G T O n4 f4 n6 f6 Y x9 Ps Pr Px) J6)
def awX:JJ->Lp JJ
 |(0,cx)=>fs7 H G T O n4 f4 n6 f6 Y x9 Ps Pr Px cx|(_,cx)=>fs7 H G T O n4 f4 n6 f6 Y x9 Ps Pr Px cx
def D17:LD JJ Ui:=⟨axg,awX H G T O n4 f4 n6 f6 Y x9 Ps Pr Px,an6 H G T O n4 f4 n6 f6 Y x9 Ps Pr Px⟩
def UZ (H:Nat) (G:be) (T:Nat) (O:be) (n4:Nat) (f4:be) (n6:Nat) (f6:be) (Y x9 Ps Pr Px:Int):Ui->RT Ui
 |.L0 Pt Qf=>.br (decide (Pt<(T:Int))) (.ob (decide (0<=Pt/\Pt<(T:Int))) (.ob (decide (0<=Y/\Y<(n6:Int))) (.cb (.cb (.cb (.br (!Dk 4 (D aM (b5 [A x9,A Ps,A Pr,A Ps,A Pr,A Px,A x9,A Px] 0 2)) (aP (f6 Y.toNat)) (bV (f6 Y.toNat)) (bf (f6 Y.toNat)) (nU (bf (f6 Y.toNat)) (cu (O Pt.toNat))) (ny (bf (f6 Y.toNat)) (bf (O Pt.toNat))) (nN (bf (f6 Y.toNat)) (av (O Pt.toNat))) (nm (bf (f6 Y.toNat)) (aP (O Pt.toNat))) (nd (bf (f6 Y.toNat)) (bV (O Pt.toNat))) (ls (bf (f6 Y.toNat)) (bf (O Pt.toNat)))) (.next Dv (Ui.L0 (E (Pt+1)) 2) []) (.obp (ls (bf (f6 Y.toNat)) (bf (O Pt.toNat))=false->((-100000:Int)<=aP (f6 Y.toNat)/\aP (f6 Y.toNat)<=(100000:Int))/\((-100000:Int)<=bV (f6 Y.toNat)/\bV (f6 Y.toNat)<=(100000:Int))/\((0:Int)<=bf (f6 Y.toNat)/\bf (f6 Y.toNat)<=(200:Int))/\((0:Int)<=nU (bf (f6 Y.toNat)) (cu (O Pt.toNat))/\nU (bf (f6 Y.toNat)) (cu (O Pt.toNat))<=(200:Int))/\((0:Int)<=ny (bf (f6 Y.toNat)) (bf (O Pt.toNat))/\ny (bf (f6 Y.toNat)) (bf (O Pt.toNat))<=(200:Int))/\((-536870912:Int)<=nN (bf (f6 Y.toNat)) (av (O Pt.toNat))/\nN (bf (f6 Y.toNat)) (av (O Pt.toNat))<=(536870912:Int))/\((-536870912:Int)<=nm (bf (f6 Y.toNat)) (aP (O Pt.toNat))/\nm (bf (f6 Y.toNat)) (aP (O Pt.toNat))<=(536870912:Int))/\((0:Int)<=nd (bf (f6 Y.toNat)) (bV (O Pt.toNat))/\nd (bf (f6 Y.toNat)) (bV (O Pt.toNat))<=(1073741824:Int))/\((-100000:Int)<=x9/\x9<=(100000:Int))/\((-100000:Int)<=Ps/\Ps<=(100000:Int))/\((-100000:Int)<=Pr/\Pr<=(100000:Int))/\(-100000:Int)<=Px/\Px<=(100000:Int)) (.obt (.br (Pk (aP (f6 Y.toNat)) (bV (f6 Y.toNat)) (bf (f6 Y.toNat)) (nU (bf (f6 Y.toNat)) (cu (O Pt.toNat))) (ny (bf (f6 Y.toNat)) (bf (O Pt.toNat))) (nN (bf (f6 Y.toNat)) (av (O Pt.toNat))) (nm (bf (f6 Y.toNat)) (aP (O Pt.toNat))) (nd (bf (f6 Y.toNat)) (bV (O Pt.toNat))) (ls (bf (f6 Y.toNat)) (bf (O Pt.toNat))) x9 Ps Pr Px) (.next Dv (Ui.L0 (E (Pt+1)) (max Qf 1)) []) (.next Dv (Ui.L0 (E (Pt+1)) Qf) [])))))))))) (.ret (V.tup [A Qf,A 0]))
def Oi:RT Ui:=.am n6 (.obp (((aD H G)/\aD n6 f6)/\(0:Nat)=(0:Nat)/\(2:Nat)<=(100:Nat)) (.obt (.br (MC H (D bd G) T (D bq O) n4 (D bu f4) n6 (D aV f6) 2 (D L (b5 [A Y,A (n6:Int)] 0 1))!=0) (.ret (V.tup [A 0,A (MC H (D bd G) T (D bq O) n4 (D bu f4) n6 (D aV f6) 2 (D L (b5 [A Y,A (n6:Int)] 0 1)))])) (.cb (.br (yH x9 Ps Pr Px) (.ret (V.tup [A 0,A 7])) (.am T (.enter J4 (Ui.L0 0 0) [])))))))
theorem apX:dZ Ef u0 (D17 H G T O n4 f4 n6 f6 Y x9 Ps Pr Px) (ybp H G T O n4 f4 n6 f6 Y x9 Ps Pr Px) (Oi H G T O n4 f4 n6 f6 Y x9 Ps Pr Px) (UZ H G T O n4 f4 n6 f6 Y x9 Ps Pr Px):=⟨bD,λs=>by cases s<;>exact bD⟩
def FX (ii:Nat):Bool:=dm (H,G,T,n4,f4,n6) (!Dk 4 (D aM (b5 [A x9,A Ps,A Pr,A Ps,A Pr,A Px,A x9,A Px] 0 2)) (aP (f6 Y.toNat)) (bV (f6 Y.toNat)) (bf (f6 Y.toNat)) (nU (bf (f6 Y.toNat)) (cu (O ii))) (ny (bf (f6 Y.toNat)) (bf (O ii))) (nN (bf (f6 Y.toNat)) (av (O ii))) (nm (bf (f6 Y.toNat)) (aP (O ii))) (nd (bf (f6 Y.toNat)) (bV (O ii))) (ls (bf (f6 Y.toNat)) (bf (O ii))))
def La (ii:Nat):Bool:=dm (H,G,T,n4,f4,n6) (Pk (aP (f6 Y.toNat)) (bV (f6 Y.toNat)) (bf (f6 Y.toNat)) (nU (bf (f6 Y.toNat)) (cu (O ii))) (ny (bf (f6 Y.toNat)) (bf (O ii))) (nN (bf (f6 Y.toNat)) (av (O ii))) (nm (bf (f6 Y.toNat)) (aP (O ii))) (nd (bf (f6 Y.toNat)) (bV (O ii))) (ls (bf (f6 Y.toNat)) (bf (O ii))) x9 Ps Pr Px)
def p8:Int:=bif MC H (D bd G) T (D bq O) n4 (D bu f4) n6 (D aV f6) 2 (D L (b5 [A Y,A (n6:Int)] 0 1))!=0 then 0 else bif yH x9 Ps Pr Px then 0 else kk (FX H G T O n4 f4 n6 f6 Y x9 Ps Pr Px) (La H G T O n4 f4 n6 f6 Y x9 Ps Pr Px) T
def sU:Int:=bif MC H (D bd G) T (D bq O) n4 (D bu f4) n6 (D aV f6) 2 (D L (b5 [A Y,A (n6:Int)] 0 1))!=0 then MC H (D bd G) T (D bq O) n4 (D bu f4) n6 (D aV f6) 2 (D L (b5 [A Y,A (n6:Int)] 0 1)) else bif yH x9 Ps Pr Px then 7 else 0
theorem c17 (H:Nat) (G:be) (T:Nat) (O:be) (n4:Nat) (f4:be) (n6:Nat) (f6:be) (Y x9 Ps Pr Px:Int) (hx:0<=Y/\Y<(n6:Int)) (hn:T<=9223372036854775807) (Ru:∀ i,i<T->TC (aP (f6 Y.toNat)) (bV (f6 Y.toNat)) (bf (f6 Y.toNat)) (av (O i)) (aP (O i)) (bV (O i)) (bf (O i)) (cu (O i))) (hp:(-100000<=x9/\x9<=100000)/\(-100000<=Ps/\Ps<=100000)/\(-100000<=Pr/\Pr<=100000)/\(-100000<=Px/\Px<=100000)) :
 ∀i,i<=T->Ev (UZ H G T O n4 f4 n6 f6 Y x9 Ps Pr Px) (.L0 (i:Int) (kk (FX H G T O n4 f4 n6 f6 Y x9 Ps Pr Px) (La H G T O n4 f4 n6 f6 Y x9 Ps Pr Px) i)) (.tup [A (kk (FX H G T O n4 f4 n6 f6 Y x9 Ps Pr Px) (La H G T O n4 f4 n6 f6 Y x9 Ps Pr Px) T),A 0]):=by
 refine dB λi hi ih=>?_;by_cases Q7:i<T
 ·have ih:=ih Q7
  have hw:=kE Q7 hn;refine Ev.of rfl (cP (BX K) (aF (BX K) (aF (BX hx) (ao (ac (ao (ac (ao (ac (C2 (λh=>aL ?_) (λh=>aI ?_ (ac (C2 (λN=>aL ?_) (λN=>aL ?_))))))))))))))
  ·rw[hw]
   have e:kk (FX H G T O n4 f4 n6 f6 Y x9 Ps Pr Px) (La H G T O n4 f4 n6 f6 Y x9 Ps Pr Px) (i+1)=2:=by simp only[kk];rw[show FX H G T O n4 f4 n6 f6 Y x9 Ps Pr Px i=true from h];rfl
   rw[e]at ih;exact ih
  ·exact λhb=>(Ru i Q7).in57 hb hp.1 hp.2.1 hp.2.2.1 hp.2.2.2
  ·rw[hw]
   have e:kk (FX H G T O n4 f4 n6 f6 Y x9 Ps Pr Px) (La H G T O n4 f4 n6 f6 Y x9 Ps Pr Px) (i+1)=max (kk (FX H G T O n4 f4 n6 f6 Y x9 Ps Pr Px) (La H G T O n4 f4 n6 f6 Y x9 Ps Pr Px) i) 1:=by simp only[kk];rw[show FX H G T O n4 f4 n6 f6 Y x9 Ps Pr Px i=false from h,show La H G T O n4 f4 n6 f6 Y x9 Ps Pr Px i=true from N];rfl
   rw[e]at ih;exact ih
  ·rw[hw]
   have e:kk (FX H G T O n4 f4 n6 f6 Y x9 Ps Pr Px) (La H G T O n4 f4 n6 f6 Y x9 Ps Pr Px) (i+1)=kk (FX H G T O n4 f4 n6 f6 Y x9 Ps Pr Px) (La H G T O n4 f4 n6 f6 Y x9 Ps Pr Px) i:=by simp only[kk];rw[show FX H G T O n4 f4 n6 f6 Y x9 Ps Pr Px i=false from h,show La H G T O n4 f4 n6 f6 Y x9 Ps Pr Px i=false from N];rfl
   rw[e]at ih;exact ih
 ·have e:i=T:=by omega
  subst e;exact Ev.of rfl (cW (eQ K) (B5 rfl))
theorem agz (hp:aD H G/\aD n6 f6):aT (Ev (UZ H G T O n4 f4 n6 f6 Y x9 Ps Pr Px)) (Oi H G T O n4 f4 n6 f6 Y x9 Ps Pr Px) (.tup [A (p8 H G T O n4 f4 n6 f6 Y x9 Ps Pr Px),A (sU H G T O n4 f4 n6 f6 Y x9 Ps Pr Px)]):=bC λh6=>aI ⟨hp,rfl,aR⟩ (ac (C2 (λh=>B5 (by unfold p8 sU;rw[h];rfl)) (λh=>ao (ac (C2 (λN=>B5 (by unfold p8 sU;rw[h,N];rfl)) (λN=>bC λhn=>aH (by
 have e0:p8 H G T O n4 f4 n6 f6 Y x9 Ps Pr Px=kk (FX H G T O n4 f4 n6 f6 Y x9 Ps Pr Px) (La H G T O n4 f4 n6 f6 Y x9 Ps Pr Px) T:=by unfold p8;rw[h,N];rfl
 have e1:sU H G T O n4 f4 n6 f6 Y x9 Ps Pr Px=0:=by unfold sU;rw[h,N];rfl
 rw[e0,e1];have hc:=arV (H:=H) (G:=G) (T:=T) (O:=O) (n4:=n4) (f4:=f4) (n6:=n6) (f6:=f6) (i:=Y) (m:=n6) (λ_=>h6);have hz:EH (gN H (D bd G) T (D bq O) n4 (D bu f4) n6 (D aV f6)) Y n6=0:=by rw[← hc];simpa using h
 obtain⟨hx,Ru⟩:=Jb hz;rw[R58]at N;have hq:=xA (wa N);exact c17 _ _ _ _ _ _ _ _ _ _ _ _ _ hx hn Ru ⟨hq.1,hq.2.1,hq.2.2.1,hq.2.2.2.1⟩ 0 (Da _))))))))
theorem awQ (hp:aD H (D bd G)/\aD n6 (D aV f6)):aT (Ev (UZ H G T O n4 f4 n6 f6 Y x9 Ps Pr Px)) (Oi H G T O n4 f4 n6 f6 Y x9 Ps Pr Px) (.tup [A (p8 H (D bd G) T (D bq O) n4 (D bu f4) n6 (D aV f6) Y x9 Ps Pr Px),A (sU H (D bd G) T (D bq O) n4 (D bu f4) n6 (D aV f6) Y x9 Ps Pr Px)]):=agz H G T O n4 f4 n6 f6 Y x9 Ps Pr Px hp
def C17:aE:=bP [.agg [.sl bd,.sl bq,.sl bu,.sl aV],tI,.agg gV] (λ
 |[.agg [.sl H G,.sl T O,.sl n4 f4,.sl n6 f6],.int _ Y,.agg [.int _ x9,.int _ Ps,.int _ Pr,.int _ Px]]=>aD H G/\aD n6 f6|_=>False) λ
 |[.agg [.sl H G,.sl T O,.sl n4 f4,.sl n6 f6],.int _ Y,.agg [.int _ x9,.int _ Ps,.int _ Pr,.int _ Px]]=>.tup [A (p8 H G T O n4 f4 n6 f6 Y x9 Ps Pr Px),A (sU H G T O n4 f4 n6 f6 Y x9 Ps Pr Px)]|_=>.any
theorem aw2:b9 C17 58:=aU azs λ_ hp=>kr (apX ..) (awQ _ _ _ _ _ _ _ _ _ _ _ _ _ hp)
inductive FI where|L0 (_ _:Int)
def apw:FI->bS×List Ax×Option Ex
 |.L0 Pt Qf=>([(12,A Pt),(11,A Qf),(10,V.pl 0 0),(9,V.pl 1 0),(5,V.pl 2 0),(3,V.pl 3 0)],[Ax.cells [A x9,A Ps,A Pr,A Ps,A Pr,A Px,A x9,A Px] 164,Ax.cells [V.str (sv (aA (f6 Y.toNat))),A (aP (f6 Y.toNat)),A (bV (f6 Y.toNat)),A (bf (f6 Y.toNat)),A (cu (f6 Y.toNat)),A (bE (f6 Y.toNat))] 52,Ax.cells [A x9,A Ps,A Pr,A Px] 37,Ax.cells [V.sl H (D bd G),V.sl T (D bq O),V.sl n4 (D bu f4),V.sl n6 (D aV f6)] 31],none)
def auV:FI->JJ
 |.L0 ..=>(0,[])
def asV:Bh (cq JJ):=aQ JJ Ef u18 axq [Ca H G T O n4 f4 n6 f6,A Y,V.agg [A x9,A Ps,A Pr,A Px]]
def fp4 (cx:List Cx):Lp JJ:=eX (eJ (asV H G T O n4 f4 n6 f6 Y x9 Ps Pr Px) [true,false,false])
def avF:JJ->Lp JJ
 |(0,cx)=>fp4 H G T O n4 f4 n6 f6 Y x9 Ps Pr Px cx|(_,cx)=>fp4 H G T O n4 f4 n6 f6 Y x9 Ps Pr Px cx
def D18:LD JJ FI:=⟨auV,avF H G T O n4 f4 n6 f6 Y x9 Ps Pr Px,apw H G T O n4 f4 n6 f6 Y x9 Ps Pr Px⟩
def Lo (H:Nat) (G:be) (T:Nat) (O:be) (n4:Nat) (f4:be) (n6:Nat) (f6:be) (Y x9 Ps Pr Px:Int):FI->RT FI
 |.L0 Pt Qf=>.am T (.br (decide (Pt<(T:Int))) (.brt (.ob (decide (0<=Pt/\Pt<(T:Int))) (.obt (.cb (.brt (.ii (.obi (.obj (fe (aP (f6 Y.toNat)) (bV (f6 Y.toNat)) (bf (f6 Y.toNat)) (av (O Pt.toNat)) (aP (O Pt.toNat)) (bV (O Pt.toNat)) (bf (O Pt.toNat)) (cu (O Pt.toNat)) x9 Ps) (decide (0<=Pt/\Pt<(T:Int))) (.ii (.obt (.obi (.br (fe (aP (f6 Y.toNat)) (bV (f6 Y.toNat)) (bf (f6 Y.toNat)) (av (O Pt.toNat)) (aP (O Pt.toNat)) (bV (O Pt.toNat)) (bf (O Pt.toNat)) (cu (O Pt.toNat)) x9 Ps) (.ob (fe (aP (f6 Y.toNat)) (bV (f6 Y.toNat)) (bf (f6 Y.toNat)) (av (O Pt.toNat)) (aP (O Pt.toNat)) (bV (O Pt.toNat)) (bf (O Pt.toNat)) (cu (O Pt.toNat)) x9 Ps) (.ob (fe (aP (f6 Y.toNat)) (bV (f6 Y.toNat)) (bf (f6 Y.toNat)) (av (O Pt.toNat)) (aP (O Pt.toNat)) (bV (O Pt.toNat)) (bf (O Pt.toNat)) (cu (O Pt.toNat)) x9 Ps) (.ob (fe (aP (f6 Y.toNat)) (bV (f6 Y.toNat)) (bf (f6 Y.toNat)) (av (O Pt.toNat)) (aP (O Pt.toNat)) (bV (O Pt.toNat)) (bf (O Pt.toNat)) (cu (O Pt.toNat)) x9 Ps) (.cb (.brt (.ii (.obi (.obj (fe (aP (f6 Y.toNat)) (bV (f6 Y.toNat)) (bf (f6 Y.toNat)) (av (O Pt.toNat)) (aP (O Pt.toNat)) (bV (O Pt.toNat)) (bf (O Pt.toNat)) (cu (O Pt.toNat)) Pr Ps) (decide (0<=Pt/\Pt<(T:Int))) (.ii (.obt (.obi (.br (fe (aP (f6 Y.toNat)) (bV (f6 Y.toNat)) (bf (f6 Y.toNat)) (av (O Pt.toNat)) (aP (O Pt.toNat)) (bV (O Pt.toNat)) (bf (O Pt.toNat)) (cu (O Pt.toNat)) Pr Ps) (.ob (fe (aP (f6 Y.toNat)) (bV (f6 Y.toNat)) (bf (f6 Y.toNat)) (av (O Pt.toNat)) (aP (O Pt.toNat)) (bV (O Pt.toNat)) (bf (O Pt.toNat)) (cu (O Pt.toNat)) Pr Ps) (.ob (fe (aP (f6 Y.toNat)) (bV (f6 Y.toNat)) (bf (f6 Y.toNat)) (av (O Pt.toNat)) (aP (O Pt.toNat)) (bV (O Pt.toNat)) (bf (O Pt.toNat)) (cu (O Pt.toNat)) Pr Ps) (.ob (fe (aP (f6 Y.toNat)) (bV (f6 Y.toNat)) (bf (f6 Y.toNat)) (av (O Pt.toNat)) (aP (O Pt.toNat)) (bV (O Pt.toNat)) (bf (O Pt.toNat)) (cu (O Pt.toNat)) Pr Ps) (.cb (.brt (.ii (.obi (.obj (fe (aP (f6 Y.toNat)) (bV (f6 Y.toNat)) (bf (f6 Y.toNat)) (av (O Pt.toNat)) (aP (O Pt.toNat)) (bV (O Pt.toNat)) (bf (O Pt.toNat)) (cu (O Pt.toNat)) Pr Px) (decide (0<=Pt/\Pt<(T:Int))) (.ii (.obt (.obi (.br (fe (aP (f6 Y.toNat)) (bV (f6 Y.toNat)) (bf (f6 Y.toNat)) (av (O Pt.toNat)) (aP (O Pt.toNat)) (bV (O Pt.toNat)) (bf (O Pt.toNat)) (cu (O Pt.toNat)) Pr Px) (.ob (fe (aP (f6 Y.toNat)) (bV (f6 Y.toNat)) (bf (f6 Y.toNat)) (av (O Pt.toNat)) (aP (O Pt.toNat)) (bV (O Pt.toNat)) (bf (O Pt.toNat)) (cu (O Pt.toNat)) Pr Px) (.ob (fe (aP (f6 Y.toNat)) (bV (f6 Y.toNat)) (bf (f6 Y.toNat)) (av (O Pt.toNat)) (aP (O Pt.toNat)) (bV (O Pt.toNat)) (bf (O Pt.toNat)) (cu (O Pt.toNat)) Pr Px) (.ob (fe (aP (f6 Y.toNat)) (bV (f6 Y.toNat)) (bf (f6 Y.toNat)) (av (O Pt.toNat)) (aP (O Pt.toNat)) (bV (O Pt.toNat)) (bf (O Pt.toNat)) (cu (O Pt.toNat)) Pr Px) (.cb (.brf (.br (fe (aP (f6 Y.toNat)) (bV (f6 Y.toNat)) (bf (f6 Y.toNat)) (av (O Pt.toNat)) (aP (O Pt.toNat)) (bV (O Pt.toNat)) (bf (O Pt.toNat)) (cu (O Pt.toNat)) x9 Px) (.ret (V.tup [A 2,A 0])) (.ob (decide (0<=Pt/\Pt<(T:Int))) (.obp (fL (bf (f6 Y.toNat)) (bf (O Pt.toNat))=true->((-100000:Int)<=aP (f6 Y.toNat)/\aP (f6 Y.toNat)<=(100000:Int))/\((-100000:Int)<=bV (f6 Y.toNat)/\bV (f6 Y.toNat)<=(100000:Int))/\((0:Int)<=bf (f6 Y.toNat)/\bf (f6 Y.toNat)<=(200:Int))/\((0:Int)<=cD (bf (f6 Y.toNat)) (cu (O Pt.toNat))/\cD (bf (f6 Y.toNat)) (cu (O Pt.toNat))<=(200:Int))/\((0:Int)<=cH (bf (f6 Y.toNat)) (bf (O Pt.toNat))/\cH (bf (f6 Y.toNat)) (bf (O Pt.toNat))<=(200:Int))/\((-536870912:Int)<=cE (bf (f6 Y.toNat)) (av (O Pt.toNat))/\cE (bf (f6 Y.toNat)) (av (O Pt.toNat))<=(536870912:Int))/\((-536870912:Int)<=cG (bf (f6 Y.toNat)) (aP (O Pt.toNat))/\cG (bf (f6 Y.toNat)) (aP (O Pt.toNat))<=(536870912:Int))/\((0:Int)<=dc (bf (f6 Y.toNat)) (bV (O Pt.toNat))/\dc (bf (f6 Y.toNat)) (bV (O Pt.toNat))<=(1073741824:Int))/\((-100000:Int)<=x9/\x9<=(100000:Int))/\((-100000:Int)<=Ps/\Ps<=(100000:Int))/\((-100000:Int)<=Pr/\Pr<=(100000:Int))/\(-100000:Int)<=Px/\Px<=(100000:Int)) (.obt (.br (Kc (aP (f6 Y.toNat)) (bV (f6 Y.toNat)) (bf (f6 Y.toNat)) (av (O Pt.toNat)) (aP (O Pt.toNat)) (bV (O Pt.toNat)) (bf (O Pt.toNat)) (cu (O Pt.toNat)) x9 Ps Pr Px) (.next (iR 0 4 []) (FI.L0 (E (Pt+1)) 1) []) (.next (iR 0 4 []) (FI.L0 (E (Pt+1)) Qf) []))))))))))) (.brf (.ob (decide (0<=Pt/\Pt<(T:Int))) (.obp (fL (bf (f6 Y.toNat)) (bf (O Pt.toNat))=true->((-100000:Int)<=aP (f6 Y.toNat)/\aP (f6 Y.toNat)<=(100000:Int))/\((-100000:Int)<=bV (f6 Y.toNat)/\bV (f6 Y.toNat)<=(100000:Int))/\((0:Int)<=bf (f6 Y.toNat)/\bf (f6 Y.toNat)<=(200:Int))/\((0:Int)<=cD (bf (f6 Y.toNat)) (cu (O Pt.toNat))/\cD (bf (f6 Y.toNat)) (cu (O Pt.toNat))<=(200:Int))/\((0:Int)<=cH (bf (f6 Y.toNat)) (bf (O Pt.toNat))/\cH (bf (f6 Y.toNat)) (bf (O Pt.toNat))<=(200:Int))/\((-536870912:Int)<=cE (bf (f6 Y.toNat)) (av (O Pt.toNat))/\cE (bf (f6 Y.toNat)) (av (O Pt.toNat))<=(536870912:Int))/\((-536870912:Int)<=cG (bf (f6 Y.toNat)) (aP (O Pt.toNat))/\cG (bf (f6 Y.toNat)) (aP (O Pt.toNat))<=(536870912:Int))/\((0:Int)<=dc (bf (f6 Y.toNat)) (bV (O Pt.toNat))/\dc (bf (f6 Y.toNat)) (bV (O Pt.toNat))<=(1073741824:Int))/\((-100000:Int)<=x9/\x9<=(100000:Int))/\((-100000:Int)<=Ps/\Ps<=(100000:Int))/\((-100000:Int)<=Pr/\Pr<=(100000:Int))/\(-100000:Int)<=Px/\Px<=(100000:Int)) (.obt (.br (Kc (aP (f6 Y.toNat)) (bV (f6 Y.toNat)) (bf (f6 Y.toNat)) (av (O Pt.toNat)) (aP (O Pt.toNat)) (bV (O Pt.toNat)) (bf (O Pt.toNat)) (cu (O Pt.toNat)) x9 Ps Pr Px) (.next (iR 0 4 []) (FI.L0 (E (Pt+1)) 1) []) (.next (iR 0 4 []) (FI.L0 (E (Pt+1)) Qf) [])))))))))))))))))) (.brt (.brf (.ob (decide (0<=Pt/\Pt<(T:Int))) (.obp (fL (bf (f6 Y.toNat)) (bf (O Pt.toNat))=true->((-100000:Int)<=aP (f6 Y.toNat)/\aP (f6 Y.toNat)<=(100000:Int))/\((-100000:Int)<=bV (f6 Y.toNat)/\bV (f6 Y.toNat)<=(100000:Int))/\((0:Int)<=bf (f6 Y.toNat)/\bf (f6 Y.toNat)<=(200:Int))/\((0:Int)<=cD (bf (f6 Y.toNat)) (cu (O Pt.toNat))/\cD (bf (f6 Y.toNat)) (cu (O Pt.toNat))<=(200:Int))/\((0:Int)<=cH (bf (f6 Y.toNat)) (bf (O Pt.toNat))/\cH (bf (f6 Y.toNat)) (bf (O Pt.toNat))<=(200:Int))/\((-536870912:Int)<=cE (bf (f6 Y.toNat)) (av (O Pt.toNat))/\cE (bf (f6 Y.toNat)) (av (O Pt.toNat))<=(536870912:Int))/\((-536870912:Int)<=cG (bf (f6 Y.toNat)) (aP (O Pt.toNat))/\cG (bf (f6 Y.toNat)) (aP (O Pt.toNat))<=(536870912:Int))/\((0:Int)<=dc (bf (f6 Y.toNat)) (bV (O Pt.toNat))/\dc (bf (f6 Y.toNat)) (bV (O Pt.toNat))<=(1073741824:Int))/\((-100000:Int)<=x9/\x9<=(100000:Int))/\((-100000:Int)<=Ps/\Ps<=(100000:Int))/\((-100000:Int)<=Pr/\Pr<=(100000:Int))/\(-100000:Int)<=Px/\Px<=(100000:Int)) (.obt (.br (Kc (aP (f6 Y.toNat)) (bV (f6 Y.toNat)) (bf (f6 Y.toNat)) (av (O Pt.toNat)) (aP (O Pt.toNat)) (bV (O Pt.toNat)) (bf (O Pt.toNat)) (cu (O Pt.toNat)) x9 Ps Pr Px) (.next (iR 0 4 []) (FI.L0 (E (Pt+1)) 1) []) (.next (iR 0 4 []) (FI.L0 (E (Pt+1)) Qf) []))))))))))))))))))) (.brt (.brt (.brf (.ob (decide (0<=Pt/\Pt<(T:Int))) (.obp (fL (bf (f6 Y.toNat)) (bf (O Pt.toNat))=true->((-100000:Int)<=aP (f6 Y.toNat)/\aP (f6 Y.toNat)<=(100000:Int))/\((-100000:Int)<=bV (f6 Y.toNat)/\bV (f6 Y.toNat)<=(100000:Int))/\((0:Int)<=bf (f6 Y.toNat)/\bf (f6 Y.toNat)<=(200:Int))/\((0:Int)<=cD (bf (f6 Y.toNat)) (cu (O Pt.toNat))/\cD (bf (f6 Y.toNat)) (cu (O Pt.toNat))<=(200:Int))/\((0:Int)<=cH (bf (f6 Y.toNat)) (bf (O Pt.toNat))/\cH (bf (f6 Y.toNat)) (bf (O Pt.toNat))<=(200:Int))/\((-536870912:Int)<=cE (bf (f6 Y.toNat)) (av (O Pt.toNat))/\cE (bf (f6 Y.toNat)) (av (O Pt.toNat))<=(536870912:Int))/\((-536870912:Int)<=cG (bf (f6 Y.toNat)) (aP (O Pt.toNat))/\cG (bf (f6 Y.toNat)) (aP (O Pt.toNat))<=(536870912:Int))/\((0:Int)<=dc (bf (f6 Y.toNat)) (bV (O Pt.toNat))/\dc (bf (f6 Y.toNat)) (bV (O Pt.toNat))<=(1073741824:Int))/\((-100000:Int)<=x9/\x9<=(100000:Int))/\((-100000:Int)<=Ps/\Ps<=(100000:Int))/\((-100000:Int)<=Pr/\Pr<=(100000:Int))/\(-100000:Int)<=Px/\Px<=(100000:Int)) (.obt (.br (Kc (aP (f6 Y.toNat)) (bV (f6 Y.toNat)) (bf (f6 Y.toNat)) (av (O Pt.toNat)) (aP (O Pt.toNat)) (bV (O Pt.toNat)) (bf (O Pt.toNat)) (cu (O Pt.toNat)) x9 Ps Pr Px) (.next (iR 0 4 []) (FI.L0 (E (Pt+1)) 1) []) (.next (iR 0 4 []) (FI.L0 (E (Pt+1)) Qf) [])))))))))))))))))))) (.ret (V.tup [A Qf,A 0])))
abbrev am5:=[some (some 3),some (some 2),some (some 1),some (some 0)]
def On:RT FI:=.am n6 (.obp ((aD H G)/\aD n6 f6) (.obt (.br (jj H (D bd G) T (D bq O) n4 (D bu f4) n6 (D aV f6) Y (n6:Int)==0) (.ob (jj H (D bd G) T (D bq O) n4 (D bu f4) n6 (D aV f6) Y (n6:Int)==0) (.cb (.br (!H8 x9 Ps Pr Px) (.brt (.ret (V.tup [A 0,A 7]))) (.bry (jj H (D bd G) T (D bq O) n4 (D bu f4) n6 (D aV f6) Y (n6:Int)!=0) (.ob (decide (0<=Y/\Y<(n6:Int))) (.cb (.enter am5 (FI.L0 0 0) []))))))) (.brx (jj H (D bd G) T (D bq O) n4 (D bu f4) n6 (D aV f6) Y (n6:Int)!=0) (.ret (V.tup [A 0,A (jj H (D bd G) T (D bq O) n4 (D bu f4) n6 (D aV f6) Y (n6:Int))]))))))
theorem anu:dZ Ef u18 (D18 H G T O n4 f4 n6 f6 Y x9 Ps Pr Px) (asV H G T O n4 f4 n6 f6 Y x9 Ps Pr Px) (On H G T O n4 f4 n6 f6 Y x9 Ps Pr Px) (Lo H G T O n4 f4 n6 f6 Y x9 Ps Pr Px):=⟨bD,λs=>by cases s<;>exact bD⟩
def FO (ii:Nat):Bool:=dm (H,G,T,n4,f4,n6) (fe (aP (f6 Y.toNat)) (bV (f6 Y.toNat)) (bf (f6 Y.toNat)) (av (O ii)) (aP (O ii)) (bV (O ii)) (bf (O ii)) (cu (O ii)) x9 Ps&&(fe (aP (f6 Y.toNat)) (bV (f6 Y.toNat)) (bf (f6 Y.toNat)) (av (O ii)) (aP (O ii)) (bV (O ii)) (bf (O ii)) (cu (O ii)) Pr Ps&&(fe (aP (f6 Y.toNat)) (bV (f6 Y.toNat)) (bf (f6 Y.toNat)) (av (O ii)) (aP (O ii)) (bV (O ii)) (bf (O ii)) (cu (O ii)) Pr Px&&fe (aP (f6 Y.toNat)) (bV (f6 Y.toNat)) (bf (f6 Y.toNat)) (av (O ii)) (aP (O ii)) (bV (O ii)) (bf (O ii)) (cu (O ii)) x9 Px)))
def Lg (ii:Nat):Bool:=dm (H,G,T,n4,f4,n6) (Kc (aP (f6 Y.toNat)) (bV (f6 Y.toNat)) (bf (f6 Y.toNat)) (av (O ii)) (aP (O ii)) (bV (O ii)) (bf (O ii)) (cu (O ii)) x9 Ps Pr Px)
def fY:Int:=bif jj H (D bd G) T (D bq O) n4 (D bu f4) n6 (D aV f6) Y (n6:Int)!=0 then 0 else bif H8 x9 Ps Pr Px then jr (FO H G T O n4 f4 n6 f6 Y x9 Ps Pr Px) (Lg H G T O n4 f4 n6 f6 Y x9 Ps Pr Px) T else 0
def tz:Int:=bif jj H (D bd G) T (D bq O) n4 (D bu f4) n6 (D aV f6) Y (n6:Int)!=0 then jj H (D bd G) T (D bq O) n4 (D bu f4) n6 (D aV f6) Y (n6:Int) else bif H8 x9 Ps Pr Px then 0 else 7
theorem c18 (H:Nat) (G:be) (T:Nat) (O:be) (n4:Nat) (f4:be) (n6:Nat) (f6:be) (Y x9 Ps Pr Px:Int) (hx:0<=Y/\Y<(n6:Int)) (Ru:∀ i,i<T->TC (aP (f6 Y.toNat)) (bV (f6 Y.toNat)) (bf (f6 Y.toNat)) (av (O i)) (aP (O i)) (bV (O i)) (bf (O i)) (cu (O i))) (hp:(-100000<=x9/\x9<=100000)/\(-100000<=Ps/\Ps<=100000)/\(-100000<=Pr/\Pr<=100000)/\(-100000<=Px/\Px<=100000)) :
 ∀i,i<=T->gS i (FO H G T O n4 f4 n6 f6 Y x9 Ps Pr Px)=false->∀o:Int,o=(bif gS i (Lg H G T O n4 f4 n6 f6 Y x9 Ps Pr Px) then 1 else 0)->Ev (Lo H G T O n4 f4 n6 f6 Y x9 Ps Pr Px) (.L0 (i:Int) o) (.tup [A (jr (FO H G T O n4 f4 n6 f6 Y x9 Ps Pr Px) (Lg H G T O n4 f4 n6 f6 Y x9 Ps Pr Px) T),A 0]):=by
 refine dB λii hi ih hd o ho=>Ev.of rfl (bC λhn=>?_);by_cases Q7:ii<T
 ·have ih:=ih Q7
  have hw:=kE Q7 hn;have SH:decide (0<=(ii:Int)/\(ii:Int)<(T:Int))=true:=BX K;have YN:=λhb=>(Ru ii Q7).refIn hb hp.1 hp.2.1 hp.2.2.1 hp.2.2.2;have hD:FO H G T O n4 f4 n6 f6 Y x9 Ps Pr Px ii=true->jr (FO H G T O n4 f4 n6 f6 Y x9 Ps Pr Px) (Lg H G T O n4 f4 n6 f6 Y x9 Ps Pr Px) T=2:=λh=>by unfold jr;rw[cV ii Q7 h];rfl
  have hN1:FO H G T O n4 f4 n6 f6 Y x9 Ps Pr Px ii=false->Lg H G T O n4 f4 n6 f6 Y x9 Ps Pr Px ii=true->Ev (Lo H G T O n4 f4 n6 f6 Y x9 Ps Pr Px) (.L0 (E ((ii:Int)+1)) 1) (.tup [A (jr (FO H G T O n4 f4 n6 f6 Y x9 Ps Pr Px) (Lg H G T O n4 f4 n6 f6 Y x9 Ps Pr Px) T),A 0]):=λM N=>by rw[hw];exact ih (by rw[hJ,hd,M];rfl) 1 (by rw[hJ,N,Bool.or_true];rfl)
  have hN0:FO H G T O n4 f4 n6 f6 Y x9 Ps Pr Px ii=false->Lg H G T O n4 f4 n6 f6 Y x9 Ps Pr Px ii=false->Ev (Lo H G T O n4 f4 n6 f6 Y x9 Ps Pr Px) (.L0 (E ((ii:Int)+1)) o) (.tup [A (jr (FO H G T O n4 f4 n6 f6 Y x9 Ps Pr Px) (Lg H G T O n4 f4 n6 f6 Y x9 Ps Pr Px) T),A 0]):=λM N=>by rw[hw];exact ih (by rw[hJ,hd,M];rfl) o (by rw[hJ,N,Bool.or_false];exact ho)
  refine cP (BX K) ?_;generalize jr (FO H G T O n4 f4 n6 f6 Y x9 Ps Pr Px) (Lg H G T O n4 f4 n6 f6 Y x9 Ps Pr Px) T=r at *
  unfold FO at hD hN1 hN0;unfold Lg at hN1 hN0;clear ih hw ho hd;rw[De];generalize Zt:fe (aP (f6 Y.toNat)) (bV (f6 Y.toNat)) (bf (f6 Y.toNat)) (av (O ii)) (aP (O ii)) (bV (O ii)) (bf (O ii)) (cu (O ii)) x9 Ps=c0 at *
  generalize Td:fe (aP (f6 Y.toNat)) (bV (f6 Y.toNat)) (bf (f6 Y.toNat)) (av (O ii)) (aP (O ii)) (bV (O ii)) (bf (O ii)) (cu (O ii)) Pr Ps=c1 at *
  generalize Ut:fe (aP (f6 Y.toNat)) (bV (f6 Y.toNat)) (bf (f6 Y.toNat)) (av (O ii)) (aP (O ii)) (bV (O ii)) (bf (O ii)) (cu (O ii)) Pr Px=c2 at *
  generalize ih10:fe (aP (f6 Y.toNat)) (bV (f6 Y.toNat)) (bf (f6 Y.toNat)) (av (O ii)) (aP (O ii)) (bV (O ii)) (bf (O ii)) (cu (O ii)) x9 Px=c3 at *
  generalize ht:Kc (aP (f6 Y.toNat)) (bV (f6 Y.toNat)) (bf (f6 Y.toNat)) (av (O ii)) (aP (O ii)) (bV (O ii)) (bf (O ii)) (cu (O ii)) x9 Ps Pr Px=t at *
  clear Zt Td Ut ih10 ht;cases c0<;>(repeat' (first|(exact aL (hN1 rfl rfl))|(exact aL (hN0 rfl rfl))|exact B5 (by rw[hD rfl])|refine B1 ?_|refine ao ?_|refine ac ?_|refine aF rfl ?_|refine aF SH ?_|refine DY (λ_=>SH) ?_|refine aI YN ?_|refine ed ?_|refine gW ?_|refine cP rfl ?_|refine cW rfl ?_))
  all_goals (cases c1<;>(repeat' (first|(exact aL (hN1 rfl rfl))|(exact aL (hN0 rfl rfl))|exact B5 (by rw[hD rfl])|refine B1 ?_|refine ao ?_|refine ac ?_|refine aF rfl ?_|refine aF SH ?_|refine DY (λ_=>SH) ?_|refine aI YN ?_|refine ed ?_|refine gW ?_|refine cP rfl ?_|refine cW rfl ?_)))
  all_goals (cases c2<;>(repeat' (first|(exact aL (hN1 rfl rfl))|(exact aL (hN0 rfl rfl))|exact B5 (by rw[hD rfl])|refine B1 ?_|refine ao ?_|refine ac ?_|refine aF rfl ?_|refine aF SH ?_|refine DY (λ_=>SH) ?_|refine aI YN ?_|refine ed ?_|refine gW ?_|refine cP rfl ?_|refine cW rfl ?_)))
  all_goals (cases c3<;>(repeat' (first|(exact aL (hN1 rfl rfl))|(exact aL (hN0 rfl rfl))|exact B5 (by rw[hD rfl])|refine B1 ?_|refine ao ?_|refine ac ?_|refine aF rfl ?_|refine aF SH ?_|refine DY (λ_=>SH) ?_|refine aI YN ?_|refine ed ?_|refine gW ?_|refine cP rfl ?_|refine cW rfl ?_)))
  all_goals (cases t<;>(repeat' (first|(exact aL (hN1 rfl rfl))|(exact aL (hN0 rfl rfl))|exact B5 (by rw[hD rfl])|refine B1 ?_|refine ao ?_|refine ac ?_|refine aF rfl ?_|refine aF SH ?_|refine DY (λ_=>SH) ?_|refine aI YN ?_|refine ed ?_|refine gW ?_|refine cP rfl ?_|refine cW rfl ?_)))
 ·have e:ii=T:=by omega
  subst e;refine cW (eQ K) (B5 ?_);unfold jr;rw[hd,ho];rfl
theorem ahf (hp:aD H G/\aD n6 f6):aT (Ev (Lo H G T O n4 f4 n6 f6 Y x9 Ps Pr Px)) (On H G T O n4 f4 n6 f6 Y x9 Ps Pr Px) (.tup [A (fY H G T O n4 f4 n6 f6 Y x9 Ps Pr Px),A (tz H G T O n4 f4 n6 f6 Y x9 Ps Pr Px)]):=by
 refine bC λh6=>aI hp (ac (C2 (λh=>aF h (ao (ac (C2 (λN=>ed (B5 (by
  have h':(jj H (D bd G) T (D bq O) n4 (D bu f4) n6 (D aV f6) Y (n6:Int)!=0)=false:=by rw[EM h];rfl
  unfold fY tz;rw[h',LS N];rfl))) (λN=>aci ?_ ?_))))) (λh=>arW ?_ (B5 ?_))))
 ·rw[EM h];rfl
 ·have h':(jj H (D bd G) T (D bq O) n4 (D bu f4) n6 (D aV f6) Y (n6:Int)!=0)=false:=by rw[EM h];rfl
  have e0:fY H G T O n4 f4 n6 f6 Y x9 Ps Pr Px=jr (FO H G T O n4 f4 n6 f6 Y x9 Ps Pr Px) (Lg H G T O n4 f4 n6 f6 Y x9 Ps Pr Px) T:=by unfold fY;rw[h',wa N];rfl
  have e1:tz H G T O n4 f4 n6 f6 Y x9 Ps Pr Px=0:=by unfold tz;rw[h',wa N];rfl
  rw[e0,e1];have hc:=adY (H:=H) (G:=G) (T:=T) (O:=O) (n4:=n4) (f4:=f4) (n6:=n6) (f6:=f6) (i:=Y) (m:=n6);have hz:EH (gN H (D bd G) T (D bq O) n4 (D bu f4) n6 (D aV f6)) Y n6=0:=by rw[← hc];exact EM h
  obtain⟨hx,Ru⟩:=Jb hz;have hq:=xA (wa N);exact aF (BX hx) (ao (ac (aH (c18 _ _ _ _ _ _ _ _ _ _ _ _ _ hx Ru ⟨hq.1,hq.2.1,hq.2.2.1,hq.2.2.2.1⟩ 0 (Da _) rfl 0 rfl))))
 ·rw[bne,h];rfl
 ·have h':(jj H (D bd G) T (D bq O) n4 (D bu f4) n6 (D aV f6) Y (n6:Int)!=0)=true:=by rw[bne,h];rfl
  unfold fY tz;rw[h'];rfl
theorem azk (hp:aD H (D bd G)/\aD n6 (D aV f6)):aT (Ev (Lo H G T O n4 f4 n6 f6 Y x9 Ps Pr Px)) (On H G T O n4 f4 n6 f6 Y x9 Ps Pr Px) (.tup [A (fY H (D bd G) T (D bq O) n4 (D bu f4) n6 (D aV f6) Y x9 Ps Pr Px),A (tz H (D bd G) T (D bq O) n4 (D bu f4) n6 (D aV f6) Y x9 Ps Pr Px)]):=ahf H G T O n4 f4 n6 f6 Y x9 Ps Pr Px hp
def C18:aE:=bP [.agg [.sl bd,.sl bq,.sl bu,.sl aV],tI,.agg gV] (λ
 |[.agg [.sl H G,.sl T O,.sl n4 f4,.sl n6 f6],.int _ Y,.agg [.int _ x9,.int _ Ps,.int _ Pr,.int _ Px]]=>aD H G/\aD n6 f6|_=>False) λ
 |[.agg [.sl H G,.sl T O,.sl n4 f4,.sl n6 f6],.int _ Y,.agg [.int _ x9,.int _ Ps,.int _ Pr,.int _ Px]]=>.tup [A (fY H G T O n4 f4 n6 f6 Y x9 Ps Pr Px),A (tz H G T O n4 f4 n6 f6 Y x9 Ps Pr Px)]|_=>.any
theorem ayq:b9 C18 62:=aU azs λ_ hp=>kr (anu ..) (azk _ _ _ _ _ _ _ _ _ _ _ _ _ hp)
end
end Go.Dx
namespace Go.Dx
open Go.Sx
noncomputable section
theorem ayk {e:Int} {p:Bool} {v v':Int} (h:e=0->p=false->v=v'):(bif e != 0 then 0 else bif p then 0 else v)=(bif e != 0 then 0 else bif !p then v' else 0):=by
 by_cases he:e=0
 ·subst he
  cases p with
  |true=>rfl|false=>exact h rfl rfl
 ·have N:(e != 0)=true:=by simpa using he
  rw[N];rfl
theorem awS (e:Int) (p:Bool):(bif e !=0 then e else bif p then 7 else 0)=(bif e !=0 then e else bif !p then 0 else(7:Int)):=by cases e !=0<;>cases p<;>rfl
section
variable {H:Nat} {G:be} {T:Nat} {O:be} {n4:Nat} {f4:be} {n6:Nat} {f6:be}
theorem avA {p:Nat->Bool}:(!gS 4 λi=>!p i)=(p 0&&(p 1&&(p 2&&p 3))):=by
 have e:gS 4 (λi=>!p i)=(!p 0||(!p 1||(!p 2||!p 3))):=by rw[hJ,hJ,hJ,hJ];rw[show gS 0 (λi=>!p i)=false from rfl];cases p 0<;>cases p 1<;>cases p 2<;>cases p 3<;>rfl
 rw[e];cases p 0<;>cases p 1<;>cases p 2<;>cases p 3<;>rfl
theorem how (Y x9 Ps Pr Px:Int):p8 H G T O n4 f4 n6 f6 Y x9 Ps Pr Px=fY H G T O n4 f4 n6 f6 Y x9 Ps Pr Px/\sU H G T O n4 f4 n6 f6 Y x9 Ps Pr Px=tz H G T O n4 f4 n6 f6 Y x9 Ps Pr Px:=by
 have hc:=arV (H:=H) (G:=G) (T:=T) (O:=O) (n4:=n4) (f4:=f4) (n6:=n6) (f6:=f6) (i:=Y) (m:=n6) (λh=>by have:=(KW h).l6;omega);have hd:=adY (H:=H) (G:=G) (T:=T) (O:=O) (n4:=n4) (f4:=f4) (n6:=n6) (f6:=f6) (i:=Y) (m:=n6);unfold p8 fY sU tz;rw[hc,hd,R58];generalize hP:H8 x9 Ps Pr Px=P;refine⟨?_,?_⟩
 ·have:=ayk (e:=EH (gN H (D bd G) T (D bq O) n4 (D bu f4) n6 (D aV f6)) Y n6) (p:=!P) (v:=kk (FX H G T O n4 f4 n6 f6 Y x9 Ps Pr Px) (La H G T O n4 f4 n6 f6 Y x9 Ps Pr Px) T) (v':=jr (FO H G T O n4 f4 n6 f6 Y x9 Ps Pr Px) (Lg H G T O n4 f4 n6 f6 Y x9 Ps Pr Px) T) (λhe hp=>by
   rw[Bool.not_eq_false']at hp;have hq:=xA (hP.trans hp);rw[hjy];unfold jr;have e1:gS T (FX H G T O n4 f4 n6 f6 Y x9 Ps Pr Px)=gS T (FO H G T O n4 f4 n6 f6 Y x9 Ps Pr Px):=qn λi hi=>by have t:=(Jb he).2 i hi;unfold FX FO Dk Mh;rw[mA];rw[← t.hasE hq.1 hq.2.1,← t.hasE hq.2.2.1 hq.2.1,← t.hasE hq.2.2.1 hq.2.2.2.1,← t.hasE hq.1 hq.2.2.2.1];exact avA
   have e2:gS T (La H G T O n4 f4 n6 f6 Y x9 Ps Pr Px)=gS T (Lg H G T O n4 f4 n6 f6 Y x9 Ps Pr Px):=qn λi hi=>((Jb he).2 i hi).touch;rw[e1,e2])
  rw[H4]at this;exact this
 ·have:=awS (EH (gN H (D bd G) T (D bq O) n4 (D bu f4) n6 (D aV f6)) Y n6) (!P);rw[H4]at this;exact this
end
end
end Go.Dx
namespace Go.Dx
open Go.IntKind (i64 u64 u8)
open Go.Sx Go.Proofs
variable (H:Nat) (G:be) (T:Nat) (O:be) (Q:Int) (n5:Nat) (q:be) (n7:Nat) (f7:be) (n9:Nat) (f9:be) (Pq:Nat) (Pp:be) (QE:Nat) (Q3:be) (QH:Nat) (Q5:be) (Py QS:Int) (RJ:ByteArray) (QM QK QZ Qk Qw Qm Qn Qo Qq Sn Vy:Int)
noncomputable section
def Jr:bm:=(58,.con C17)::(62,.con C18)::(28,.con aau)::Ub
theorem Hn:aZ Tryz.prog Bs C3 Jr:=.con aw2 (.con ayq (.con ajZ (yaY)))
def nJ (WL lo:Int):Int:=bif WL==2 then 0 else bif WL==1 then 0 else lo
def ni (WL hi:Int):Int:=bif WL==2 then 0 else hi
def he':RT Empty:=dm (H,G,T,O,Q,QE,Q3,QH,Q5,RJ,QM,QK,QZ,Qk,Qw) (.obp (aD n5 (D bd q)/\aD Pq (D aV Pp)) (.obt (.br (p8 n5 (D bd q) n7 (D bq f7) n9 (D bu f9) Pq (D aV Pp) Py Qm Qn Qo Qq==2) (.ret (V.agg Dj)) (.br (p8 n5 (D bd q) n7 (D bq f7) n9 (D bu f9) Pq (D aV Pp) Py Qm Qn Qo Qq==1) (.ret (V.agg [A 0,A Vy])) (.ret (V.agg [A Sn,A Vy]))))))
theorem vw9:cY cZ (aQ JJ Jr u0 BN [V.agg [V.sl H (D ap G),V.sl T (D B4 O),A Q,V.sl n5 (D bd q),V.sl n7 (D bq f7),V.sl n9 (D bu f9),V.sl Pq (D aV Pp),V.sl QE (D L Q3),V.sl QH (D cI Q5),A Py,V.str RJ,A QM,A QK,A QZ,A Qk,A Qw],V.agg [A Qm,A Qn,A Qo,A Qq],A Sn,A Vy]) (he' H G T O Q n5 q n7 f7 n9 f9 Pq Pp QE Q3 QH Q5 Py RJ QM QK QZ Qk Qw Qm Qn Qo Qq Sn Vy):=bD
theorem ami (hp:aD n5 (D bd q)/\aD Pq (D aV Pp)):aT cM (he' H G T O Q n5 q n7 f7 n9 f9 Pq Pp QE Q3 QH Q5 Py RJ QM QK QZ Qk Qw Qm Qn Qo Qq Sn Vy) (.agg [A (nJ (fY n5 (D bd q) n7 (D bq f7) n9 (D bu f9) Pq (D aV Pp) Py Qm Qn Qo Qq) Sn),A (ni (fY n5 (D bd q) n7 (D bq f7) n9 (D bu f9) Pq (D aV Pp) Py Qm Qn Qo Qq) Vy)]):=by refine aI hp (ac ?_);rw[(how ..).1];exact(C2 (λh=>B5 (by unfold nJ ni;rw[h];rfl)) (λh=>C2 (λN=>B5 (by unfold nJ ni;rw[h,N];rfl)) (λN=>B5 (by unfold nJ ni;rw[h,N];rfl))))
def adb:aE:=bP [.agg [.sl ap,.sl B4,tI,.sl bd,.sl bq,.sl bu,.sl aV,.sl L,.sl cI,tI,.str,tI,tI,tI,tI,tI],.agg gV,tI,tI] (λ
 |[.agg [.sl H G,.sl T O,.int _ Q,.sl n5 q,.sl n7 f7,.sl n9 f9,.sl Pq Pp,.sl QE Q3,.sl QH Q5,.int _ Py,.str RJ,.int _ QM,.int _ QK,.int _ QZ,.int _ Qk,.int _ Qw],.agg [.int _ Qm,.int _ Qn,.int _ Qo,.int _ Qq],.int _ Sn,.int _ Vy]=>aD n5 q/\aD Pq Pp|_=>False) λ
 |[.agg [.sl H G,.sl T O,.int _ Q,.sl n5 q,.sl n7 f7,.sl n9 f9,.sl Pq Pp,.sl QE Q3,.sl QH Q5,.int _ Py,.str RJ,.int _ QM,.int _ QK,.int _ QZ,.int _ Qk,.int _ Qw],.agg [.int _ Qm,.int _ Qn,.int _ Qo,.int _ Qq],.int _ Sn,.int _ Vy]=>.agg [A (nJ (fY n5 q n7 f7 n9 f9 Pq Pp Py Qm Qn Qo Qq) Sn),A (ni (fY n5 q n7 f7 n9 f9 Pq Pp Py Qm Qn Qo Qq) Vy)]|_=>.any
theorem aeW:b9 adb 33:=aU Hn λ_ hp=>da (vw9 ..) (ami _ _ _ _ _ _ _ _ _ _ _ _ _ _ _ _ _ _ _ _ _ _ _ _ _ _ _ _ _ _ hp)
def hds:RT Empty:=dm (H,G,T,O,Q,QE,Q3,QH,Q5) (.obp (aD n5 (D bd q)/\aD Pq (D aV Pp)) (.obt (.br (fY n5 (D bd q) n7 (D bq f7) n9 (D bu f9) Pq (D aV Pp) Py QS QM QK QZ==2) (.ret (V.agg Dj)) (.br (fY n5 (D bd q) n7 (D bq f7) n9 (D bu f9) Pq (D aV Pp) Py QS QM QK QZ==1) (.ret (V.agg [A 0,A Qw])) (.ret (V.agg [A Qk,A Qw]))))))
theorem ih3:cY cZ (aQ JJ Jr u0 ajL [V.agg [V.sl H (D ap G),V.sl T (D B4 O),A Q,V.sl n5 (D bd q),V.sl n7 (D bq f7),V.sl n9 (D bu f9),V.sl Pq (D aV Pp),V.sl QE (D L Q3),V.sl QH (D cI Q5)],A Py,V.agg [A QS,A QM,A QK,A QZ],V.agg [A Qk,A Qw]]) (hds H G T O Q n5 q n7 f7 n9 f9 Pq Pp QE Q3 QH Q5 Py QS QM QK QZ Qk Qw):=bD
theorem ahH (hp:aD n5 (D bd q)/\aD Pq (D aV Pp)):aT cM (hds H G T O Q n5 q n7 f7 n9 f9 Pq Pp QE Q3 QH Q5 Py QS QM QK QZ Qk Qw) (.agg [A (nJ (fY n5 (D bd q) n7 (D bq f7) n9 (D bu f9) Pq (D aV Pp) Py QS QM QK QZ) Qk),A (ni (fY n5 (D bd q) n7 (D bq f7) n9 (D bu f9) Pq (D aV Pp) Py QS QM QK QZ) Qw)]):=aI hp (ac (C2 (λh=>B5 (by unfold nJ ni;rw[h];rfl)) (λh=>C2 (λN=>B5 (by unfold nJ ni;rw[h,N];rfl)) (λN=>B5 (by unfold nJ ni;rw[h,N];rfl)))))
def abI:aE:=bP [.agg [.sl ap,.sl B4,tI,.sl bd,.sl bq,.sl bu,.sl aV,.sl L,.sl cI],tI,.agg gV,.agg aM] (λ
 |[.agg [.sl H G,.sl T O,.int _ Q,.sl n5 q,.sl n7 f7,.sl n9 f9,.sl Pq Pp,.sl QE Q3,.sl QH Q5],.int _ Py,.agg [.int _ QS,.int _ QM,.int _ QK,.int _ QZ],.agg [.int _ Qk,.int _ Qw]]=>aD n5 q/\aD Pq Pp|_=>False) λ
 |[.agg [.sl H G,.sl T O,.int _ Q,.sl n5 q,.sl n7 f7,.sl n9 f9,.sl Pq Pp,.sl QE Q3,.sl QH Q5],.int _ Py,.agg [.int _ QS,.int _ QM,.int _ QK,.int _ QZ],.agg [.int _ Qk,.int _ Qw]]=>.agg [A (nJ (fY n5 q n7 f7 n9 f9 Pq Pp Py QS QM QK QZ) Qk),A (ni (fY n5 q n7 f7 n9 f9 Pq Pp Py QS QM QK QZ) Qw)]|_=>.any
theorem ai0:b9 abI 38:=aU Hn λ_ hp=>da (ih3 ..) (ahH _ _ _ _ _ _ _ _ _ _ _ _ _ _ _ _ _ _ _ _ _ _ _ _ hp)
def kJ (cx cy h a b c d:Int):Int:=E (E (jL (E (a-cx)) (E (c-cx))+jL (E (b-cy)) (E (d-cy)))+E (E (100*h)*E (100*h)))
def kx (cx cy h a b c d:Int):Int:=E (E (jJ (E (a-cx)) (E (c-cx))+jJ (E (b-cy)) (E (d-cy)))+E (E (100*h)*E (100*h)))
def aza (WL tw Pw h:Int):Int:=nJ WL (fm (E (1000*fm (E (E (1000*tw)*E (100*h))) Pw)) (E9 Pw))
def avU (WL tw Pw h:Int):Int:=ni WL (gG (E (1000*gG (E (E (1000*tw)*E (100*h))) Pw)) (dL Pw))
def ri (Pp Q3 Q5:be) (i cx cy h cdx cdy a b c d:Int):Int:=aza (fY n5 q n7 f7 n9 f9 Pq Pp i a b c d) (y5 H G T O Q3 Q5 i cx cy cdx cdy a b c d (E (100*h))) (kx cx cy h a b c d) h
def H6 (Pp Q3 Q5:be) (i cx cy h cdx cdy a b c d:Int):Int:=avU (fY n5 q n7 f7 n9 f9 Pq Pp i a b c d) (zr H G T O Q3 Q5 i cx cy cdx cdy a b c d (E (100*h))) (kJ cx cy h a b c d) h
def wi (cx cy h a b c d:Int):Prop:=((-100000<=cx/\cx<=100000)/\(-100000<=cy/\cy<=100000)/\(1<=h/\h<=200))/\jp a/\jp b/\jp c/\jp d
theorem wi.pl {cx cy h a b c d:Int} (o:wi cx cy h a b c d):jp cx/\jp cy/\jp a/\jp b/\jp c/\jp d:=by obtain⟨⟨M,N,h3⟩,h4⟩:=o;exact⟨by unfold jp;omega,by unfold jp;omega,h4⟩
theorem sqP {x:Int} (h:x.natAbs<=400100000):E (x*x)=x*x/\0<=x*x/\x*x<=160080010000000000:=by have k:=asP h h;have z:=fz13 x;exact⟨C8 K K,z,K⟩
theorem ar2 {x y:Int} (h:x.natAbs<=400100000) (k:y.natAbs<=400100000):(0<=jL x y/\jL x y<=160080010000000000)/\0<=jJ x y/\jJ x y<=160080010000000000:=by
 have a:=sqP h;have b:=sqP k;unfold jL jJ;rw[a.1,b.1];refine⟨?_,K⟩;cases (bif decide (x<=0) then decide (0<=y) else false) with
 |true=>exact⟨Int.le_refl _,(by decide:(0:Int)<=160080010000000000)⟩|false=>show 0<=min _ _/\min _ _<=_;omega
theorem Yu {a c:Int} (h:jp a) (k:-100000<=c/\c<=100000):(E (a-c)).natAbs<=400100000:=by unfold jp at h;rw[C8 K K];omega
theorem ari {cx cy h a b c d:Int} (o:wi cx cy h a b c d):(1<=kJ cx cy h a b c d/\kJ cx cy h a b c d<=3999999999999999999)/\1<=kx cx cy h a b c d/\kx cx cy h a b c d<=3999999999999999999:=by obtain⟨⟨hx,hy,hh⟩,pa,nzb5,nzb8,pd⟩:=o;have s1:=ar2 (Yu pa hx) (Yu nzb8 hx);have s2:=ar2 (Yu nzb5 hy) (Yu pd hy);have e:E (100*h)=100*h:=C8 K K;have m:(100*h*(100*h)).natAbs<=20000*20000:=asP K K;have m2:1<=100*h*(100*h):=I6 K K;unfold kJ kx;rw[e,C8 (x:=100*h*(100*h)) K K];revert s1 s2 m m2;generalize jL (E (a-cx)) (E (c-cx))=p0;generalize jL (E (b-cy)) (E (d-cy))=p1;generalize jJ (E (a-cx)) (E (c-cx))=q0;generalize jJ (E (b-cy)) (E (d-cy))=q1;generalize 100*h*(100*h)=QR;intro s1 s2 m m2;rw[C8 (x:=p0+p1) K K,C8 (x:=q0+q1) K K,C8 K K,C8 K K];omega
def Jm:bm:=(33,.con adb)::(38,.con abI)::Jr
theorem Fp:aZ Tryz.prog Bs C3 Jm:=.con aeW (.con ai0 (Hn))
def MI:RT Empty:=dm (Q,RJ) (.cb (.cb (.obp (((0:Int)<=Py/\Py<(QE:Int))/\((0:Int)<=Py/\Py<(QH:Int))/\(aD H (D ap G)/\aD T (D B4 O))/\Hd Qk Qw/\jp QM/\jp QK/\jp Qm/\jp Qn/\jp Qo/\jp Qq) (.obt (.cb (.obp (nz (kx QM QK QZ Qm Qn Qo Qq)) (.obt (.cb (.obp (nz (kJ QM QK QZ Qm Qn Qo Qq)) (.obt (.cb (.obp (nz (dG (kx QM QK QZ Qm Qn Qo Qq))) (.obt (.obp (nz (eb (kJ QM QK QZ Qm Qn Qo Qq))) (.obt (.obp (aD n5 (D bd q)/\aD Pq (D aV Pp)) (.obt (.ret (V.agg [A (nJ (fY n5 (D bd q) n7 (D bq f7) n9 (D bu f9) Pq (D aV Pp) Py Qm Qn Qo Qq) (dO (E (1000*dO (E (E (1000*y5 H (D ap G) T (D B4 O) (D L Q3) (D cI Q5) Py QM QK Qk Qw Qm Qn Qo Qq (qk QZ))*qk QZ)) (kx QM QK QZ Qm Qn Qo Qq))) (dG (kx QM QK QZ Qm Qn Qo Qq)))),A (ni (fY n5 (D bd q) n7 (D bq f7) n9 (D bu f9) Pq (D aV Pp) Py Qm Qn Qo Qq) (eC (E (1000*eC (E (E (1000*zr H (D ap G) T (D B4 O) (D L Q3) (D cI Q5) Py QM QK Qk Qw Qm Qn Qo Qq (qk QZ))*qk QZ)) (kJ QM QK QZ Qm Qn Qo Qq))) (eb (kJ QM QK QZ Qm Qn Qo Qq))))])))))))))))))))))))
theorem ie0:cY cZ (aQ JJ Jm u0 hch [V.agg [V.sl H (D ap G),V.sl T (D B4 O),A Q,V.sl n5 (D bd q),V.sl n7 (D bq f7),V.sl n9 (D bu f9),V.sl Pq (D aV Pp),V.sl QE (D L Q3),V.sl QH (D cI Q5),A Py,V.str RJ,A QM,A QK,A QZ,A Qk,A Qw],V.agg [A Qm,A Qn,A Qo,A Qq]]) (MI H G T O Q n5 q n7 f7 n9 f9 Pq Pp QE Q3 QH Q5 Py RJ QM QK QZ Qk Qw Qm Qn Qo Qq):=bD
theorem afS (H:Nat) (G:be) (T:Nat) (O:be) (Q:Int) (n5:Nat) (q:be) (n7:Nat) (f7:be) (n9:Nat) (f9:be) (Pq:Nat) (Pp:be) (QE:Nat) (Q3:be) (QH:Nat) (Q5:be) (Py:Int) (RJ:ByteArray) (QM QK QZ Qk Qw Qm Qn Qo Qq:Int) (hp:(0<=Py/\Py<(QE:Int))/\(0<=Py/\Py<(QH:Int))/\(aD H (D ap G)/\aD T (D B4 O))/\(aD n5 (D bd q)/\aD Pq (D aV Pp))/\Hd Qk Qw/\wi QM QK QZ Qm Qn Qo Qq):aT cM (MI H G T O Q n5 q n7 f7 n9 f9 Pq Pp QE Q3 QH Q5 Py RJ QM QK QZ Qk Qw Qm Qn Qo Qq) (.agg [A (ri H (D ap G) T (D B4 O) n5 (D bd q) n7 (D bq f7) n9 (D bu f9) Pq (D aV Pp) (D L Q3) (D cI Q5) Py QM QK QZ Qk Qw Qm Qn Qo Qq),A (H6 H (D ap G) T (D B4 O) n5 (D bd q) n7 (D bq f7) n9 (D bu f9) Pq (D aV Pp) (D L Q3) (D cI Q5) Py QM QK QZ Qk Qw Qm Qn Qo Qq)]):=by
 obtain⟨h0,M,hz,hr,hd,o⟩:=hp;have Pw:=ari o;unfold MI;rw[Hy Pw.2.2,tv Pw.1.2,arF,arK];have q0:kJ QM QK QZ Qm Qn Qo Qq=0->False:=λe=>by have:=Pw.1.1;omega
 have q1:kx QM QK QZ Qm Qn Qo Qq=0->False:=λe=>by have:=Pw.2.1;omega
 have d0:dL (kJ QM QK QZ Qm Qn Qo Qq)=0->False:=λe=>by have:=(sZ Pw.1.1).1;omega
 have u1:E9 (kx QM QK QZ Qm Qn Qo Qq)=0->False:=λe=>by have:=FY Pw.2.1;omega
 exact ao (ac (ao (ac (aI ⟨h0,M,hz,hd,o.pl⟩ (ac (ao (ac (aI q1 (ac (ao (ac (aI q0 (ac (ao (ac (aI u1 (ac (aI d0 (ac (aI hr (ac (B5 rfl))))))))))))))))))))))
def aea:aE:=bP [.agg [.sl ap,.sl B4,tI,.sl bd,.sl bq,.sl bu,.sl aV,.sl L,.sl cI,tI,.str,tI,tI,tI,tI,tI],.agg gV] (λ
 |[.agg [.sl H G,.sl T O,.int _ Q,.sl n5 q,.sl n7 f7,.sl n9 f9,.sl Pq Pp,.sl QE Q3,.sl QH Q5,.int _ Py,.str RJ,.int _ QM,.int _ QK,.int _ QZ,.int _ Qk,.int _ Qw],.agg [.int _ Qm,.int _ Qn,.int _ Qo,.int _ Qq]]=>(0<=Py/\Py<(QE:Int))/\(0<=Py/\Py<(QH:Int))/\(aD H G/\aD T O)/\(aD n5 q/\aD Pq Pp)/\Hd Qk Qw/\wi QM QK QZ Qm Qn Qo Qq|_=>False) λ
 |[.agg [.sl H G,.sl T O,.int _ Q,.sl n5 q,.sl n7 f7,.sl n9 f9,.sl Pq Pp,.sl QE Q3,.sl QH Q5,.int _ Py,.str RJ,.int _ QM,.int _ QK,.int _ QZ,.int _ Qk,.int _ Qw],.agg [.int _ Qm,.int _ Qn,.int _ Qo,.int _ Qq]]=>.agg [A (ri H G T O n5 q n7 f7 n9 f9 Pq Pp Q3 Q5 Py QM QK QZ Qk Qw Qm Qn Qo Qq),A (H6 H G T O n5 q n7 f7 n9 f9 Pq Pp Q3 Q5 Py QM QK QZ Qk Qw Qm Qn Qo Qq)]|_=>.any
theorem afX:b9 aea 14:=aU Fp λ_ hp=>da (ie0 ..) (afS _ _ _ _ _ _ _ _ _ _ _ _ _ _ _ _ _ _ _ _ _ _ _ _ _ _ _ _ hp)
def adV:RT Empty:=dm Q (.ob (dI Py Pq) (.obp (((0:Int)<=Py/\Py<(QE:Int))/\((0:Int)<=Py/\Py<(QH:Int))/\((0:Int)<=Py/\Py<(Pq:Int))/\(aD H (D ap G)/\aD T (D B4 O))/\Ke (E (E (cu (Pp Py.toNat)*cu (Pp Py.toNat))+E (bE (Pp Py.toNat)*bE (Pp Py.toNat))))) (.obt (.cb (.cb (.obp (nz (kx (aP (Pp Py.toNat)) (bV (Pp Py.toNat)) (bf (Pp Py.toNat)) QS QM QK QZ)) (.obt (.cb (.obp (nz (E9 (kx (aP (Pp Py.toNat)) (bV (Pp Py.toNat)) (bf (Pp Py.toNat)) QS QM QK QZ))) (.obt (.obp (nz (kJ (aP (Pp Py.toNat)) (bV (Pp Py.toNat)) (bf (Pp Py.toNat)) QS QM QK QZ)) (.obt (.cb (.obp (nz (dL (kJ (aP (Pp Py.toNat)) (bV (Pp Py.toNat)) (bf (Pp Py.toNat)) QS QM QK QZ))) (.obt (.obp (aD n5 (D bd q)/\aD Pq (D aV Pp)) (.obt (.ret (V.agg [A (nJ (fY n5 (D bd q) n7 (D bq f7) n9 (D bu f9) Pq (D aV Pp) Py QS QM QK QZ) (fm (E (1000*fm (E (E (1000*y5 H (D ap G) T (D B4 O) (D L Q3) (D cI Q5) Py (aP (Pp Py.toNat)) (bV (Pp Py.toNat)) (cu (Pp Py.toNat)) (bE (Pp Py.toNat)) QS QM QK QZ (E (100*bf (Pp Py.toNat))))*E (100*bf (Pp Py.toNat)))) (kx (aP (Pp Py.toNat)) (bV (Pp Py.toNat)) (bf (Pp Py.toNat)) QS QM QK QZ))) (E9 (kx (aP (Pp Py.toNat)) (bV (Pp Py.toNat)) (bf (Pp Py.toNat)) QS QM QK QZ)))),A (ni (fY n5 (D bd q) n7 (D bq f7) n9 (D bu f9) Pq (D aV Pp) Py QS QM QK QZ) (gG (E (1000*gG (E (E (1000*zr H (D ap G) T (D B4 O) (D L Q3) (D cI Q5) Py (aP (Pp Py.toNat)) (bV (Pp Py.toNat)) (cu (Pp Py.toNat)) (bE (Pp Py.toNat)) QS QM QK QZ (E (100*bf (Pp Py.toNat))))*E (100*bf (Pp Py.toNat)))) (kJ (aP (Pp Py.toNat)) (bV (Pp Py.toNat)) (bf (Pp Py.toNat)) QS QM QK QZ))) (dL (kJ (aP (Pp Py.toNat)) (bV (Pp Py.toNat)) (bf (Pp Py.toNat)) QS QM QK QZ))))])))))))))))))))))))
theorem io0:cY cZ (aQ JJ Jm u0 ahu [V.agg [V.sl H (D ap G),V.sl T (D B4 O),A Q,V.sl n5 (D bd q),V.sl n7 (D bq f7),V.sl n9 (D bu f9),V.sl Pq (D aV Pp),V.sl QE (D L Q3),V.sl QH (D cI Q5)],A Py,V.agg [A QS,A QM,A QK,A QZ]]) (adV H G T O Q n5 q n7 f7 n9 f9 Pq Pp QE Q3 QH Q5 Py QS QM QK QZ):=bD
theorem amF (H:Nat) (G:be) (T:Nat) (O:be) (Q:Int) (n5:Nat) (q:be) (n7:Nat) (f7:be) (n9:Nat) (f9:be) (Pq:Nat) (Pp:be) (QE:Nat) (Q3:be) (QH:Nat) (Q5:be) (Py QS QM QK QZ:Int) (hp:(0<=Py/\Py<(QE:Int))/\(0<=Py/\Py<(QH:Int))/\(0<=Py/\Py<(Pq:Int))/\(aD H (D ap G)/\aD T (D B4 O))/\(aD n5 (D bd q)/\aD Pq (D aV Pp))/\Hd (cu ((D aV Pp) Py.toNat)) (bE ((D aV Pp) Py.toNat))/\wi (aP ((D aV Pp) Py.toNat)) (bV ((D aV Pp) Py.toNat)) (bf ((D aV Pp) Py.toNat)) QS QM QK QZ):aT cM (adV H G T O Q n5 q n7 f7 n9 f9 Pq Pp QE Q3 QH Q5 Py QS QM QK QZ) (.agg [A (ri H (D ap G) T (D B4 O) n5 (D bd q) n7 (D bq f7) n9 (D bu f9) Pq (D aV Pp) (D L Q3) (D cI Q5) Py (aP ((D aV Pp) Py.toNat)) (bV ((D aV Pp) Py.toNat)) (bf ((D aV Pp) Py.toNat)) (cu ((D aV Pp) Py.toNat)) (bE ((D aV Pp) Py.toNat)) QS QM QK QZ),A (H6 H (D ap G) T (D B4 O) n5 (D bd q) n7 (D bq f7) n9 (D bu f9) Pq (D aV Pp) (D L Q3) (D cI Q5) Py (aP ((D aV Pp) Py.toNat)) (bV ((D aV Pp) Py.toNat)) (bf ((D aV Pp) Py.toNat)) (cu ((D aV Pp) Py.toNat)) (bE ((D aV Pp) Py.toNat)) QS QM QK QZ)]):=by
 obtain⟨h0,M,N,hz,hr,hd,o⟩:=hp;have Pw:=ari o;have q0:kJ (aP (D aV Pp Py.toNat)) (bV (D aV Pp Py.toNat)) (bf (D aV Pp Py.toNat)) QS QM QK QZ=0->False:=λe=>by have:=Pw.1.1;omega
 have q1:kx (aP (D aV Pp Py.toNat)) (bV (D aV Pp Py.toNat)) (bf (D aV Pp Py.toNat)) QS QM QK QZ=0->False:=λe=>by have:=Pw.2.1;omega
 have d0:dL (kJ (aP (D aV Pp Py.toNat)) (bV (D aV Pp Py.toNat)) (bf (D aV Pp Py.toNat)) QS QM QK QZ)=0->False:=λe=>by have:=(sZ Pw.1.1).1;omega
 have u1:E9 (kx (aP (D aV Pp Py.toNat)) (bV (D aV Pp Py.toNat)) (bf (D aV Pp Py.toNat)) QS QM QK QZ)=0->False:=λe=>by have:=FY Pw.2.1;omega
 exact aF (BX N) (aI ⟨h0,M,N,hz,ag8 hd⟩ (ac (ao (ac (ao (ac (aI q1 (ac (ao (ac (aI u1 (ac (aI q0 (ac (ao (ac (aI d0 (ac (aI hr (ac (B5 rfl)))))))))))))))))))))
def aaM:aE:=bP [.agg [.sl ap,.sl B4,tI,.sl bd,.sl bq,.sl bu,.sl aV,.sl L,.sl cI],tI,.agg gV] (λ
 |[.agg [.sl H G,.sl T O,.int _ Q,.sl n5 q,.sl n7 f7,.sl n9 f9,.sl Pq Pp,.sl QE Q3,.sl QH Q5],.int _ Py,.agg [.int _ QS,.int _ QM,.int _ QK,.int _ QZ]]=>(0<=Py/\Py<(QE:Int))/\(0<=Py/\Py<(QH:Int))/\(0<=Py/\Py<(Pq:Int))/\(aD H G/\aD T O)/\(aD n5 q/\aD Pq Pp)/\Hd (cu (Pp Py.toNat)) (bE (Pp Py.toNat))/\wi (aP (Pp Py.toNat)) (bV (Pp Py.toNat)) (bf (Pp Py.toNat)) QS QM QK QZ|_=>False) λ
 |[.agg [.sl H G,.sl T O,.int _ Q,.sl n5 q,.sl n7 f7,.sl n9 f9,.sl Pq Pp,.sl QE Q3,.sl QH Q5],.int _ Py,.agg [.int _ QS,.int _ QM,.int _ QK,.int _ QZ]]=>.agg [A (ri H G T O n5 q n7 f7 n9 f9 Pq Pp Q3 Q5 Py (aP (Pp Py.toNat)) (bV (Pp Py.toNat)) (bf (Pp Py.toNat)) (cu (Pp Py.toNat)) (bE (Pp Py.toNat)) QS QM QK QZ),A (H6 H G T O n5 q n7 f7 n9 f9 Pq Pp Q3 Q5 Py (aP (Pp Py.toNat)) (bV (Pp Py.toNat)) (bf (Pp Py.toNat)) (cu (Pp Py.toNat)) (bE (Pp Py.toNat)) QS QM QK QZ)]|_=>.any
theorem ahj:b9 aaM 16:=aU Fp λ_ hp=>da (io0 ..) (amF _ _ _ _ _ _ _ _ _ _ _ _ _ _ _ _ _ _ _ _ _ _ hp)
def Pe:bm:=(14,.con aea)::(16,.con aaM)::Jm
theorem bor:aZ Tryz.prog Bs C3 Pe:=.con afX (.con ahj (Fp))
def MQ:Prop:=(QE=Pq/\QH=Pq)/\(aD H G/\aD T O)/\(aD n5 q/\aD Pq Pp)/\∀i,i<Pq->Ng (Pp i)
def QT (a b c d:Int):Prop:=jp a/\jp b/\jp c/\jp d
def iM (Pp Q3 Q5:be) (a b c d:Int):Nat->Int:=EI (Jl Q3) λi=>ri H G T O n5 q n7 f7 n9 f9 Pq Pp Q3 Q5 (i:Int) (aP (Pp i)) (bV (Pp i)) (bf (Pp i)) (cu (Pp i)) (bE (Pp i)) a b c d
def iZ (Pp Q3 Q5:be) (a b c d:Int):Nat->Int:=EI (Jl Q3) λi=>H6 H G T O n5 q n7 f7 n9 f9 Pq Pp Q3 Q5 (i:Int) (aP (Pp i)) (bV (Pp i)) (bf (Pp i)) (cu (Pp i)) (bE (Pp i)) a b c d
def ac1:RT Empty:=dm (Q,RJ) (.obp (((0:Int)<=Py/\Py<(QE:Int))/\((0:Int)<=Py/\Py<(QH:Int))/\(aD H (D ap G)/\aD T (D B4 O))/\(aD n5 (D bd q)/\aD Pq (D aV Pp))/\Hd Qk Qw/\wi QM QK QZ Qm Qn Qo Qq) (.obt (.ret (V.agg [A (ri H (D ap G) T (D B4 O) n5 (D bd q) n7 (D bq f7) n9 (D bu f9) Pq (D aV Pp) (D L Q3) (D cI Q5) Py QM QK QZ Qk Qw Qm Qn Qo Qq),A (H6 H (D ap G) T (D B4 O) n5 (D bd q) n7 (D bq f7) n9 (D bu f9) Pq (D aV Pp) (D L Q3) (D cI Q5) Py QM QK QZ Qk Qw Qm Qn Qo Qq)]))))
theorem ng':cY cZ (aQ JJ Pe u0 azD [V.agg [V.sl H (D ap G),V.sl T (D B4 O),A Q,V.sl n5 (D bd q),V.sl n7 (D bq f7),V.sl n9 (D bu f9),V.sl Pq (D aV Pp),V.sl QE (D L Q3),V.sl QH (D cI Q5),A Py,V.str RJ,A QM,A QK,A QZ,A Qk,A Qw],V.pd [A Qm,A Qn,A Qo,A Qq]]) (ac1 H G T O Q n5 q n7 f7 n9 f9 Pq Pp QE Q3 QH Q5 Py RJ QM QK QZ Qk Qw Qm Qn Qo Qq):=bD
theorem amB (H:Nat) (G:be) (T:Nat) (O:be) (Q:Int) (n5:Nat) (q:be) (n7:Nat) (f7:be) (n9:Nat) (f9:be) (Pq:Nat) (Pp:be) (QE:Nat) (Q3:be) (QH:Nat) (Q5:be) (Py:Int) (RJ:ByteArray) (QM QK QZ Qk Qw Qm Qn Qo Qq:Int) (hp:(0<=Py/\Py<(QE:Int))/\(0<=Py/\Py<(QH:Int))/\(aD H (D ap G)/\aD T (D B4 O))/\(aD n5 (D bd q)/\aD Pq (D aV Pp))/\Hd Qk Qw/\wi QM QK QZ Qm Qn Qo Qq):aT cM (ac1 H G T O Q n5 q n7 f7 n9 f9 Pq Pp QE Q3 QH Q5 Py RJ QM QK QZ Qk Qw Qm Qn Qo Qq) (.agg [A (ri H (D ap G) T (D B4 O) n5 (D bd q) n7 (D bq f7) n9 (D bu f9) Pq (D aV Pp) (D L Q3) (D cI Q5) Py QM QK QZ Qk Qw Qm Qn Qo Qq),A (H6 H (D ap G) T (D B4 O) n5 (D bd q) n7 (D bq f7) n9 (D bu f9) Pq (D aV Pp) (D L Q3) (D cI Q5) Py QM QK QZ Qk Qw Qm Qn Qo Qq)]):=aI hp (ac (B5 rfl))
def aar:aE:=bP [.agg [.sl ap,.sl B4,tI,.sl bd,.sl bq,.sl bu,.sl aV,.sl L,.sl cI,tI,.str,tI,tI,tI,tI,tI],.pd gV] (λ
 |[.agg [.sl H G,.sl T O,.int _ Q,.sl n5 q,.sl n7 f7,.sl n9 f9,.sl Pq Pp,.sl QE Q3,.sl QH Q5,.int _ Py,.str RJ,.int _ QM,.int _ QK,.int _ QZ,.int _ Qk,.int _ Qw],.pd [.int _ Qm,.int _ Qn,.int _ Qo,.int _ Qq]]=>(0<=Py/\Py<(QE:Int))/\(0<=Py/\Py<(QH:Int))/\(aD H G/\aD T O)/\(aD n5 q/\aD Pq Pp)/\Hd Qk Qw/\wi QM QK QZ Qm Qn Qo Qq|_=>False) λ
 |[.agg [.sl H G,.sl T O,.int _ Q,.sl n5 q,.sl n7 f7,.sl n9 f9,.sl Pq Pp,.sl QE Q3,.sl QH Q5,.int _ Py,.str RJ,.int _ QM,.int _ QK,.int _ QZ,.int _ Qk,.int _ Qw],.pd [.int _ Qm,.int _ Qn,.int _ Qo,.int _ Qq]]=>.agg [A (ri H G T O n5 q n7 f7 n9 f9 Pq Pp Q3 Q5 Py QM QK QZ Qk Qw Qm Qn Qo Qq),A (H6 H G T O n5 q n7 f7 n9 f9 Pq Pp Q3 Q5 Py QM QK QZ Qk Qw Qm Qn Qo Qq)]|_=>.any
theorem ahO:b9 aar 13:=aU bor λ_ hp=>da (ng' ..) (amB _ _ _ _ _ _ _ _ _ _ _ _ _ _ _ _ _ _ _ _ _ _ _ _ _ _ _ _ hp)
def AF:bm:=(13,.con aar)::Pe
theorem F1:aZ Tryz.prog Bs C3 AF:=.con ahO (bor)
inductive oa where|L0 (_:Int) (_:Nat) (_ _:Int)
def ig5:oa->bS×List Ax×Option Ex
 |.L0 Pt Ry RL SY=>([(8,A Pt),(7,A (QE:Int)),(6,V.sl QE (D L Q3)),(5,V.pl 4 7),(0,V.yl Ry),(1,V.pl 4 0)],[Ax.cells [V.sl H (D ap G),V.sl T (D B4 O),A Q,V.sl n5 (D bd q),V.sl n7 (D bq f7),V.sl n9 (D bu f9),V.sl Pq (D aV Pp),V.sl QE (D L Q3),V.sl QH (D cI Q5)] 35,Ax.cells [V.fn 13 [] [V.pd [A Py,A QS,A QM,A QK]]] 56,Ax.cells Dj 39,Ax.cells [A RL,A SY] 39,Ax.cells [V.sl H (D ap G),V.sl T (D B4 O),A Q,V.sl n5 (D bd q),V.sl n7 (D bq f7),V.sl n9 (D bu f9),V.sl Pq (D aV Pp),V.sl QE (D L Q3),V.sl QH (D cI Q5)] 35],none)
def lst:oa->JJ
 |.L0 _ Ry ..=>(0,[Cx.n Ry])
def ah3:Bh (cq JJ):=aQ JJ AF u0 axz [V.agg [V.sl H (D ap G),V.sl T (D B4 O),A Q,V.sl n5 (D bd q),V.sl n7 (D bq f7),V.sl n9 (D bu f9),V.sl Pq (D aV Pp),V.sl QE (D L Q3),V.sl QH (D cI Q5)],V.fn 13 [] [V.pd [A Py,A QS,A QM,A QK]]]
def Aj (cx:List Cx):Lp JJ:=eX (eJ (Jx (eJ (ah3 H G T O Q n5 q n7 f7 n9 f9 Pq Pp QE Q3 QH Q5 Py QS QM QK) []) (fU cx 0)) [])
def yaj:JJ->Lp JJ
 |(0,cx)=>Aj H G T O Q n5 q n7 f7 n9 f9 Pq Pp QE Q3 QH Q5 Py QS QM QK cx|(_,cx)=>Aj H G T O Q n5 q n7 f7 n9 f9 Pq Pp QE Q3 QH Q5 Py QS QM QK cx
def ahp:LD JJ oa:=⟨lst,yaj H G T O Q n5 q n7 f7 n9 f9 Pq Pp QE Q3 QH Q5 Py QS QM QK,ig5 H G T O Q n5 q n7 f7 n9 f9 Pq Pp QE Q3 QH Q5 Py QS QM QK⟩
def Bu (H:Nat) (G:be) (T:Nat) (O:be) (Q:Int) (n5:Nat) (q:be) (n7:Nat) (f7:be) (n9:Nat) (f9:be) (Pq:Nat) (Pp:be) (QE:Nat) (Q3:be) (QH:Nat) (Q5:be) (Py QS QM QK:Int):oa->RT oa
 |.L0 Pt Ry RL SY=>.br (decide (Pt<(QE:Int))) (.ob (dI Pt QE) (.iv (.obj (decide (0<=av (Q3 Pt.toNat))) (dI Pt Pq) (.iv (.br (decide (0<=av (Q3 Pt.toNat))) (.ob (decide (0<=av (Q3 Pt.toNat))) (.ob (decide (0<=av (Q3 Pt.toNat))) (.obp (((0:Int)<=Pt/\Pt<(QE:Int))/\((0:Int)<=Pt/\Pt<(QH:Int))/\(aD H (D ap G)/\aD T (D B4 O))/\(aD n5 (D bd q)/\aD Pq (D aV Pp))/\Hd (cu (Pp Pt.toNat)) (bE (Pp Pt.toNat))/\wi (aP (Pp Pt.toNat)) (bV (Pp Pt.toNat)) (bf (Pp Pt.toNat)) Py QS QM QK) (.obt (.next (iR 0 5 []) (oa.L0 (E (Pt+1)) Ry (E (RL+ri H (D ap G) T (D B4 O) n5 (D bd q) n7 (D bq f7) n9 (D bu f9) Pq (D aV Pp) (D L Q3) (D cI Q5) Pt (aP (Pp Pt.toNat)) (bV (Pp Pt.toNat)) (bf (Pp Pt.toNat)) (cu (Pp Pt.toNat)) (bE (Pp Pt.toNat)) Py QS QM QK)) (E (SY+H6 H (D ap G) T (D B4 O) n5 (D bd q) n7 (D bq f7) n9 (D bu f9) Pq (D aV Pp) (D L Q3) (D cI Q5) Pt (aP (Pp Pt.toNat)) (bV (Pp Pt.toNat)) (bf (Pp Pt.toNat)) (cu (Pp Pt.toNat)) (bE (Pp Pt.toNat)) Py QS QM QK))) []))))) (.next (iR 0 5 []) (oa.L0 (E (Pt+1)) Ry RL SY) [])))))) (.ret (V.agg [A RL,A SY]))
def b10:RT oa:=dm (H,G,T,O,Q,n5,q,n7,f7,n9,f9,Pq,Pp,Q3,QH,Q5,Py,QS,QM,QK) (.all (λl_8506=>.am QE (.enter (iR 0 5 []) (oa.L0 0 (l_8506) 0 0) [])))
theorem hrd:dZ AF u0 (ahp H G T O Q n5 q n7 f7 n9 f9 Pq Pp QE Q3 QH Q5 Py QS QM QK) (ah3 H G T O Q n5 q n7 f7 n9 f9 Pq Pp QE Q3 QH Q5 Py QS QM QK) (b10 H G T O Q n5 q n7 f7 n9 f9 Pq Pp QE Q3 QH Q5 Py QS QM QK) (Bu H G T O Q n5 q n7 f7 n9 f9 Pq Pp QE Q3 QH Q5 Py QS QM QK):=⟨bD,λs=>by cases s<;>exact bD⟩
theorem akp (hn:QE<=9223372036854775807) (l:Nat) (hp:MQ H (D ap G) T (D B4 O) n5 (D bd q) Pq (D aV Pp) QE QH/\QT Py QS QM QK):∀ k,k<=QE->Ev (Bu H G T O Q n5 q n7 f7 n9 f9 Pq Pp QE Q3 QH Q5 Py QS QM QK) (.L0 (k:Int) l (iM H (D ap G) T (D B4 O) n5 (D bd q) n7 (D bq f7) n9 (D bu f9) Pq (D aV Pp) (D L Q3) (D cI Q5) Py QS QM QK k) (iZ H (D ap G) T (D B4 O) n5 (D bd q) n7 (D bq f7) n9 (D bu f9) Pq (D aV Pp) (D L Q3) (D cI Q5) Py QS QM QK k)) (.agg [A (iM H (D ap G) T (D B4 O) n5 (D bd q) n7 (D bq f7) n9 (D bu f9) Pq (D aV Pp) (D L Q3) (D cI Q5) Py QS QM QK QE),A (iZ H (D ap G) T (D B4 O) n5 (D bd q) n7 (D bq f7) n9 (D bu f9) Pq (D aV Pp) (D L Q3) (D cI Q5) Py QS QM QK QE)]):=by
 obtain⟨⟨⟨M,N⟩,hz,hr,hc⟩,hv⟩:=hp;refine dB λk hk ih=>Ev.of rfl ?_
 skip
 by_cases Q7:k<QE
 ·have hw:E ((k:Int)+1)=((k+1:Nat):Int):=by rw[C8 K K];omega
  have ih:=ih Q7;rw[← hw]at ih;have c:=hc k K;refine cP (BX K) (aF (BX K) (B1 (B1 (B1 (B1 (DY (λ_=>BX K) (B1 (B1 (B1 (B1 (C2 (λh=>aF h (aF h (aI ⟨K,K,hz,hr,c.hd,⟨⟨c.px,c.py,c.ph⟩,hv⟩⟩ (ac (aL ?_))))) (λh=>aL ?_))))))))))))
  ·have h:Jl (D L Q3) k=true:=h;unfold iM iZ at ih;rw[A9 h,A9 h]at ih;exact ih
  ·have h:Jl (D L Q3) k=false:=h;unfold iM iZ at ih;rw[BW h,BW h]at ih;exact ih
 ·have e:k=QE:=by omega
  refine cW (eQ K) ?_;rw[e];exact B5 rfl
theorem x15 (hp:MQ H (D ap G) T (D B4 O) n5 (D bd q) Pq (D aV Pp) QE QH/\QT Py QS QM QK):aT (Ev (Bu H G T O Q n5 q n7 f7 n9 f9 Pq Pp QE Q3 QH Q5 Py QS QM QK)) (b10 H G T O Q n5 q n7 f7 n9 f9 Pq Pp QE Q3 QH Q5 Py QS QM QK) (.agg [A (iM H (D ap G) T (D B4 O) n5 (D bd q) n7 (D bq f7) n9 (D bu f9) Pq (D aV Pp) (D L Q3) (D cI Q5) Py QS QM QK QE),A (iZ H (D ap G) T (D B4 O) n5 (D bd q) n7 (D bq f7) n9 (D bu f9) Pq (D aV Pp) (D L Q3) (D cI Q5) Py QS QM QK QE)]):=Dt λl=>bC λhn=>aH (akp H G T O Q n5 q n7 f7 n9 f9 Pq Pp QE Q3 QH Q5 Py QS QM QK hn l hp 0 (Da _))
def fo3:aE:=bP [.agg [.sl ap,.sl B4,tI,.sl bd,.sl bq,.sl bu,.sl aV,.sl L,.sl cI],.fn 13 [] [.pd gV]] (λ
 |[.agg [.sl H G,.sl T O,.int _ Q,.sl n5 q,.sl n7 f7,.sl n9 f9,.sl Pq Pp,.sl QE Q3,.sl QH Q5],.fn _ [] [.pd [.int _ Py,.int _ QS,.int _ QM,.int _ QK]]]=>MQ H G T O n5 q Pq Pp QE QH/\QT Py QS QM QK|_=>False) λ
 |[.agg [.sl H G,.sl T O,.int _ Q,.sl n5 q,.sl n7 f7,.sl n9 f9,.sl Pq Pp,.sl QE Q3,.sl QH Q5],.fn _ [] [.pd [.int _ Py,.int _ QS,.int _ QM,.int _ QK]]]=>.agg [A (iM H G T O n5 q n7 f7 n9 f9 Pq Pp Q3 Q5 Py QS QM QK QE),A (iZ H G T O n5 q n7 f7 n9 f9 Pq Pp Q3 Q5 Py QS QM QK QE)]|_=>.any
theorem okN:b9 fo3 12:=aU F1 λ_ hp=>kr (hrd ..) (x15 _ _ _ _ _ _ _ _ _ _ _ _ _ _ _ _ _ _ _ _ _ hp)
theorem atH {e a b c d:Int} (h:fB e a b c d=0):e=0/\iT a b c d=true:=by
 unfold fB at h;cases M:e==0 with
 |false=>rw[M]at h;have h:e=0:=h;rw[h]at M;cases M
 |true=>
   rw[M]at h;cases N:iT a b c d with
   |false=>rw[N]at h;cases h|true=>exact⟨EM M,rfl⟩
inductive tS where|L0 (_ _ _:Int)
def if4:tS->bS×List Ax×Option Ex
 |.L0 Pt Qf RL=>([(8,A Pt),(7,V.pl 0 0),(14,V.kb false),(13,A (fB (ko H (D ap G) T (D B4 O) Q n5 (D bd q) n7 (D bq f7) n9 (D bu f9) Pq (D aV Pp) QE (D L Q3) QH (D cI Q5)) Py QS QM QK)),(6,A (fB (ko H (D ap G) T (D B4 O) Q n5 (D bd q) n7 (D bq f7) n9 (D bu f9) Pq (D aV Pp) QE (D L Q3) QH (D cI Q5)) Py QS QM QK)),(12,A (fB (ko H (D ap G) T (D B4 O) Q n5 (D bd q) n7 (D bq f7) n9 (D bu f9) Pq (D aV Pp) QE (D L Q3) QH (D cI Q5)) Py QS QM QK)),(11,V.agg [A Py,A QS,A QM,A QK]),(10,V.agg [V.sl H (D ap G),V.sl T (D B4 O),A Q,V.sl n5 (D bd q),V.sl n7 (D bq f7),V.sl n9 (D bu f9),V.sl Pq (D aV Pp),V.sl QE (D L Q3),V.sl QH (D cI Q5)]),(5,A 0),(4,V.pl 1 0),(3,V.pl 2 0),(2,V.pl 3 0),(0,V.agg [V.sl H (D ap G),V.sl T (D B4 O),A Q,V.sl n5 (D bd q),V.sl n7 (D bq f7),V.sl n9 (D bu f9),V.sl Pq (D aV Pp),V.sl QE (D L Q3),V.sl QH (D cI Q5)]),(1,V.agg [A Py,A QS,A QM,A QK])],[Ax.cells [A Qf,A RL] 39,Ax.cells Dj 39,Ax.cells [A Py,A QS,A QM,A QK] 37,Ax.cells [V.sl H (D ap G),V.sl T (D B4 O),A Q,V.sl n5 (D bd q),V.sl n7 (D bq f7),V.sl n9 (D bu f9),V.sl Pq (D aV Pp),V.sl QE (D L Q3),V.sl QH (D cI Q5)] 35],none)
def akP:tS->JJ
 |.L0 ..=>(0,[])
def azd:Bh (cq JJ):=aQ JJ AF u0 ak5 [V.agg [V.sl H (D ap G),V.sl T (D B4 O),A Q,V.sl n5 (D bd q),V.sl n7 (D bq f7),V.sl n9 (D bu f9),V.sl Pq (D aV Pp),V.sl QE (D L Q3),V.sl QH (D cI Q5)],V.agg [A Py,A QS,A QM,A QK]]
def IUn (cx:List Cx):Lp JJ:=eX (eJ (azd H G T O Q n5 q n7 f7 n9 f9 Pq Pp QE Q3 QH Q5 Py QS QM QK) [false])
def agt:JJ->Lp JJ
 |(0,cx)=>IUn H G T O Q n5 q n7 f7 n9 f9 Pq Pp QE Q3 QH Q5 Py QS QM QK cx|(_,cx)=>IUn H G T O Q n5 q n7 f7 n9 f9 Pq Pp QE Q3 QH Q5 Py QS QM QK cx
def apJ:LD JJ tS:=⟨akP,agt H G T O Q n5 q n7 f7 n9 f9 Pq Pp QE Q3 QH Q5 Py QS QM QK,if4 H G T O Q n5 q n7 f7 n9 f9 Pq Pp QE Q3 QH Q5 Py QS QM QK⟩
def Hi (H:Nat) (G:be) (T:Nat) (O:be) (Q:Int) (n5:Nat) (q:be) (n7:Nat) (f7:be) (n9:Nat) (f9:be) (Pq:Nat) (Pp:be) (QE:Nat) (Q3:be) (QH:Nat) (Q5:be) (Py QS QM QK:Int):tS->RT tS
 |.L0 Pt Qf RL=>.am QE (.br (decide (Pt<(QE:Int))) (.ob (dI Pt QE) (.br (decide (0<=av (Q3 Pt.toNat))) (.obp (((0:Int)<=Pt/\Pt<(QE:Int))/\((0:Int)<=Pt/\Pt<(QH:Int))/\((0:Int)<=Pt/\Pt<(Pq:Int))/\(aD H (D ap G)/\aD T (D B4 O))/\(aD n5 (D bd q)/\aD Pq (D aV Pp))/\Hd (cu (Pp Pt.toNat)) (bE (Pp Pt.toNat))/\wi (aP (Pp Pt.toNat)) (bV (Pp Pt.toNat)) (bf (Pp Pt.toNat)) Py QS QM QK) (.obt (.next (iR 0 4 []) (tS.L0 (E (Pt+1)) (E (Qf+ri H (D ap G) T (D B4 O) n5 (D bd q) n7 (D bq f7) n9 (D bu f9) Pq (D aV Pp) (D L Q3) (D cI Q5) Pt (aP (Pp Pt.toNat)) (bV (Pp Pt.toNat)) (bf (Pp Pt.toNat)) (cu (Pp Pt.toNat)) (bE (Pp Pt.toNat)) Py QS QM QK)) (E (RL+H6 H (D ap G) T (D B4 O) n5 (D bd q) n7 (D bq f7) n9 (D bu f9) Pq (D aV Pp) (D L Q3) (D cI Q5) Pt (aP (Pp Pt.toNat)) (bV (Pp Pt.toNat)) (bf (Pp Pt.toNat)) (cu (Pp Pt.toNat)) (bE (Pp Pt.toNat)) Py QS QM QK))) []))) (.next (iR 0 4 []) (tS.L0 (E (Pt+1)) Qf RL) []))) (.ret (V.tup [V.agg [A Qf,A RL],A 0])))
def acE:RT tS:=.obp (aD H (D ap G)/\aD T (D B4 O)/\aD n5 (D bd q)/\aD Pq (D aV Pp)) (.obt (.br (fB (ko H (D ap G) T (D B4 O) Q n5 (D bd q) n7 (D bq f7) n9 (D bu f9) Pq (D aV Pp) QE (D L Q3) QH (D cI Q5)) Py QS QM QK !=0) (.ret (V.tup [V.agg Dj,A (fB (ko H (D ap G) T (D B4 O) Q n5 (D bd q) n7 (D bq f7) n9 (D bu f9) Pq (D aV Pp) QE (D L Q3) QH (D cI Q5)) Py QS QM QK)])) (.enter am5 (tS.L0 0 0 0) [])))
theorem rdT:dZ AF u0 (apJ H G T O Q n5 q n7 f7 n9 f9 Pq Pp QE Q3 QH Q5 Py QS QM QK) (azd H G T O Q n5 q n7 f7 n9 f9 Pq Pp QE Q3 QH Q5 Py QS QM QK) (acE H G T O Q n5 q n7 f7 n9 f9 Pq Pp QE Q3 QH Q5 Py QS QM QK) (Hi H G T O Q n5 q n7 f7 n9 f9 Pq Pp QE Q3 QH Q5 Py QS QM QK):=⟨bD,λs=>by cases s<;>exact bD⟩
theorem aol {r:V} (hp:MQ H (D ap G) T (D B4 O) n5 (D bd q) Pq (D aV Pp) QE QH/\QT Py QS QM QK) (WM:dq (V.tup [V.agg [A (iM H (D ap G) T (D B4 O) n5 (D bd q) n7 (D bq f7) n9 (D bu f9) Pq (D aV Pp) (D L Q3) (D cI Q5) Py QS QM QK QE),A (iZ H (D ap G) T (D B4 O) n5 (D bd q) n7 (D bq f7) n9 (D bu f9) Pq (D aV Pp) (D L Q3) (D cI Q5) Py QS QM QK QE)],A 0])=dq r):∀ k,k<=QE->Ev (Hi H G T O Q n5 q n7 f7 n9 f9 Pq Pp QE Q3 QH Q5 Py QS QM QK) (.L0 (k:Int) (iM H (D ap G) T (D B4 O) n5 (D bd q) n7 (D bq f7) n9 (D bu f9) Pq (D aV Pp) (D L Q3) (D cI Q5) Py QS QM QK k) (iZ H (D ap G) T (D B4 O) n5 (D bd q) n7 (D bq f7) n9 (D bu f9) Pq (D aV Pp) (D L Q3) (D cI Q5) Py QS QM QK k)) r:=by
 obtain⟨⟨⟨M,N⟩,hz,hr,hc⟩,hv⟩:=hp;refine dB λk hk ih=>Ev.of rfl ?_;refine bC λhn=>?_;by_cases Q7:k<QE
 ·have hw:E ((k:Int)+1)=((k+1:Nat):Int):=by rw[C8 K K];omega
  have ih:=ih Q7;rw[← hw]at ih;have c:=hc k K;refine cP (BX K) (aF (BX K) (C2 (λh=>aI ⟨K,K,K,hz,hr,c.hd,⟨⟨c.px,c.py,c.ph⟩,hv⟩⟩ (ac (aL ?_))) (λh=>aL ?_)))
  ·have h:Jl (D L Q3) k=true:=h;unfold iM iZ at ih;rw[A9 h,A9 h]at ih;exact ih
  ·have h:Jl (D L Q3) k=false:=h;unfold iM iZ at ih;rw[BW h,BW h]at ih;exact ih
 ·have e:k=QE:=by omega
  refine cW (eQ K) ?_;rw[e];exact B5 WM
theorem aky (hp:aD H (D ap G)/\aD T (D B4 O)/\aD n5 (D bd q)/\aD Pq (D aV Pp)):aT (Ev (Hi H G T O Q n5 q n7 f7 n9 f9 Pq Pp QE Q3 QH Q5 Py QS QM QK)) (acE H G T O Q n5 q n7 f7 n9 f9 Pq Pp QE Q3 QH Q5 Py QS QM QK) (.tup [.agg [A (zC (fB (ko H (D ap G) T (D B4 O) Q n5 (D bd q) n7 (D bq f7) n9 (D bu f9) Pq (D aV Pp) QE (D L Q3) QH (D cI Q5)) Py QS QM QK) (iM H (D ap G) T (D B4 O) n5 (D bd q) n7 (D bq f7) n9 (D bu f9) Pq (D aV Pp) (D L Q3) (D cI Q5) Py QS QM QK QE)),A (zC (fB (ko H (D ap G) T (D B4 O) Q n5 (D bd q) n7 (D bq f7) n9 (D bu f9) Pq (D aV Pp) QE (D L Q3) QH (D cI Q5)) Py QS QM QK) (iZ H (D ap G) T (D B4 O) n5 (D bd q) n7 (D bq f7) n9 (D bu f9) Pq (D aV Pp) (D L Q3) (D cI Q5) Py QS QM QK QE))],A (fB (ko H (D ap G) T (D B4 O) Q n5 (D bd q) n7 (D bq f7) n9 (D bu f9) Pq (D aV Pp) QE (D L Q3) QH (D cI Q5)) Py QS QM QK)]):=by refine aI hp (ac (C2 (λh=>B5 (F9 rfl (NE h))) (λh=>?_)));have h0:=yZ h;have k:=atH h0;have Ur:=aaO k.1;exact aH (aol H G T O Q n5 q n7 f7 n9 f9 Pq Pp QE Q3 QH Q5 Py QS QM QK ⟨⟨⟨Ur.ll,Ur.lu⟩,⟨hp.1,hp.2.1⟩,⟨hp.2.2.1,hp.2.2.2⟩,Ur.cl⟩,atm k.2⟩ (aaX h0) 0 (Da _))
def adg:aE:=bP [.agg [.sl ap,.sl B4,tI,.sl bd,.sl bq,.sl bu,.sl aV,.sl L,.sl cI],.agg gV] (λ
 |[.agg [.sl H G,.sl T O,.int _ Q,.sl n5 q,.sl n7 f7,.sl n9 f9,.sl Pq Pp,.sl QE Q3,.sl QH Q5],.agg [.int _ Py,.int _ QS,.int _ QM,.int _ QK]]=>aD H G/\aD T O/\aD n5 q/\aD Pq Pp|_=>False) λ
 |[.agg [.sl H G,.sl T O,.int _ Q,.sl n5 q,.sl n7 f7,.sl n9 f9,.sl Pq Pp,.sl QE Q3,.sl QH Q5],.agg [.int _ Py,.int _ QS,.int _ QM,.int _ QK]]=>.tup [.agg [A (zC (fB (ko H G T O Q n5 q n7 f7 n9 f9 Pq Pp QE Q3 QH Q5) Py QS QM QK) (iM H G T O n5 q n7 f7 n9 f9 Pq Pp Q3 Q5 Py QS QM QK QE)),A (zC (fB (ko H G T O Q n5 q n7 f7 n9 f9 Pq Pp QE Q3 QH Q5) Py QS QM QK) (iZ H G T O n5 q n7 f7 n9 f9 Pq Pp Q3 Q5 Py QS QM QK QE))],A (fB (ko H G T O Q n5 q n7 f7 n9 f9 Pq Pp QE Q3 QH Q5) Py QS QM QK)]|_=>.any
theorem ajU:b9 adg 6:=aU F1 λ_ hp=>kr (rdT ..) (aky _ _ _ _ _ _ _ _ _ _ _ _ _ _ _ _ _ _ _ _ _ hp)
def NF:bm:=(12,.con fo3)::(6,.con adg)::AF
theorem dep:aZ Tryz.prog Bs C3 NF:=.con okN (.con ajU (F1))
theorem auk {e a b c d:Int} (h:e≠0):fB e a b c d=e:=by unfold fB;rw[show(e==0)=false from by simpa using h];rfl
theorem ant {a b c d:Int} (h:iT a b c d=false):fB 0 a b c d=7:=by unfold fB;rw[h];rfl
theorem apU {a b c d:Int} (h:iT a b c d=true):fB 0 a b c d=0:=by unfold fB;rw[h];rfl
def acF:RT Empty:=.obp (aD H (D ap G)/\aD T (D B4 O)/\aD n5 (D bd q)/\aD Pq (D aV Pp)) (.obt (.br (ko H (D ap G) T (D B4 O) Q n5 (D bd q) n7 (D bq f7) n9 (D bu f9) Pq (D aV Pp) QE (D L Q3) QH (D cI Q5)!=0) (.ret (V.tup [V.agg Dj,A (ko H (D ap G) T (D B4 O) Q n5 (D bd q) n7 (D bq f7) n9 (D bu f9) Pq (D aV Pp) QE (D L Q3) QH (D cI Q5))])) (.cb (.br (!iT Py QS QM QK) (.ret (V.tup [V.agg Dj,A 7])) (.obp (MQ H (D ap G) T (D B4 O) n5 (D bd q) Pq (D aV Pp) QE QH/\QT Py QS QM QK) (.obt (.ret (V.tup [V.agg [A (iM H (D ap G) T (D B4 O) n5 (D bd q) n7 (D bq f7) n9 (D bu f9) Pq (D aV Pp) (D L Q3) (D cI Q5) Py QS QM QK QE),A (iZ H (D ap G) T (D B4 O) n5 (D bd q) n7 (D bq f7) n9 (D bu f9) Pq (D aV Pp) (D L Q3) (D cI Q5) Py QS QM QK QE)],A 0]))))))))
theorem x27:cY cZ (aQ JJ NF u0 hbl [V.agg [V.sl H (D ap G),V.sl T (D B4 O),A Q,V.sl n5 (D bd q),V.sl n7 (D bq f7),V.sl n9 (D bu f9),V.sl Pq (D aV Pp),V.sl QE (D L Q3),V.sl QH (D cI Q5)],V.agg [A Py,A QS,A QM,A QK]]) (acF H G T O Q n5 q n7 f7 n9 f9 Pq Pp QE Q3 QH Q5 Py QS QM QK):=bD
theorem amx (hp:aD H (D ap G)/\aD T (D B4 O)/\aD n5 (D bd q)/\aD Pq (D aV Pp)):aT cM (acF H G T O Q n5 q n7 f7 n9 f9 Pq Pp QE Q3 QH Q5 Py QS QM QK) (.tup [.agg [A (zC (fB (ko H (D ap G) T (D B4 O) Q n5 (D bd q) n7 (D bq f7) n9 (D bu f9) Pq (D aV Pp) QE (D L Q3) QH (D cI Q5)) Py QS QM QK) (iM H (D ap G) T (D B4 O) n5 (D bd q) n7 (D bq f7) n9 (D bu f9) Pq (D aV Pp) (D L Q3) (D cI Q5) Py QS QM QK QE)),A (zC (fB (ko H (D ap G) T (D B4 O) Q n5 (D bd q) n7 (D bq f7) n9 (D bu f9) Pq (D aV Pp) QE (D L Q3) QH (D cI Q5)) Py QS QM QK) (iZ H (D ap G) T (D B4 O) n5 (D bd q) n7 (D bq f7) n9 (D bu f9) Pq (D aV Pp) (D L Q3) (D cI Q5) Py QS QM QK QE))],A (fB (ko H (D ap G) T (D B4 O) Q n5 (D bd q) n7 (D bq f7) n9 (D bu f9) Pq (D aV Pp) QE (D L Q3) QH (D cI Q5)) Py QS QM QK)]):=by refine aI hp (ac (C2 (λh=>B5 (F9 (auk (NE h)) (NE h))) (λh=>?_)));have h0:(ko H (D ap G) T (D B4 O) Q n5 (D bd q) n7 (D bq f7) n9 (D bu f9) Pq (D aV Pp) QE (D L Q3) QH (D cI Q5))=0:=yZ h;have Ur:=aaO h0;rw[h0];exact ao (ac (C2 (λM=>B5 (F9 (ant (RH M)) aR)) (λM=>aI ⟨⟨⟨Ur.ll,Ur.lu⟩,⟨hp.1,hp.2.1⟩,⟨hp.2.2.1,hp.2.2.2⟩,Ur.cl⟩,atm (EF M)⟩ (ac (B5 (aaX (apU (EF M))))))))
def ad2:aE:=bP [.agg [.sl ap,.sl B4,tI,.sl bd,.sl bq,.sl bu,.sl aV,.sl L,.sl cI],.agg gV] (λ
 |[.agg [.sl H G,.sl T O,.int _ Q,.sl n5 q,.sl n7 f7,.sl n9 f9,.sl Pq Pp,.sl QE Q3,.sl QH Q5],.agg [.int _ Py,.int _ QS,.int _ QM,.int _ QK]]=>aD H G/\aD T O/\aD n5 q/\aD Pq Pp|_=>False) λ
 |[.agg [.sl H G,.sl T O,.int _ Q,.sl n5 q,.sl n7 f7,.sl n9 f9,.sl Pq Pp,.sl QE Q3,.sl QH Q5],.agg [.int _ Py,.int _ QS,.int _ QM,.int _ QK]]=>.tup [.agg [A (zC (fB (ko H G T O Q n5 q n7 f7 n9 f9 Pq Pp QE Q3 QH Q5) Py QS QM QK) (iM H G T O n5 q n7 f7 n9 f9 Pq Pp Q3 Q5 Py QS QM QK QE)),A (zC (fB (ko H G T O Q n5 q n7 f7 n9 f9 Pq Pp QE Q3 QH Q5) Py QS QM QK) (iZ H G T O n5 q n7 f7 n9 f9 Pq Pp Q3 Q5 Py QS QM QK QE))],A (fB (ko H G T O Q n5 q n7 f7 n9 f9 Pq Pp QE Q3 QH Q5) Py QS QM QK)]|_=>.any
theorem ahn:b9 ad2 5:=aU dep λ_ hp=>da (x27 ..) (amx _ _ _ _ _ _ _ _ _ _ _ _ _ _ _ _ _ _ _ _ _ hp)
def avH (ts:List Ty) (raw:List V) (r:V):aE:=bP ts (λds=>ds=lR ts (al ts raw)) λ_=>r
theorem x14 {P:Program} {Bs:List TypeId} {C3:List iU} {ct:bm} {f:FuncId} {fn:Func} {sf:aK} {un:l8} {ts:List Ty} {raw:List V} {r:V} (hT:aZ P Bs C3 ct) (hE:∀ t∈Bs,dM P t) (hI:mE P Bs C3) (hf:P.funcs[f]? = some fn)
 (hn : (fn.name == "runtime.NumGoroutine") = false) (hc : eS P Bs C3 fn = some sf) (hd : gm sf.ntmps sf.body = true) (ho : gO ts = true)
 (h:rO r (aQ JJ ct un sf (lR ts (al ts raw)))=aQ JJ ct un sf (lR ts (al ts raw))):(vP (gM [(al ts raw,r)])).Ok P f :=
 BK (C:=avH ts raw r) (GJ (J:=JJ) (un:=un) hT hE hI hf hn hc hd ho λw0 ds hp=>by rw[hp];exact zx h) _ (VY (Kl rfl rfl) Vo)
theorem Af {ts:List Ty} {pre:List V->Prop} {preB:List V->Bool} {r:List V->V} (h:∀ ds,preB ds=true->pre ds) {ds:List V} {d p r'} (hc:sn ts preB r ds=some (d,p,r')):∃ Pw,bP ts pre r ds=some (d,Pw,r')/\Pw:=by
 unfold sn at hc;cases hb:preB (lR ts ds) with
 |false=>rw[hb]at hc;cases hc
 |true=>rw[hb]at hc;simp only[cond_true,DJ,Prod.mk.injEq]at hc;obtain⟨rfl,rfl,rfl⟩:=hc;exact⟨_,rfl,h _ hb⟩
theorem i17 {P:Program} {f:FuncId} {ts:List Ty} {pre:List V->Prop} {preB:List V->Bool} {r:List V->V} (h:∀ds,preB ds=true->pre ds) (hO:(vZ (bP ts pre r)).Ok P f):(vZ (sn ts preB r)).Ok P f:=by refine⟨λB m lh w args vs At hrel hargs ⟨ds,d,p,r',X,M,hX,N,h3,h5,h6⟩=>?_,λ_ _ _ _ _ hk ⟨ds,d,p,r,X,M,N,h3,h4,h5,h6⟩=>⟨ds,d,p,r,X,M,N,h3,h4,h5,λx new hx=>hk _ _ (h6 x new hx)⟩,λ_ _ _ _ ⟨_,_,_,_,_,_,_,_,_,⟨x,new,hx⟩,h6⟩=>h6 x new hx⟩;obtain⟨Pw,e,hq⟩:=Af h N;exact hO.sound B m lh w args vs At hrel hargs ⟨ds,d,Pw,r',X,M,hX,e,⟨h3.1,hq⟩,h5,h6⟩
def Hj:List V->Bool
 |[.agg [.str _,.sl n1 _,.sl n3 _,.sl _ _,.int _ _,.int _ _],.int _ _]=>Nat.ble n1 1000&&Nat.ble n3 1000|_=>false
theorem hl1 (ds:List V) (h:Hj ds=true):aad ds:=by
 unfold Hj at h;split at h
 ·simp only[D2]at h;exact⟨Dc h.1,Dc h.2⟩
 ·cases h
def G5:aE:=sn BQ Hj QB
theorem m68:(vZ G5).Ok Tryz.prog 65:=i17 hl1 hW'
theorem hss:∀ds d p r,G5 ds=some (d,p,r)->d.1=d.2->p->∀w0 lh args,bI w0 lh Nu.nil ds args->∃x new,vr w0 (lh++new) Nu.nil r x:=λds d p r h M _=>by obtain⟨Pw,e,hq⟩:=Af hl1 h;exact auo ds d Pw r e M hq
def eW (Qa B:aE):aE:=Jn (λds=>(Qa ds).isSome) Qa B
theorem bJ {P:Program} {f:FuncId} {Qa B:aE} (hA:(vP Qa).Ok P f) (hB:(vP B).Ok P f):(vP (eW Qa B)).Ok P f:=Hh _ _ _ hA hB
theorem dH {ct:bm} {f:FuncId} {fn:Func} {sf:aK} {ts:List Ty} {raw:List V} {r:V} (hT:aZ Tryz.prog Bs C3 ct) (hf:Tryz.prog.funcs[f]? = some fn) (hk:Jg fn sf ts=(false,some sf,true,true)) (h:rO r (aQ JJ ct uB sf (lR ts (al ts raw)))=aQ JJ ct uB sf (lR ts (al ts raw))):(vP (gM [(al ts raw,r)])).Ok Tryz.prog f:=x14 hT hE hI hf (ft hk).1 (ft hk).2.1 (ft hk).2.2.1 (ft hk).2.2.2 h
def yaR:bm:=NF
theorem wOf:aZ Tryz.prog Bs C3 yaR:=dep
def anf:V:=.sl 2 λ|0=>[A 0]|_=>[A 100]
def apE:V:=.sl 2 λ|0=>[A 100]|_=>[A 300]
def anU:V:=.sl 2 λ|0=>[A 200]|_=>[A 600]
def abx:V:=.sl 2 λ|0=>[A 700]|_=>[A 700]
def PP:V:=.str ⟨#[97,115,112,104,97,108,116]⟩
def Tb:V:=.sl 2 λ|0=>[A (-1000)]|_=>[A 1000]
def AH:V:=.sl 2 λ|0=>[A (-5000)]|_=>[A 5000]
def Jy:V:=.sl 2 λ|0=>[A (-8000000)]|_=>[A 8000000]
def auj:V:=.sl 1 λ_=>J5
def C9:V:=.sl 2 λ|0=>[A (-40000000)]|_=>[A 40000000]
def G0:V:=.sl 3 λ|0=>[A (-1000)]|1=>[A 0]|_=>[A 2000]
def ze:V:=.sl 3 λ|0=>[A (-8000000)]|1=>[A 0]|_=>[A 16000000]
def By:V:=.agg [A (-4000),A (-4000),A 0,A 0]
def Bo:V:=.agg [A (-4000),A 0,A (-4000),A 0]
def A5:V:=.agg [A (-4000),A 4000,A 0,A 8000]
def Cd:V:=.agg [A (-4000),A 0,A 4000,A 8000]
def Gt:V:=.agg [.str ⟨#[99]⟩,A 0,A 0,A 80,A 0,A 1]
def h12:V:=.sl 1 λ_=>[.str ⟨#[99]⟩,A 0,A 0,A 80,A 0,A 1]
def FM:V:=.sl 2 λ|0=>[abx]|_=>[abx]
def ajc:V:=.sl 3 λ|0=>Dj|1=>[A 10000,A 0]|_=>[A 10000,A 10000]
def GY:V:=.sl 3 λ|0=>[apE]|1=>[anU]|_=>[anf]
def hab:V:=.sl 1 λ_=>[.str ⟨#[104,105,103,104]⟩,A 0,ajc,A 4000]
def w8:V:=.sl 1 λ_=>[.str ⟨#[104,101,97,100]⟩,A 0,A 1,A 8000,A 60000,A 500,A 50,A 2,A 4,A 3,A 5,A 100000,A 200,A 0]
def GO:V:=.agg [hab,.sl 0 λ_=>[],.sl 0 λ_=>[],h12]
def dAt:V:=.pd [PP,AH,AH,FM,A 0,A 0,C9,C9,A 8000]
def hX':V:=.agg [PP,AH,AH,FM,A 0,A 0,C9,C9,A 8000]
def uu:V:=.pd [.str ⟨#[119,105,100,101]⟩,G0,Tb,GY,A 50,A 5,ze,Jy,A 8000]
def oN:V:=.agg [.str ⟨#[119,105,100,101]⟩,G0,Tb,GY,A 50,A 5,ze,Jy,A 8000]
def xL:V:=.sl 2 λ|0=>[.str ⟨#[119,105,100,101]⟩,G0,Tb,GY,A 50,A 5]|_=>[PP,AH,AH,FM,A 0,A 0]
def rX:V:=.agg [xL,w8,A 1,hab,.sl 0 λ_=>[],.sl 0 λ_=>[],h12,.sl 1 λ_=>[A 0],auj,A 0,.str ⟨#[99]⟩,A 0,A 0,A 80,A 0,A 1]
def ana:List Ty:=[.agg B4,.agg cI]
def aoQ:List Ty:=[.agg [.sl ap,.sl B4,tI,.sl bd,.sl L,.sl L,.sl aV,.sl L,.sl cI,tI,.str,tI,tI,tI,tI,tI]]
def S3:List Ty:=[.agg aM,tI,tI,tI,tI]
def nu:List Ty:=[.agg aM,.sl aM]
def Ao:List Ty:=[.sl L,tI]
def vz:List Ty:=[tI,.pd [.str,.sl L,.sl L,.sl [.sl L],tI,tI,.sl L,.sl L,tI],.pd L,.pd L]
def Qc:List Ty:=[.agg [.sl bd,.sl L,.sl L,.sl aV],tI,.agg gV]
def Nk:List Ty:=[.agg aV,.agg gV]
def Ti:List Ty:=[.agg [.sl ap,.sl B4,tI,.sl bd,.sl L,.sl L,.sl aV,.sl L,.sl cI,tI,.str,tI,tI,tI,tI,tI],.agg gV,tI,tI]
def yK:List Ty:=[.agg [.str,.sl L,.sl L,.sl [.sl L],tI,tI,.sl L,.sl L,tI],tI,tI]
def Cl:List Ty:=[.agg [.str,.sl L,.sl L,.sl [.sl L],tI,tI,.sl L,.sl L,tI],.agg gV]
def aiR:List Ty:=[.agg [.sl ap,.sl B4],tI,.agg gV,tI]
def G8:List Ty:=[.agg [.sl ap,.sl B4],tI,.agg cI,.agg gV,tI]
def Ft:List Ty:=[.agg [.sl ap,.sl B4,tI,.sl bd,.sl L,.sl L,.sl aV,.sl L,.sl cI,tI,.str,tI,tI,tI,tI,tI],.agg gV,tI]
def ctK:bm:=[(23,.con ayy),(49,.con yaS),(50,.con ar8),(144,.con M2),(82,.con N1),(181,.con MF),(152,.con R5),(96,.con bd3),(97,.con hbw),(29,.con fn5),(31,.con ayL),(70,.con fh6),(69,.con fh1),(180,.con azu),(65,.conZ G5 hss),(98,.inl aq7 uB),(141,.inl arP uB),(99,.inl asl uB),(52,.inl ZA uB),(187,.inl acA uB),(243,.inl Sy uB),(92,.inl IS uB),(5,.inl hbl uB),(8,.inl akS uB),(10,.inl hb2 uB),(11,.inl f26 uB),(12,.inl axz uB),(13,.inl azD uB),(14,.inl hch uB),(17,.inl aiG uB),(18,.inl ajK uB),(19,.inl agn uB),(20,.inl aiy uB),(44,.inl fb2 uB),(24,.inl axN uB),(25,.inl hcl uB),(93,.inl yaX uB),(94,.inl fh8 uB),(64,.inl awm uB),(28,.inl fa2 uB),(30,.inl dwL uB),(32,.inl axI uB),(43,.inl ak8 uB),(53,.inl eqB uB),(73,.inl fx7 uB),(72,.inl axk uB),(67,.inl hb1 uB),(57,.inl hag uB),(122,.inl fs1 uB),(126,.inl yaQ uB),(127,.inl azE uB),(63,.inl ale uB),(68,.inl GA uB),(71,.inl axt uB),(177,.inl axc uB),(216,.inl f13 uB),(227,.inl ba2 uB),(228,.inl ev2 uB)]
theorem ard:aZ Tryz.prog Bs C3 ctK:=.con if8 (.con x19 (.con atb (.con asE (.con hbn (.con fy3 (.con h13 (.con x23 (.con ip1 (.con ng1 (.con m44 (.con ic10 (.con nf2 (.con iml (.conZ m68 (iq Tryz.func98 bw (iq Tryz.func141 bw (iq Tryz.func99 bw (iq Tryz.func52 bw (iq Tryz.func187 bw (iq Tryz.func243 bw (iq Tryz.func92 bw (iq Tryz.func5 bw (iq Tryz.func8 bw (iq Tryz.func10 bw (iq Tryz.func11 bw (iq Tryz.func12 bw (iq Tryz.func13 bw (iq Tryz.func14 bw (iq Tryz.func17 bw (iq Tryz.func18 bw (iq Tryz.func19 bw (iq Tryz.func20 bw (iq Tryz.func44 bw (iq Tryz.func24 bw (iq Tryz.func25 bw (iq Tryz.func93 bw (iq Tryz.func94 bw (iq Tryz.func64 bw (iq Tryz.func28 bw (iq Tryz.func30 bw (iq Tryz.func32 bw (iq Tryz.func43 bw (iq Tryz.func53 bw (iq Tryz.func73 bw (iq Tryz.func72 bw (iq Tryz.func67 bw (iq Tryz.func57 bw (iq Tryz.func122 bw (iq Tryz.func126 bw (iq Tryz.func127 bw (iq Tryz.func63 bw (iq Tryz.func68 bw (iq Tryz.func71 bw (iq Tryz.func177 bw (iq Tryz.func216 bw (iq Tryz.func227 bw (iq Tryz.func228 bw (.nil))))))))))))))))))))))))))))))))))))))))))))))))))))))))))
def aba:aE:=gM [(al ana [.agg [.str ⟨#[104,101,97,100]⟩,A 0,A 1,A 8000,A 60000,A 500,A 50,A 2,A 4,A 3,A 5,A 100000,A 200,A 0],.agg J5],.agg [A 8000,A 8000])]
theorem aoJ:(vP aba).Ok Tryz.prog 95:=dH (sf:=hc2) ard Tryz.func95 bw bw
def aus:bm:=(95,.con aba)::ctK
theorem Srt:aZ Tryz.prog Bs C3 aus:=.con aoJ ard
def ac0:aE:=gM [(al aoQ [rX],A 8000)]
theorem aoP:(vP ac0).Ok Tryz.prog 26:=dH (sf:=fm5) Srt Tryz.func26 bw bw
def amZ:bm:=(26,.con ac0)::aus
theorem sW:aZ Tryz.prog Bs C3 amZ:=.con aoP Srt
def afT:aE:=gM [(al S3 [.agg [A 0,A 1],A (-4000),A 4000,A 0,A 8000],A5)]
theorem nm2:(vP afT).Ok Tryz.prog 46:=dH (sf:=CN) sW Tryz.func46 bw bw
abbrev Gd:=[A 0,A 0,A 0,A 0]
def avn:aE:=gM [(al S3 [.agg [A 0,A 1],A 0,A 0,A 0,A 0],.agg Gd)]
theorem yan:(vP avn).Ok Tryz.prog 46:=dH (sf:=CN) sW Tryz.func46 bw bw
def amX:aE:=gM [(al S3 [.agg [A 0,A 1],A (-4000),A (-4000),A 0,A 0],By)]
theorem wrE:(vP amX).Ok Tryz.prog 46:=dH (sf:=CN) sW Tryz.func46 bw bw
def adX:aE:=eW afT (eW avn (amX))
theorem atp:(vP adX).Ok Tryz.prog 46:=bJ nm2 (bJ yan (wrE))
def apM:bm:=(46,.con adX)::amZ
theorem e9:aZ Tryz.prog Bs C3 apM:=.con atp sW
abbrev F5:=[A 300,A 300]
abbrev Ff:=[A 300,A 475]
def ah2:aE:=gM [(al nu [.agg F5,.sl 3 λ|0=>[A 450,A 450]|1=>[A 312,A 313]|_=>[A 475,A 475]],.agg Ff)]
theorem inT:(vP ah2).Ok Tryz.prog 124:=dH (sf:=iS) e9 Tryz.func124 bw bw
def am4:aE:=gM [(al nu [.agg Ff,.sl 1 λ_=>F5],.agg Ff)]
theorem iw0:(vP am4).Ok Tryz.prog 124:=dH (sf:=iS) e9 Tryz.func124 bw bw
def ai5:aE:=gM [(al nu [.agg Ff,.sl 1 λ_=>[A 450,A 450]],.agg Ff)]
theorem iw1:(vP ai5).Ok Tryz.prog 124:=dH (sf:=iS) e9 Tryz.func124 bw bw
def alB:aE:=gM [(al nu [.agg Ff,.sl 1 λ_=>[A 312,A 313]],.agg Ff)]
theorem ig0:(vP alB).Ok Tryz.prog 124:=dH (sf:=iS) e9 Tryz.func124 bw bw
def ah4:aE:=gM [(al nu [.agg Ff,.sl 1 λ_=>[A 475,A 475]],.agg Ff)]
theorem nm7:(vP ah4).Ok Tryz.prog 124:=dH (sf:=iS) e9 Tryz.func124 bw bw
abbrev Fg:=[A 400,A 400]
def atC:aE:=gM [(al nu [.agg Ff,.sl 1 λ_=>Fg],.agg Ff)]
theorem ne6:(vP atC).Ok Tryz.prog 124:=dH (sf:=iS) e9 Tryz.func124 bw bw
def aur:aE:=gM [(al nu [.agg Ff,.sl 1 λ_=>[A 600,A 600]],.agg [A 300,A 600])]
theorem yai:(vP aur).Ok Tryz.prog 124:=dH (sf:=iS) e9 Tryz.func124 bw bw
def am0:aE:=gM [(al nu [.agg Fg,.sl 3 λ|0=>Fg|1=>Fg|_=>Fg],.agg Fg)]
theorem m66:(vP am0).Ok Tryz.prog 124:=dH (sf:=iS) e9 Tryz.func124 bw bw
def ahd:aE:=gM [(al nu [.agg Fg,.sl 1 λ_=>Fg],.agg Fg)]
theorem wnT:(vP ahd).Ok Tryz.prog 124:=dH (sf:=iS) e9 Tryz.func124 bw bw
abbrev FC:=[A 700,A 700]
def afN:aE:=gM [(al nu [.agg FC,.sl 3 λ|0=>FC|1=>FC|_=>FC],.agg FC)]
theorem mmV:(vP afN).Ok Tryz.prog 124:=dH (sf:=iS) e9 Tryz.func124 bw bw
def aOp:aE:=gM [(al nu [.agg FC,.sl 1 λ_=>FC],.agg FC)]
theorem i18:(vP aOp).Ok Tryz.prog 124:=dH (sf:=iS) e9 Tryz.func124 bw bw
def NuN:aE:=gM [(al nu [.agg F5,.sl 3 λ|0=>F5|1=>F5|_=>F5],.agg F5)]
theorem hvu:(vP NuN).Ok Tryz.prog 124:=dH (sf:=iS) e9 Tryz.func124 bw bw
def R54:aE:=gM [(al nu [.agg F5,.sl 1 λ_=>F5],.agg F5)]
theorem hrs:(vP R54).Ok Tryz.prog 124:=dH (sf:=iS) e9 Tryz.func124 bw bw
def aaw:aE:=eW ah2 (eW am4 (eW ai5 (eW alB (eW ah4 (eW atC (eW aur (eW am0 (eW ahd (eW afN (eW aOp (eW NuN (R54))))))))))))
theorem ap0:(vP aaw).Ok Tryz.prog 124:=bJ inT (bJ iw0 (bJ iw1 (bJ ig0 (bJ nm7 (bJ ne6 (bJ yai (bJ m66 (bJ wnT (bJ mmV (bJ i18 (bJ hvu (hrs))))))))))))
def ajT:bm:=(124,.con aaw)::apM
theorem lI:aZ Tryz.prog Bs C3 ajT:=.con ap0 e9
def amD:aE:=gM [(al Ao [ze,A (-4000000)],A 0)]
theorem ne4:(vP amD).Ok Tryz.prog 178:=dH (sf:=r5) lI Tryz.func178 bw bw
def ajw:aE:=gM [(al Ao [Jy,A 0],A 0)]
theorem jct:(vP ajw).Ok Tryz.prog 178:=dH (sf:=r5) lI Tryz.func178 bw bw
def apg:aE:=gM [(al Ao [Jy,A 8000000],A 0)]
theorem ovA:(vP apg).Ok Tryz.prog 178:=dH (sf:=r5) lI Tryz.func178 bw bw
def auD:aE:=gM [(al Ao [ze,A 4000000],A 1)]
theorem ic9:(vP auD).Ok Tryz.prog 178:=dH (sf:=r5) lI Tryz.func178 bw bw
def acX:aE:=gM [(al Ao [ze,A 0],A 1)]
theorem jf4:(vP acX).Ok Tryz.prog 178:=dH (sf:=r5) lI Tryz.func178 bw bw
def at1:aE:=gM [(al Ao [C9,A 0],A 0)]
theorem ie2:(vP at1).Ok Tryz.prog 178:=dH (sf:=r5) lI Tryz.func178 bw bw
def ab6:aE:=eW amD (eW ajw (eW apg (eW auD (eW acX (at1)))))
theorem atJ:(vP ab6).Ok Tryz.prog 178:=bJ ne4 (bJ jct (bJ ovA (bJ ic9 (bJ jf4 (ie2)))))
def amV:bm:=(178,.con ab6)::ajT
theorem iQ:aZ Tryz.prog Bs C3 amV:=.con atJ lI
def ahz:aE:=gM [(al vz [A 0,uu,.pd [A 0],.pd [A 0]],.agg [A 200,A 200])]
theorem yab:(vP ahz).Ok Tryz.prog 179:=dH (sf:=ow) iQ Tryz.func179 bw bw
def auO:aE:=gM [(al vz [A 1,uu,.pd [A 0],.pd [A 0]],.agg Fg)]
theorem jmp:(vP auO).Ok Tryz.prog 179:=dH (sf:=ow) iQ Tryz.func179 bw bw
def afl:aE:=gM [(al vz [A 0,uu,.pd [A 0],.pd [A 8000000]],.agg F5)]
theorem m24:(vP afl).Ok Tryz.prog 179:=dH (sf:=ow) iQ Tryz.func179 bw bw
def aeb:aE:=gM [(al vz [A 1,uu,.pd [A 0],.pd [A 8000000]],.agg [A 600,A 600])]
theorem qhi:(vP aeb).Ok Tryz.prog 179:=dH (sf:=ow) iQ Tryz.func179 bw bw
def avh:aE:=gM [(al vz [A 2,uu,.pd [A 0],.pd [A 0]],.agg [A 50,A 50])]
theorem obs:(vP avh).Ok Tryz.prog 179:=dH (sf:=ow) iQ Tryz.func179 bw bw
def alP:aE:=gM [(al vz [A 2,uu,.pd [A 0],.pd [A 8000000]],.agg [A 100,A 100])]
theorem wm2:(vP alP).Ok Tryz.prog 179:=dH (sf:=ow) iQ Tryz.func179 bw bw
def auG:aE:=gM [(al vz [A 0,dAt,.pd [A 0],.pd [A 0]],.agg FC)]
theorem nz4:(vP auG).Ok Tryz.prog 179:=dH (sf:=ow) iQ Tryz.func179 bw bw
def aeV:aE:=gM [(al vz [A 1,dAt,.pd [A 0],.pd [A 0]],.agg FC)]
theorem ip0:(vP aeV).Ok Tryz.prog 179:=dH (sf:=ow) iQ Tryz.func179 bw bw
def abE:aE:=eW ahz (eW auO (eW afl (eW aeb (eW avh (eW alP (eW auG (aeV)))))))
theorem aqD:(vP abE).Ok Tryz.prog 179:=bJ yab (bJ jmp (bJ m24 (bJ qhi (bJ obs (bJ wm2 (bJ nz4 (ip0)))))))
def afx:bm:=(179,.con abE)::amV
theorem tc:aZ Tryz.prog Bs C3 afx:=.con aqD iQ
def abU:aE:=gM [(al Qc [GO,A 0,Cd],.tup Dj)]
theorem aoR:(vP abU).Ok Tryz.prog 58:=dH (sf:=Ul) tc Tryz.func58 bw bw
def abc:aE:=gM [(al Qc [GO,A 0,.agg Gd],.tup Dj)]
theorem aqx:(vP abc).Ok Tryz.prog 58:=dH (sf:=Ul) tc Tryz.func58 bw bw
def adD:aE:=gM [(al Qc [GO,A 0,Bo],.tup Dj)]
theorem arE:(vP adD).Ok Tryz.prog 58:=dH (sf:=Ul) tc Tryz.func58 bw bw
def K17:aE:=eW abU (eW abc (adD))
theorem fx13:(vP K17).Ok Tryz.prog 58:=bJ aoR (bJ aqx (arE))
def abC:bm:=(58,.con K17)::afx
theorem Bl:aZ Tryz.prog Bs C3 abC:=.con fx13 tc
def auA:aE:=gM [(al Nk [Gt,Cd],A5)]
theorem k17:(vP auA).Ok Tryz.prog 56:=dH (sf:=CO) Bl Tryz.func56 bw bw
def am2:aE:=gM [(al Nk [Gt,.agg Gd],.agg Gd)]
theorem iw5:(vP am2).Ok Tryz.prog 56:=dH (sf:=CO) Bl Tryz.func56 bw bw
def aht:aE:=gM [(al Nk [Gt,Bo],By)]
theorem iz7:(vP aht).Ok Tryz.prog 56:=dH (sf:=CO) Bl Tryz.func56 bw bw
def adF:aE:=eW auA (eW am2 (aht))
theorem anh:(vP adF).Ok Tryz.prog 56:=bJ k17 (bJ iw5 (iz7))
def ahk:bm:=(56,.con adF)::abC
theorem sV:aZ Tryz.prog Bs C3 ahk:=.con anh Bl
def ajQ:aE:=gM [(al Ti [rX,Cd,A 11,A 75],.agg [A 11,A 75])]
theorem mrg:(vP ajQ).Ok Tryz.prog 33:=dH (sf:=BN) sV Tryz.func33 bw bw
def ag1:aE:=gM [(al Ti [rX,.agg Gd,A 3500,A 3500],.agg [A 3500,A 3500])]
theorem nc8:(vP ag1).Ok Tryz.prog 33:=dH (sf:=BN) sV Tryz.func33 bw bw
def avZ:aE:=gM [(al Ti [rX,Bo,A 26,A 27],.agg [A 26,A 27])]
theorem if7:(vP avZ).Ok Tryz.prog 33:=dH (sf:=BN) sV Tryz.func33 bw bw
def abQ:aE:=eW ajQ (eW ag1 (avZ))
theorem ann:(vP abQ).Ok Tryz.prog 33:=bJ mrg (bJ nc8 (if7))
def auK:bm:=(33,.con abQ)::ahk
theorem ka:aZ Tryz.prog Bs C3 auK:=.con ann sV
def atV:aE:=gM [(al yK [oN,A (-4000000),A 0],.agg F5)]
theorem ie5:(vP atV).Ok Tryz.prog 125:=dH (sf:=qb) ka Tryz.func125 bw bw
def auI:aE:=gM [(al yK [oN,A (-4000000),A 8000000],.agg [A 450,A 450])]
theorem if0:(vP auI).Ok Tryz.prog 125:=dH (sf:=qb) ka Tryz.func125 bw bw
def auq:aE:=gM [(al yK [oN,A 4000000,A 0],.agg [A 312,A 313])]
theorem jf6:(vP auq).Ok Tryz.prog 125:=dH (sf:=qb) ka Tryz.func125 bw bw
def arb:aE:=gM [(al yK [oN,A 4000000,A 8000000],.agg [A 475,A 475])]
theorem opW:(vP arb).Ok Tryz.prog 125:=dH (sf:=qb) ka Tryz.func125 bw bw
def akd:aE:=gM [(al yK [oN,A 0,A 0],.agg Fg)]
theorem ix4:(vP akd).Ok Tryz.prog 125:=dH (sf:=qb) ka Tryz.func125 bw bw
def aen:aE:=gM [(al yK [oN,A 0,A 8000000],.agg [A 600,A 600])]
theorem nh6:(vP aen).Ok Tryz.prog 125:=dH (sf:=qb) ka Tryz.func125 bw bw
def ahF:aE:=gM [(al yK [hX',A 0,A 0],.agg FC)]
theorem ty2:(vP ahF).Ok Tryz.prog 125:=dH (sf:=qb) ka Tryz.func125 bw bw
def adT:aE:=eW atV (eW auI (eW auq (eW arb (eW akd (eW aen (ahF))))))
theorem anQ:(vP adT).Ok Tryz.prog 125:=bJ ie5 (bJ if0 (bJ jf6 (bJ opW (bJ ix4 (bJ nh6 (ty2))))))
def aio:bm:=(125,.con adT)::auK
theorem pk:aZ Tryz.prog Bs C3 aio:=.con anQ ka
def asD:aE:=gM [(al Cl [oN,A5],.agg [A 300,A 600])]
theorem ntF:(vP asD).Ok Tryz.prog 66:=dH (sf:=xH) pk Tryz.func66 bw bw
def auu:aE:=gM [(al Cl [oN,.agg Gd],.agg Fg)]
theorem x12:(vP auu).Ok Tryz.prog 66:=dH (sf:=xH) pk Tryz.func66 bw bw
def ad3:aE:=gM [(al Cl [hX',.agg Gd],.agg FC)]
theorem t44:(vP ad3).Ok Tryz.prog 66:=dH (sf:=xH) pk Tryz.func66 bw bw
def af5:aE:=gM [(al Cl [oN,By],.agg F5)]
theorem hno0:(vP af5).Ok Tryz.prog 66:=dH (sf:=xH) pk Tryz.func66 bw bw
def adx:aE:=eW asD (eW auu (eW ad3 (af5)))
theorem apW:(vP adx).Ok Tryz.prog 66:=bJ ntF (bJ x12 (bJ t44 (hno0)))
def afC:bm:=(66,.con adx)::aio
theorem F72:aZ Tryz.prog Bs C3 afC:=.con apW pk
def aaV:aE:=gM [(al aiR [.agg [xL,w8],A 1,.agg Gd,A 8000],.tup [.agg FC,A 0])]
theorem at7:(vP aaV).Ok Tryz.prog 45:=dH (sf:=ajR) F72 Tryz.func45 bw bw
def ae5:bm:=(45,.con aaV)::afC
theorem tn:aZ Tryz.prog Bs C3 ae5:=.con at7 F72
def ahq:aE:=gM [(al G8 [.agg [xL,w8],A 0,.agg J5,A5,A 8000],.tup [.agg [A 2400,A 4800],A 0])]
theorem yaK:(vP ahq).Ok Tryz.prog 55:=dH (sf:=BP) tn Tryz.func55 bw bw
def ajd:aE:=gM [(al G8 [.agg [xL,w8],A 0,.agg J5,.agg Gd,A 8000],.tup [.agg [A 3200,A 3200],A 0])]
theorem iu7:(vP ajd).Ok Tryz.prog 55:=dH (sf:=BP) tn Tryz.func55 bw bw
def yaH:aE:=gM [(al G8 [.agg [xL,w8],A 0,.agg J5,By,A 8000],.tup [.agg [A 2400,A 2400],A 0])]
theorem nx6:(vP yaH).Ok Tryz.prog 55:=dH (sf:=BP) tn Tryz.func55 bw bw
def adv:aE:=eW ahq (eW ajd (yaH))
theorem apH:(vP adv).Ok Tryz.prog 55:=bJ yaK (bJ iu7 (nx6))
def yaJ:bm:=(55,.con adv)::ae5
theorem tQ:aZ Tryz.prog Bs C3 yaJ:=.con apH tn
def ae1:aE:=gM [(al Ft [rX,Cd,A 8000],.agg [A 2400,A 4800])]
theorem in1:(vP ae1).Ok Tryz.prog 27:=dH (sf:=A3) tQ Tryz.func27 bw bw
def aiN:aE:=gM [(al Ft [rX,.agg Gd,A 8000],.agg [A 3200,A 3200])]
theorem ih8:(vP aiN).Ok Tryz.prog 27:=dH (sf:=A3) tQ Tryz.func27 bw bw
def auz:aE:=gM [(al Ft [rX,Bo,A 8000],.agg [A 2400,A 2400])]
theorem id1:(vP auz).Ok Tryz.prog 27:=dH (sf:=A3) tQ Tryz.func27 bw bw
def acY:aE:=eW ae1 (eW aiN (auz))
theorem ars:(vP acY).Ok Tryz.prog 27:=bJ in1 (bJ ih8 (id1))
def ix1:bm:=(27,.con acY)::yaJ
theorem hux:aZ Tryz.prog Bs C3 ix1:=.con ars tQ
def adG:aE:=bP [] (λ_=>True) λ_=>.bool true
theorem agC:(vP adG).Ok Tryz.prog 7:=GJ (J:=JJ) (un:=uB) (sf:=ajx) hux hE hI Tryz.func7 bw bw bw rfl (λw0 ds hp=>zx bw)
def hdr:bm:=(7,.con adG)::(5,.con ad2)::yaR
theorem aiv:aZ Tryz.prog Bs C3 hdr:=.con agC (.con ahn (wOf))
def MW:RT Empty:=.obp (aD H (D ap G)/\aD T (D B4 O)/\aD n5 (D bd q)/\aD Pq (D aV Pp)) (.obt (.obp (aD H (D ap G)/\aD T (D B4 O)/\aD n5 (D bd q)/\aD Pq (D aV Pp)) (.obt (.ii (.obi (.br (bif zC (fB (ko H (D ap G) T (D B4 O) Q n5 (D bd q) n7 (D bq f7) n9 (D bu f9) Pq (D aV Pp) QE (D L Q3) QH (D cI Q5)) Py QS QM QK) (iM H (D ap G) T (D B4 O) n5 (D bd q) n7 (D bq f7) n9 (D bu f9) Pq (D aV Pp) (D L Q3) (D cI Q5) Py QS QM QK QE)==zC (fB (ko H (D ap G) T (D B4 O) Q n5 (D bd q) n7 (D bq f7) n9 (D bu f9) Pq (D aV Pp) QE (D L Q3) QH (D cI Q5)) Py QS QM QK) (iM H (D ap G) T (D B4 O) n5 (D bd q) n7 (D bq f7) n9 (D bu f9) Pq (D aV Pp) (D L Q3) (D cI Q5) Py QS QM QK QE)&&(zC (fB (ko H (D ap G) T (D B4 O) Q n5 (D bd q) n7 (D bq f7) n9 (D bu f9) Pq (D aV Pp) QE (D L Q3) QH (D cI Q5)) Py QS QM QK) (iZ H (D ap G) T (D B4 O) n5 (D bd q) n7 (D bq f7) n9 (D bu f9) Pq (D aV Pp) (D L Q3) (D cI Q5) Py QS QM QK QE)==zC (fB (ko H (D ap G) T (D B4 O) Q n5 (D bd q) n7 (D bq f7) n9 (D bu f9) Pq (D aV Pp) QE (D L Q3) QH (D cI Q5)) Py QS QM QK) (iZ H (D ap G) T (D B4 O) n5 (D bd q) n7 (D bq f7) n9 (D bu f9) Pq (D aV Pp) (D L Q3) (D cI Q5) Py QS QM QK QE)&&true) then fB (ko H (D ap G) T (D B4 O) Q n5 (D bd q) n7 (D bq f7) n9 (D bu f9) Pq (D aV Pp) QE (D L Q3) QH (D cI Q5)) Py QS QM QK==fB (ko H (D ap G) T (D B4 O) Q n5 (D bd q) n7 (D bq f7) n9 (D bu f9) Pq (D aV Pp) QE (D L Q3) QH (D cI Q5)) Py QS QM QK else false) (.cb (.ret (V.bool true))) (.ret (V.kb false))))))))
theorem if9:cY cZ (aQ JJ hdr u0 aiz [V.agg [V.sl H (D ap G),V.sl T (D B4 O),A Q,V.sl n5 (D bd q),V.sl n7 (D bq f7),V.sl n9 (D bu f9),V.sl Pq (D aV Pp),V.sl QE (D L Q3),V.sl QH (D cI Q5)],V.agg [A Py,A QS,A QM,A QK]]) (MW H G T O Q n5 q n7 f7 n9 f9 Pq Pp QE Q3 QH Q5 Py QS QM QK):=bD
def KX:Bool:=bif bif zC (fB (ko H (D ap G) T (D B4 O) Q n5 (D bd q) n7 (D bq f7) n9 (D bu f9) Pq (D aV Pp) QE (D L Q3) QH (D cI Q5)) Py QS QM QK) (iM H (D ap G) T (D B4 O) n5 (D bd q) n7 (D bq f7) n9 (D bu f9) Pq (D aV Pp) (D L Q3) (D cI Q5) Py QS QM QK QE)==zC (fB (ko H (D ap G) T (D B4 O) Q n5 (D bd q) n7 (D bq f7) n9 (D bu f9) Pq (D aV Pp) QE (D L Q3) QH (D cI Q5)) Py QS QM QK) (iM H (D ap G) T (D B4 O) n5 (D bd q) n7 (D bq f7) n9 (D bu f9) Pq (D aV Pp) (D L Q3) (D cI Q5) Py QS QM QK QE)&&(zC (fB (ko H (D ap G) T (D B4 O) Q n5 (D bd q) n7 (D bq f7) n9 (D bu f9) Pq (D aV Pp) QE (D L Q3) QH (D cI Q5)) Py QS QM QK) (iZ H (D ap G) T (D B4 O) n5 (D bd q) n7 (D bq f7) n9 (D bu f9) Pq (D aV Pp) (D L Q3) (D cI Q5) Py QS QM QK QE)==zC (fB (ko H (D ap G) T (D B4 O) Q n5 (D bd q) n7 (D bq f7) n9 (D bu f9) Pq (D aV Pp) QE (D L Q3) QH (D cI Q5)) Py QS QM QK) (iZ H (D ap G) T (D B4 O) n5 (D bd q) n7 (D bq f7) n9 (D bu f9) Pq (D aV Pp) (D L Q3) (D cI Q5) Py QS QM QK QE)&&true) then fB (ko H (D ap G) T (D B4 O) Q n5 (D bd q) n7 (D bq f7) n9 (D bu f9) Pq (D aV Pp) QE (D L Q3) QH (D cI Q5)) Py QS QM QK==fB (ko H (D ap G) T (D B4 O) Q n5 (D bd q) n7 (D bq f7) n9 (D bu f9) Pq (D aV Pp) QE (D L Q3) QH (D cI Q5)) Py QS QM QK else false then true else false
def Ia:V:=.bool (KX H G T O Q n5 q n7 f7 n9 f9 Pq Pp QE Q3 QH Q5 Py QS QM QK)
theorem agh (hp:aD H G/\aD T O/\aD n5 q/\aD Pq Pp):aT cM (MW H G T O Q n5 q n7 f7 n9 f9 Pq Pp QE Q3 QH Q5 Py QS QM QK) (Ia H G T O Q n5 q n7 f7 n9 f9 Pq Pp QE Q3 QH Q5 Py QS QM QK):=aI (by first|assumption|(exact hp)) (ac (aI (by first|assumption|(exact hp)) (ac (B1 (B1 (B1 (C2 (λh0=>ao (ac (B5 (by unfold Ia KX;try rw[h0];rfl)))) (λh0=>B5 (by unfold Ia KX;try rw[h0];rfl)))))))))
theorem ig9:KX H G T O Q n5 q n7 f7 n9 f9 Pq Pp QE Q3 QH Q5 Py QS QM QK=true:=by unfold KX;simp only[BEq.rfl,bne_self_eq_false,cond_true,cond_false,JW,HM,K6]
theorem rdC (hp:aD H G/\aD T O/\aD n5 q/\aD Pq Pp):aT cM (MW H G T O Q n5 q n7 f7 n9 f9 Pq Pp QE Q3 QH Q5 Py QS QM QK) (.bool true):=by have h:=agh H G T O Q n5 q n7 f7 n9 f9 Pq Pp QE Q3 QH Q5 Py QS QM QK hp;unfold Ia at h;rw[ig9 H G T O Q n5 q n7 f7 n9 f9 Pq Pp QE Q3 QH Q5 Py QS QM QK]at h;exact h
def tys1003:List Ty:=[.agg [.sl ap,.sl B4,tI,.sl bd,.sl bq,.sl bu,.sl aV,.sl L,.sl cI],.agg gV]
theorem ok1003:(vP (lawC tys1003)).Ok Tryz.prog 3:=PE aiv Tryz.func3 bw λds hp=>da (if9 ..) (rdC _ _ _ _ _ _ _ _ _ _ _ _ _ _ _ _ _ _ _ _ _ (by have h:iI [.agg [.sl ap,.sl B4,tI,.sl bd,.sl bq,.sl bu,.sl aV,.sl L,.sl cI],.agg gV] _:=hp;exact⟨λi hi=>(h.1.1 i hi).1,λi hi=>(h.1.2.1 i hi).1,λi hi=>(h.1.2.2.2.1 i hi).1,λi hi=>(h.1.2.2.2.2.2.2.1 i hi).1⟩))
end
end Go.Dx
