/- Part 6 of a proof. No conditions. -/
import Derived.Test.YtefgedeiipggkaaGreatDoorLx5
set_option maxRecDepth 100000
set_option linter.unusedVariables false
set_option linter.unusedSimpArgs false
namespace Go.Dx
open Go.IntKind (i64 u64 u8)
open Go.Sx Go.Proofs
variable (H:Nat) (G:be) (S:Int) (s0:ByteArray) (R:Int) (T:Nat) (O:be) (W U Q:Int) (n5:Nat) (q:be) (x5 x6:Int) (n7:Nat) (f7:be) (Z Y:Int) (n9:Nat) (f9:be) (x9:Int) (Pq:Nat) (Pp:be) (QE:Nat) (Q3:be) (QH:Nat) (Q5:be) (Py QS QM QK:Int)
noncomputable section
def Ez:bm:=(59,.con ach)::(23,.con acL)::AK
theorem B8:aZ Tryz.prog Bs C3 Ez:=.con aj2 (.con azr (Fv))
def ko:Int:=iW H (D ap G) T (D B4 O) Q n5 (D bd q) n7 (D bq f7) n9 (D bu f9) Pq (D aV Pp) QE (D L Q3) QH (D cI Q5)
def TQ:RT Empty:=.obp ((aD H G)/\(aD T O)/\(aD n5 q)/\aD Pq Pp) (.obt (.ret (A (iW H (D ap G) T (D B4 O) Q n5 (D bd q) n7 (D bq f7) n9 (D bu f9) Pq (D aV Pp) QE (D L Q3) QH (D cI Q5)))))
theorem iw4:cY cZ (aQ JJ Ez u0 hb2 [V.agg [V.sl H (D ap G),V.sl T (D B4 O),A Q,V.sl n5 (D bd q),V.sl n7 (D bq f7),V.sl n9 (D bu f9),V.sl Pq (D aV Pp),V.sl QE (D L Q3),V.sl QH (D cI Q5)]]) (TQ H G T O Q n5 q n7 f7 n9 f9 Pq Pp QE Q3 QH Q5):=bD
def fza26:Int:=iW H (D ap G) T (D B4 O) Q n5 (D bd q) n7 (D bq f7) n9 (D bu f9) Pq (D aV Pp) QE (D L Q3) QH (D cI Q5)
theorem hz0 (hp:aD H G/\aD T O/\aD n5 q/\aD Pq Pp):aT cM (TQ H G T O Q n5 q n7 f7 n9 f9 Pq Pp QE Q3 QH Q5) (A (ko H G T O Q n5 q n7 f7 n9 f9 Pq Pp QE Q3 QH Q5)):=aI hp (ac (B5 rfl))
theorem aiZ (hp:aD H (D ap G)/\aD T (D B4 O)/\aD n5 (D bd q)/\aD Pq (D aV Pp)):aT cM (TQ H G T O Q n5 q n7 f7 n9 f9 Pq Pp QE Q3 QH Q5) (A (ko H (D ap G) T (D B4 O) Q n5 (D bd q) n7 (D bq f7) n9 (D bu f9) Pq (D aV Pp) QE (D L Q3) QH (D cI Q5))):=hz0 H G T O Q n5 q n7 f7 n9 f9 Pq Pp QE Q3 QH Q5 hp
def abr:aE:=bP [.agg [.sl ap,.sl B4,tI,.sl bd,.sl bq,.sl bu,.sl aV,.sl L,.sl cI]] (λ
 |[.agg [.sl H G,.sl T O,.int _ Q,.sl n5 q,.sl n7 f7,.sl n9 f9,.sl Pq Pp,.sl QE Q3,.sl QH Q5]]=>aD H G/\aD T O/\aD n5 q/\aD Pq Pp|_=>False) λ
 |[.agg [.sl H G,.sl T O,.int _ Q,.sl n5 q,.sl n7 f7,.sl n9 f9,.sl Pq Pp,.sl QE Q3,.sl QH Q5]]=>A (ko H G T O Q n5 q n7 f7 n9 f9 Pq Pp QE Q3 QH Q5)|_=>.any
theorem amO:b9 abr 10:=aU B8 λ_ hp=>da (iw4 ..) (aiZ _ _ _ _ _ _ _ _ _ _ _ _ _ _ _ _ _ hp)
def PH:RT Empty:=.obp ((aD H G)/\(aD T O)/\(aD n5 q)/\aD Pq Pp) (.obt (.ret (A (iW H (D ap G) T (D B4 O) Q n5 (D bd q) n7 (D bq f7) n9 (D bu f9) Pq (D aV Pp) QE (D L Q3) QH (D cI Q5)))))
theorem its:cY cZ (aQ JJ Ez u0 afv [V.agg [V.sl H (D ap G),V.sl T (D B4 O),A Q,V.sl n5 (D bd q),V.sl n7 (D bq f7),V.sl n9 (D bu f9),V.sl Pq (D aV Pp),V.sl QE (D L Q3),V.sl QH (D cI Q5)]]) (PH H G T O Q n5 q n7 f7 n9 f9 Pq Pp QE Q3 QH Q5):=bD
def evRet:Int:=iW H (D ap G) T (D B4 O) Q n5 (D bd q) n7 (D bq f7) n9 (D bu f9) Pq (D aV Pp) QE (D L Q3) QH (D cI Q5)
theorem hvs (hp:aD H G/\aD T O/\aD n5 q/\aD Pq Pp):aT cM (PH H G T O Q n5 q n7 f7 n9 f9 Pq Pp QE Q3 QH Q5) (A (ko H G T O Q n5 q n7 f7 n9 f9 Pq Pp QE Q3 QH Q5)):=aI hp (ac (B5 rfl))
theorem amL (hp:aD H (D ap G)/\aD T (D B4 O)/\aD n5 (D bd q)/\aD Pq (D aV Pp)):aT cM (PH H G T O Q n5 q n7 f7 n9 f9 Pq Pp QE Q3 QH Q5) (A (ko H (D ap G) T (D B4 O) Q n5 (D bd q) n7 (D bq f7) n9 (D bu f9) Pq (D aV Pp) QE (D L Q3) QH (D cI Q5))):=hvs H G T O Q n5 q n7 f7 n9 f9 Pq Pp QE Q3 QH Q5 hp
def acr:aE:=bP [.agg [.sl ap,.sl B4,tI,.sl bd,.sl bq,.sl bu,.sl aV,.sl L,.sl cI]] (λ
 |[.agg [.sl H G,.sl T O,.int _ Q,.sl n5 q,.sl n7 f7,.sl n9 f9,.sl Pq Pp,.sl QE Q3,.sl QH Q5]]=>aD H G/\aD T O/\aD n5 q/\aD Pq Pp|_=>False) λ
 |[.agg [.sl H G,.sl T O,.int _ Q,.sl n5 q,.sl n7 f7,.sl n9 f9,.sl Pq Pp,.sl QE Q3,.sl QH Q5]]=>A (ko H G T O Q n5 q n7 f7 n9 f9 Pq Pp QE Q3 QH Q5)|_=>.any
theorem ae4:b9 acr 34:=aU B8 λ_ hp=>da (its ..) (amL _ _ _ _ _ _ _ _ _ _ _ _ _ _ _ _ _ hp)
def aa0:RT Empty:=.cb (.iv (.iv (.ii (.ret (V.bool (bif bif tJ 4 (D L (b5 [A S,A W,A R,A U] 0 1)) then decide (S<=W) else false then decide (R<=U) else false))))))
theorem m18:cY cZ (aQ JJ Ez u0 f26 [V.agg [A S,A R,A W,A U]]) (aa0 S R W U):=bD
def iT:Bool:=bif bif tJ 4 (D L (b5 [A S,A W,A R,A U] 0 1)) then decide (S<=W) else false then decide (R<=U) else false
def Rx:V:=.bool (iT S R W U)
theorem afG:aT cM (aa0 S R W U) (Rx S R W U):=ao (ac (B1 (B1 (B1 (B1 (B1 (B1 (B1 (B1 (B1 (B1 (B5 (by unfold Rx iT;rfl)))))))))))))
def hdy:aE:=bP [.agg gV] (λ_=>True) λ|[.agg [.int _ S,.int _ R,.int _ W,.int _ U]]=>Rx S R W U|_=>.any
theorem amf:b9 hdy 11:=aU B8 λ_ hp=>da (m18 ..) (afG _ _ _ _)
def C7:bm:=(10,.con abr)::(34,.con acr)::(11,.con hdy)::Ez
theorem BH:aZ Tryz.prog Bs C3 C7:=.con amO (.con ae4 (.con amf (B8)))
def adu:RT Empty:=dm (s0,U) (.obp ((E9 (E ((1000000:Int)*E (E (Q*Q)+E (x5*x5))))=(0:Int)->False)/\(dL (E ((1000000:Int)*E (E (Q*Q)+E (x5*x5))))=(0:Int)->False)) (.obt (.ret (V.agg [A (kP (E (x6-R)) (E (Y-R)) (E (Z-W)) (E (x9-W)) Q x5),A (kX (E (x6-R)) (E (Y-R)) (E (Z-W)) (E (x9-W)) Q x5),A (kR (E (x6-R)) (E (Y-R)) (E (Z-W)) (E (x9-W)) Q x5),A (kU (E (x6-R)) (E (Y-R)) (E (Z-W)) (E (x9-W)) Q x5)]))))
theorem x22:cY cZ (aQ JJ C7 u0 akF [V.agg [V.str s0,A R,A W,A U,A Q,A x5],V.agg [A x6,A Z,A Y,A x9]]) (adu s0 R W U Q x5 x6 Z Y x9):=bD
def jC:Int:=kP (E (x6-R)) (E (Y-R)) (E (Z-W)) (E (x9-W)) Q x5
def jH:Int:=kX (E (x6-R)) (E (Y-R)) (E (Z-W)) (E (x9-W)) Q x5
def jN:Int:=kR (E (x6-R)) (E (Y-R)) (E (Z-W)) (E (x9-W)) Q x5
def jO:Int:=kU (E (x6-R)) (E (Y-R)) (E (Z-W)) (E (x9-W)) Q x5
def RP:V:=dm (s0,U) (.agg [A (jC R W Q x5 x6 Z Y x9),A (jH R W Q x5 x6 Z Y x9),A (jN R W Q x5 x6 Z Y x9),A (jO R W Q x5 x6 Z Y x9)])
theorem afJ (hp:Ke (E (E (Q*Q)+E (x5*x5)))):aT cM (adu s0 R W U Q x5 x6 Z Y x9) (RP s0 R W U Q x5 x6 Z Y x9):=aI (by first|assumption|(exact hp)) (ac (B5 (by unfold RP jC jH jN jO;rfl)))
def acu:aE:=bP [.agg aV,.agg gV] (λ
 |[.agg [.str s0,.int _ R,.int _ W,.int _ U,.int _ Q,.int _ x5],.agg [.int _ x6,.int _ Z,.int _ Y,.int _ x9]]=>Ke (E (E (Q*Q)+E (x5*x5)))|_=>False) λ
 |[.agg [.str s0,.int _ R,.int _ W,.int _ U,.int _ Q,.int _ x5],.agg [.int _ x6,.int _ Z,.int _ Y,.int _ x9]]=>RP s0 R W U Q x5 x6 Z Y x9|_=>.any
theorem aiX:b9 acu 61:=aU BH λ_ hp=>da (x22 ..) (afJ _ _ _ _ _ _ _ _ _ _ hp)
def aaA:RT Empty:=dm (s0,U) (.obp ((((-1000:Int)<=Q/\Q<=(1000:Int))/\((-1000:Int)<=x5/\x5<=(1000:Int))/\(Q≠(0:Int)∨x5≠(0:Int)))/\((-1000000000:Int)<=E (x6-R)/\E (x6-R)<=(1000000000:Int))/\((-1000000000:Int)<=E (Y-R)/\E (Y-R)<=(1000000000:Int))/\((-1000000000:Int)<=E (Z-W)/\E (Z-W)<=(1000000000:Int))/\(-1000000000:Int)<=E (x9-W)/\E (x9-W)<=(1000000000:Int)) (.obt (.ret (V.agg [A (kP (E (x6-R)) (E (Y-R)) (E (Z-W)) (E (x9-W)) Q x5),A (kX (E (x6-R)) (E (Y-R)) (E (Z-W)) (E (x9-W)) Q x5),A (kR (E (x6-R)) (E (Y-R)) (E (Z-W)) (E (x9-W)) Q x5),A (kU (E (x6-R)) (E (Y-R)) (E (Z-W)) (E (x9-W)) Q x5)]))))
theorem im0:cY cZ (aQ JJ C7 u0 CO [V.agg [V.str s0,A R,A W,A U,A Q,A x5],V.agg [A x6,A Z,A Y,A x9]]) (aaA s0 R W U Q x5 x6 Z Y x9):=bD
def fzb17:Int:=kP (E (x6-R)) (E (Y-R)) (E (Z-W)) (E (x9-W)) Q x5
def fza13:Int:=kX (E (x6-R)) (E (Y-R)) (E (Z-W)) (E (x9-W)) Q x5
def fzb27:Int:=kR (E (x6-R)) (E (Y-R)) (E (Z-W)) (E (x9-W)) Q x5
def iza17:Int:=kU (E (x6-R)) (E (Y-R)) (E (Z-W)) (E (x9-W)) Q x5
def jp (x:Int):Prop:=-400000000<=x/\x<=400000000
theorem Yw {a b:Int} (h:jp a) (h':jp b):Bd (E (a-b)):=by
 unfold jp at *
 unfold Bd;rw[C8 K K];omega
theorem ae6 (hp:Hd Q x5/\jp R/\jp W/\jp x6/\jp Z/\jp Y/\jp x9):aT cM (aaA s0 R W U Q x5 x6 Z Y x9) (.agg [A (jC R W Q x5 x6 Z Y x9),A (jH R W Q x5 x6 Z Y x9),A (jN R W Q x5 x6 Z Y x9),A (jO R W Q x5 x6 Z Y x9)]):=by obtain⟨hd,M,N,h6,h7,h8,h9⟩:=hp;exact aI ⟨hd,Yw h6 M,Yw h8 M,Yw h7 N,Yw h9 N⟩ (ac (B5 rfl))
def ab0:aE:=bP [.agg aV,.agg gV] (λ
 |[.agg [.str s0,.int _ R,.int _ W,.int _ U,.int _ Q,.int _ x5],.agg [.int _ x6,.int _ Z,.int _ Y,.int _ x9]]=>Hd Q x5/\jp R/\jp W/\jp x6/\jp Z/\jp Y/\jp x9|_=>False) λ
 |[.agg [.str s0,.int _ R,.int _ W,.int _ U,.int _ Q,.int _ x5],.agg [.int _ x6,.int _ Z,.int _ Y,.int _ x9]]=>.agg [A (jC R W Q x5 x6 Z Y x9),A (jH R W Q x5 x6 Z Y x9),A (jN R W Q x5 x6 Z Y x9),A (jO R W Q x5 x6 Z Y x9)]|_=>.any
theorem af1:b9 ab0 56:=aU BH λ_ hp=>da (im0 ..) (ae6 _ _ _ _ _ _ _ _ _ _ hp)
def Oe:RT Empty:=.obp ((aD H G)/\(aD T O)/\(aD n5 q)/\aD Pq Pp) (.obt (.obi (.br (ko H (D ap G) T (D B4 O) Q n5 (D bd q) n7 (D bq f7) n9 (D bu f9) Pq (D aV Pp) QE (D L Q3) QH (D cI Q5)==0) (.ob (ko H (D ap G) T (D B4 O) Q n5 (D bd q) n7 (D bq f7) n9 (D bu f9) Pq (D aV Pp) QE (D L Q3) QH (D cI Q5)==0) (.cb (.obi (.br (!!fx Py) (.ob (!!fx Py) (.cb (.obi (.br (!!fx QM) (.ob (!!fx QM) (.cb (.obi (.br (!!fx QS) (.ob (!!fx QS) (.cb (.iv (.iv (.ii (.br (bif bif !fx QK then true else decide (QM<Py) then true else decide (QK<QS)) (.ret (A 7)) (.ret (A (ko H (D ap G) T (D B4 O) Q n5 (D bd q) n7 (D bq f7) n9 (D bu f9) Pq (D aV Pp) QE (D L Q3) QH (D cI Q5)))))))))) (.ret (A 7)))))) (.ret (A 7)))))) (.ret (A 7)))))) (.ret (A (ko H (D ap G) T (D B4 O) Q n5 (D bd q) n7 (D bq f7) n9 (D bu f9) Pq (D aV Pp) QE (D L Q3) QH (D cI Q5)))))))
theorem ov2:cY cZ (aQ JJ C7 u0 aga [V.agg [V.sl H (D ap G),V.sl T (D B4 O),A Q,V.sl n5 (D bd q),V.sl n7 (D bq f7),V.sl n9 (D bu f9),V.sl Pq (D aV Pp),V.sl QE (D L Q3),V.sl QH (D cI Q5)],V.agg [A Py,A QS,A QM,A QK]]) (Oe H G T O Q n5 q n7 f7 n9 f9 Pq Pp QE Q3 QH Q5 Py QS QM QK):=bD
def fza16:Int:=bif ko H (D ap G) T (D B4 O) Q n5 (D bd q) n7 (D bq f7) n9 (D bu f9) Pq (D aV Pp) QE (D L Q3) QH (D cI Q5)==0 then bif !!fx Py then bif !!fx QM then bif !!fx QS then bif bif bif !fx QK then true else decide (QM<Py) then true else decide (QK<QS) then 7 else ko H (D ap G) T (D B4 O) Q n5 (D bd q) n7 (D bq f7) n9 (D bu f9) Pq (D aV Pp) QE (D L Q3) QH (D cI Q5) else 7 else 7 else 7 else ko H (D ap G) T (D B4 O) Q n5 (D bd q) n7 (D bq f7) n9 (D bu f9) Pq (D aV Pp) QE (D L Q3) QH (D cI Q5)
theorem aa1 (a b c d:Int):iT a b c d=(bF a (-100000) 100000&&(bF c (-100000) 100000&&(bF b (-100000) 100000&&(bF d (-100000) 100000&&(decide (a<=c)&&decide (b<=d)))))):=by
 have h:tJ 4 (D L (b5 [A a,A c,A b,A d] 0 1))=(bF a (-100000) 100000&&(bF c (-100000) 100000&&(bF b (-100000) 100000&&bF d (-100000) 100000))):=by
  show(!(decide (0<=zG 4 λii=>oo (av (D L (D L (b5 [A a,A c,A b,A d] 0 1)) ii)))))=_;rw[mA];show(!(!(dw 4 λii=>!oo (av (D L (D L (b5 [A a,A c,A b,A d] 0 1)) ii)))))=_;rw[H4,HH,uG];simp only[D2];have Pw:∀x,(!oo x)=bF x (-100000) 100000:=λx=>H4 _;constructor
  ·intro QR;exact⟨(Pw a).symm.trans (QR 0 aR),(Pw c).symm.trans (QR 1 aR),(Pw b).symm.trans (QR 2 aR),(Pw d).symm.trans (QR 3 aR)⟩
  ·rintro⟨h0,M,N,h3⟩ i hi
   match i,hi with
   |0,_=>exact(Pw a).trans h0|1,_=>exact(Pw c).trans M|2,_=>exact(Pw b).trans N|3,_=>exact(Pw d).trans h3
 unfold iT;rw[h];cases bF a (-100000) 100000<;>cases bF c (-100000) 100000<;>cases bF b (-100000) 100000<;>cases bF d (-100000) 100000<;>cases decide (a<=c)<;>cases decide (b<=d)<;>rfl
def fB (e a b c d:Int):Int:=bif e==0 then bif iT a b c d then 0 else 7 else e
theorem hvy (hp:aD H G/\aD T O/\aD n5 q/\aD Pq Pp):aT cM (Oe H G T O Q n5 q n7 f7 n9 f9 Pq Pp QE Q3 QH Q5 Py QS QM QK) (A (fB (ko H G T O Q n5 q n7 f7 n9 f9 Pq Pp QE Q3 QH Q5) Py QS QM QK)):=by
 unfold fB;rw[aa1];refine aI hp (ac (B1 (C2 (λh=>aF h (ao (ac (B1 ?_)))) (λh=>B5 (by rw[show(ko H G T O Q n5 q n7 f7 n9 f9 Pq Pp QE Q3 QH Q5==0)=false from h];rfl)))));rw[show(ko H G T O Q n5 q n7 f7 n9 f9 Pq Pp QE Q3 QH Q5==0)=true from h];have he:ko H G T O Q n5 q n7 f7 n9 f9 Pq Pp QE Q3 QH Q5=0:=EM h;refine C2 (λM=>aF M (ao (ac (B1 ?_)))) (λM=>B5 (by rw[show bF Py (-100000) 100000=false from Rp M];rfl));rw[show bF Py (-100000) 100000=true from wc M];refine C2 (λN=>aF N (ao (ac (B1 ?_)))) (λN=>B5 (by rw[show bF QM (-100000) 100000=false from Rp N];rfl));rw[show bF QM (-100000) 100000=true from wc N];refine C2 (λh3=>aF h3 (ao (ac (B1 ?_)))) (λh3=>B5 (by rw[show bF QS (-100000) 100000=false from Rp h3];rfl));rw[show bF QS (-100000) 100000=true from wc h3];refine B1 (B1 (B1 (B1 (B1 (B1 (B1 (B1 (B1 ?_))))))));have e1:decide (Py<=QM)=!decide (QM<Py):=by rw[HH];simp
 have e2:decide (QS<=QK)=!decide (QK<QS):=by rw[HH];simp
 have e3:bF QK (-100000) 100000=fx QK:=rfl;rw[e1,e2,e3];refine C2 (λh4=>B5 ?_) (λh4=>B5 ?_)
 ·cases h5:fx QK<;>cases h6:decide (QM<Py)<;>cases h7:decide (QK<QS)<;>first|rfl|(rw[h5,h6,h7]at h4;cases h4)
 ·refine congrArg (λe=>dq (A e)) (he.trans ?_);cases h5:fx QK<;>cases h6:decide (QM<Py)<;>cases h7:decide (QK<QS)<;>first|rfl|(rw[h5,h6,h7]at h4;cases h4)
theorem alo (hp:aD H (D ap G)/\aD T (D B4 O)/\aD n5 (D bd q)/\aD Pq (D aV Pp)):aT cM (Oe H G T O Q n5 q n7 f7 n9 f9 Pq Pp QE Q3 QH Q5 Py QS QM QK) (A (fB (ko H (D ap G) T (D B4 O) Q n5 (D bd q) n7 (D bq f7) n9 (D bu f9) Pq (D aV Pp) QE (D L Q3) QH (D cI Q5)) Py QS QM QK)):=hvy H G T O Q n5 q n7 f7 n9 f9 Pq Pp QE Q3 QH Q5 Py QS QM QK hp
def abw:aE:=bP [.agg [.sl ap,.sl B4,tI,.sl bd,.sl bq,.sl bu,.sl aV,.sl L,.sl cI],.agg gV] (λ
 |[.agg [.sl H G,.sl T O,.int _ Q,.sl n5 q,.sl n7 f7,.sl n9 f9,.sl Pq Pp,.sl QE Q3,.sl QH Q5],.agg [.int _ Py,.int _ QS,.int _ QM,.int _ QK]]=>aD H G/\aD T O/\aD n5 q/\aD Pq Pp|_=>False) λ
 |[.agg [.sl H G,.sl T O,.int _ Q,.sl n5 q,.sl n7 f7,.sl n9 f9,.sl Pq Pp,.sl QE Q3,.sl QH Q5],.agg [.int _ Py,.int _ QS,.int _ QM,.int _ QK]]=>A (fB (ko H G T O Q n5 q n7 f7 n9 f9 Pq Pp QE Q3 QH Q5) Py QS QM QK)|_=>.any
theorem ak2:b9 abw 15:=aU BH λ_ hp=>da (ov2 ..) (alo _ _ _ _ _ _ _ _ _ _ _ _ _ _ _ _ _ _ _ _ _ hp)
theorem NH {x k:Int} {z:Int×Int×Int} (h:(bif x != 0 then(k,(0:Int),x) else z).2.2=0):x=0/\z.2.2=0:=by
 cases hb:x !=0 with
 |true=>rw[hb]at h;rw[show x=0 from h]at hb;cases hb|false=>rw[hb]at h;exact⟨yZ hb,h⟩
structure Ng (x:List V):Prop where
 px:-100000<=aP x/\aP x<=100000
 py:-100000<=bV x/\bV x<=100000
 ph:1<=bf x/\bf x<=200
 hd:Hd (cu x) (bE x)
theorem Om {v a b:Int} (h:dC v a b=true):a<=v/\v<=b:=by
 unfold dC at h;cases M:decide (a<=v) with
 |false=>rw[M]at h;cases h|true=>rw[M]at h;exact⟨DU M,DU h⟩
theorem OS {a b:Bool} (h:(bif a then true else b)=false):a=false/\b=false:=by cases a<;>cases b<;>first|exact⟨rfl,rfl⟩|cases h
theorem axS {n:Nat} {f:be} {i:Nat} (h:cC n (D aV f) i=0):Ng (f i):=by
 unfold cC RF at h;obtain⟨_,h⟩:=lQ h aR;obtain⟨_,h⟩:=lQ h aR;unfold Me at h;obtain⟨M,h⟩:=lQ h aR;obtain⟨N,_⟩:=lQ h aR;obtain⟨M,io12⟩:=OS M;obtain⟨M,im14⟩:=OS M;obtain⟨M,hh⟩:=OS M;have M:=EF M;unfold wh at M;have hx:dC (aP (f i)) (-100000) 100000=true:=dA M 0 aR;have hy:dC (bV (f i)) (-100000) 100000=true:=dA M 1 aR;refine⟨Om hx,Om hy,Om (EF hh),Om (EF im14),Om (EF io12),?_⟩;have N:(bif cu ((f i))==0 then bE ((f i))==0 else false)=false:=N;cases hb:(cu ((f i))==0) with
 |false=>exact .inl λh=>by rw[h]at hb;cases hb
 |true=>rw[hb]at N;exact .inr λh=>by have N:(bE ((f i))==0)=false:=N;rw[h]at N;cases N
structure anO (H:Nat) (G:be) (T:Nat) (O:be) (Q:Int) (n5:Nat) (q:be) (n7:Nat) (f7:be) (n9:Nat) (f9:be) (Pq:Nat) (Pp:be) (QE:Nat) (Q3:be) (QH:Nat) (Q5:be):Prop where
 v2:Cy H G T O
 v3:adm n5 (D bd q) n7 (D bq f7) n9 (D bu f9) Pq (D aV Pp)
 sf:A2 H G Q=0
 ll:QE=Pq
 lu:QH=Pq
 tb:∀i,i<H->qU (G i)
 lm:∀i,i<T->arT H (O i)
 cl:∀i,i<Pq->Ng (Pp i)
 co:∀i,i<Pq->u7 G T O Q3 Q5 i=0
theorem aaO {H:Nat} {G:be} {T:Nat} {O:be} {Q:Int} {n5:Nat} {q:be} {n7:Nat} {f7:be} {n9:Nat} {f9:be} {Pq:Nat} {Pp:be} {QE:Nat} {Q3:be} {QH:Nat} {Q5:be} (h:ko H G T O Q n5 q n7 f7 n9 f9 Pq Pp QE Q3 QH Q5=0):anO H G T O Q n5 q n7 f7 n9 f9 Pq Pp QE Q3 QH Q5:=by
 have h:(VW H G T O Q n5 q n7 f7 n9 f9 Pq Pp QE Q3 QH Q5).2.2=0:=h;unfold VW at h;obtain⟨M,h⟩:=NH h;obtain⟨N,h⟩:=NH h;obtain⟨h3,h⟩:=NH h;have M:dh H G T O=0:=M;have V2:=ye M;have V3:=KW N;cases hl:EK Pq QE QH with
 |true=>rw[hl]at h;cases h
 |false=>rw[hl]at h;obtain⟨e1,e2⟩:=xq hl;exact⟨V2,V3,h3,e1,e2,λi hi=>FK (V2.tb i hi),λi hi=>Sw V2.l0 (V2.lm i hi),λi hi=>axS (n:=Pq) (V3.cl i hi),(lE h).1⟩
def zC (e z:Int):Int:=bif e==0 then z else 0
theorem atm {a b c d:Int} (h:iT a b c d=true):jp a/\jp b/\jp c/\jp d:=by rw[aa1]at h;obtain⟨M,h⟩:=Fs h;obtain⟨N,h⟩:=Fs h;obtain⟨h3,h⟩:=Fs h;obtain⟨h4,_⟩:=Fs h;have M:=zB (x:=a) M;have N:=zB (x:=c) N;have h3:=zB (x:=b) h3;have h4:=zB (x:=d) h4;unfold jp;omega
theorem ag8 {dx dy:Int} (h:Hd dx dy):Ke (E (E (dx*dx)+E (dy*dy))):=rts (Jh h)
end
end Go.Dx
namespace Go.Dx
open Go.Sx
section
variable {J:Type}
def NT:V->cq J->cq J
 |.bool b,.res (.kb _)=>.res (.kb b)|r,_=>.res r
theorem ib3 (r:V) (a:cq J):rD r (NT r a):=by unfold NT;split<;>rfl
def rO (r:V):Bh (cq J)->Bh (cq J)
 |.ret a=>.ret (NT r a)
 |.br b x y=>match b with|true=>.br true (rO r x) y|false=>.br false x (rO r y)
 |.ob _ x=>.ob true (rO r x)
 |.obi c d x=>match c with|true=>.obi true true (rO r x)|false=>.obi false d (rO r x)
 |.obp _ x=>.obp True (rO r x)|.obq a _ x=>.obq a a (rO r x)|.fail _=>.ret (.res r)|.loop ..=>.ret (.res r)|.all f=>.all λl=>rO r (f l)
 |.und x y=>.und (rO r x) (rO r y)|.asm p x=>.asm p (rO r x)
theorem ic2 {LP:fD} (r:V):∀ t:Bh (cq J),bT LP (rO r t) (rD r):=by
 intro t;induction t with
 |ret a=>exact ib3 r a
 |br b x y hx hy=>
   cases b with
   |true=>exact⟨λ_=>hx,(λe=>by cases e)⟩|false=>exact⟨(λe=>by cases e),λ_=>hy⟩
 |ob b x hx=>exact⟨rfl,hx⟩
 |obi c d x hx=>
   cases c with
   |true=>exact⟨λ_=>rfl,hx⟩|false=>exact⟨(λe=>by cases e),hx⟩
 |obp p x hx=>exact⟨trivial,hx⟩|obq a b x hx=>exact⟨rfl,hx⟩|fail n=>exact(rfl:dq r=dq r)|loop fr b e h g k hk=>exact(rfl:dq r=dq r)|all f hf=>exact λl=>hf l
 |und x y hx hy=>exact⟨hx,hy⟩|asm p x hx=>exact λ_=>hx
theorem zx {ct:bm} {un:l8} {w0:World} {sf:aK} {ds:List V} {r:V} (h:rO r (aQ J ct un sf ds)=aQ J ct un sf ds):bT (dN w0 (SV ct)) (aQ J ct un sf ds) (rD r):=by rw[← h];exact ic2 r _
end
def sn (ts:List Ty) (pre:List V->Bool) (r:List V->V):aE:=λds=>cond (pre (lR ts ds)) (some ((ma ts ds [],mb ts ds []),True,r (lR ts ds))) none
theorem mO {P:Program} {f:FuncId} {ts:List Ty} {pre:List V->Prop} {preB:List V->Bool} {r:List V->V} (h:∀ ds,preB ds=true->pre ds) (hO:(vP (bP ts pre r)).Ok P f):(vP (sn ts preB r)).Ok P f:=by
 refine⟨λB m lh w args vs At hrel hargs S4=>?_,λ_ _ _ _ _ hk ⟨ds,d,p,r,M,N,h3,h4,h5⟩=>⟨ds,d,p,r,M,N,h3,h4,hk _ _ h5⟩,λ_ _ _ _ ⟨_,_,_,_,_,_,_,_,h⟩=>h⟩;refine hO.sound B m lh w args vs At hrel hargs ?_
 let ⟨ds,d,p,r',M,N,⟨Sq,h3⟩,h4,h5⟩:=S4
 unfold sn at N;cases hb:preB (lR ts ds) with
 |false=>rw[hb]at N;cases N
 |true=>
   rw[hb]at N;simp only[cond_true,DJ,Prod.mk.injEq]at N
   let ⟨rfl,rfl,rfl⟩:=N
   exact⟨ds,_,_,_,M,rfl,⟨Sq,h _ hb⟩,h4,h5⟩
def LK (p:V->V->Bool):List V->List V->Bool
 |[],[]=>true|v::vs,x::xs=>p v x&&LK p vs xs|_,_=>false
def RQ:Nat->V->V->Bool
 |0,_,_=>false
 |fu+1,v,x=>match v,x with
   |.int k a,.int k' b=>decide (k=k')&&decide (a=b)|.bool a,.bool b=>a==b|.kb a,.bool b=>a==b|.str a,.str b=>decide (a.data.toList=b.data.toList)|.agg xs,.agg ys=>LK (RQ fu) xs ys|.sl n f,.sl m g=>Nat.beq n m&&dw n λi=>LK (RQ fu) (f i) (g i)&&(g i).all V.fc
   |.sq n _ f,.sl m g=>Nat.beq n m&&dw n λi=>LK (RQ fu) (f i) (g i)&&(g i).all V.fc
   |.pd xs,.pd ys=>Nat.beq (cg xs) (cg ys)&&(LK (RQ fu) xs ys&&ys.all V.fc)|.fn f xs ys,.fn g us ws=>Nat.beq f g&&(LK (RQ fu) xs us&&LK (RQ fu) ys ws)|_,_=>false
theorem qa {w0:World} {lh:List ar} {p:V->V->Bool} (hp:∀ v x a,p v x=true->vr w0 lh Nu.nil v a->vr w0 lh Nu.nil x a):∀ (vs xs:List V) (qs:List ak),LK p vs xs=true->bI w0 lh Nu.nil vs qs->bI w0 lh Nu.nil xs qs
 |[],[],qs,_,h=>h
 |v::vs,x::xs,qs,h,M=>by simp[LK,D2]at h;simp[bI]at M ⊢;obtain⟨y,ys,rfl,N,h3⟩:=M;exact⟨y,ys,rfl,hp _ _ _ h.1 N,qa hp vs xs ys h.2 h3⟩
 |[],_::_,_,h,_=>by simp[LK]at h
 |_::_,[],_,h,_=>by simp[LK]at h
theorem rJ {w0:World} {lh:List ar}:∀ (fu:Nat) (v x:V) (a:ak),RQ fu v x=true->vr w0 lh Nu.nil v a->vr w0 lh Nu.nil x a
 |0,v,x,a,h,_=>by simp[RQ]at h
 |fu+1,v,x,a,h,hv=>by
   simp only[RQ]at h;split at h
   ·simp only[D2,E0]at h;let ⟨rfl,rfl⟩:=h;exact hv
   ·have:=EM h;subst this;exact hv
   ·have:=EM h;subst this;simp only[vr]at hv ⊢;exact hv
   ·rename_i s t
    have h0:=DU h;have:s=t:=by
     cases s with|mk d=>
     cases t with|mk e=>
     have:d=e:=Array.toList_inj.1 h0;rw[this]
    subst this;exact hv
   ·simp only[vr]at hv ⊢;obtain⟨qs,rfl,N⟩:=hv;exact⟨qs,rfl,qa (λv x a=>rJ fu v x a) _ _ _ h N⟩
   ·simp only[D2]at h
    have hn:=DT h.1;subst hn;simp only[vr]at hv ⊢
    let ⟨p,c,esz,M,N,h3,h4,h5⟩:=hv
    refine⟨p,c,esz,M,N,h3,h4,λi hi=>?_⟩
    let ⟨Pw,qs,g1,g2,g3,g4⟩:=h5 i hi
    have hh:=dA h.2 i hi;simp only[D2]at hh;exact⟨Pw,qs,g1,g2,qa (λv x a=>rJ fu v x a) _ _ _ hh.1 g3,hh.2⟩
   ·simp only[D2]at h
    have hn:=DT h.1;subst hn;simp only[vr]at hv ⊢
    let ⟨p,c,esz,M,N,h3,h4,h5⟩:=hv
    refine⟨p,c,esz,M,N.1,h3,h4,λi hi=>?_⟩
    let ⟨Pw,qs,g1,g2,g3,g4⟩:=h5 i hi
    have hh:=dA h.2 i hi;simp only[D2]at hh;exact⟨Pw,qs,g1,g2,qa (λv x a=>rJ fu v x a) _ _ _ hh.1 g3,hh.2⟩
   ·simp only[D2]at h
    have hn:=DT h.1;rw[b6,b6]at hn;simp only[vr]at hv ⊢
    let ⟨p,qs,M,N,h3,h4,h5⟩:=hv
    exact⟨p,qs,M,N,by rw[← hn];exact h3,qa (λv x a=>rJ fu v x a) _ _ _ h.2.1 h4,h.2.2⟩
   ·simp only[D2]at h
    have hn:=DT h.1;subst hn;simp only[vr]at hv ⊢
    let ⟨us,vs,M,N,h3⟩:=hv
    exact⟨us,vs,M,qa (λv x a=>rJ fu v x a) _ _ _ h.2.1 N,qa (λv x a=>rJ fu v x a) _ _ _ h.2.2 h3⟩
   ·cases h
def gM:List (List V×V)->aE
 |[],_=>none|(ex,r)::l,ds=>cond (LK (RQ 8) ds ex) (some (([],[]),True,r)) (gM l ds)
theorem BK {P:Program} {f:FuncId} {C:aE} (hO:(vP C).Ok P f):∀ (l:List (List V×V)),(∀ e∈l,∃ d p,C e.1=some (d,p,e.2)/\d.1=d.2/\p)->(vP (gM l)).Ok P f:=by
 intro l hl;refine⟨λB m lh w args vs At hrel hargs S4=>?_,λ_ _ _ _ _ hk ⟨ds,d,p,r,M,N,h3,h4,h5⟩=>⟨ds,d,p,r,M,N,h3,h4,hk _ _ h5⟩,λ_ _ _ _ ⟨_,_,_,_,_,_,_,_,h⟩=>h⟩;refine hO.sound B m lh w args vs At hrel hargs ?_;obtain⟨ds,d,p,r',M,N,_,h4,h5⟩:=S4;induction l with
 |nil=>simp[gM]at N
 |cons e l ih=>
   simp[gM]at N;cases hb:LK (RQ 8) ds e.1 with
   |true=>rw[hb]at N;simp[cond_true,DJ,Prod.mk.injEq]at N;obtain⟨_,_,rfl⟩:=N;obtain⟨d',p',e1,e2,e3⟩:=hl e (G7 ..);exact⟨e.1,d',p',_,qa (λv x a=>rJ 8 v x a) _ _ _ hb M,e1,⟨e2,e3⟩,h4,h5⟩
   |false=>rw[hb]at N;exact ih (λe he=>hl e (EQ _ he)) N
theorem Kl {ts:List Ty} {pre:List V->Prop} {r:List V->V} {raw:List V} {res:V} (hp:pre (lR ts (al ts raw))) (hr:r (lR ts (al ts raw))=res):∃ d p,bP ts pre r (al ts raw)=some (d,p,res)/\d.1=d.2/\p :=
 ⟨_,_,by rw[bP,hr],gE ts raw [],hp⟩
theorem VY {α:Type} {a:α} {l:List α} {Q2:α->Prop} (h:Q2 a) (hl:∀ e∈l,Q2 e):∀ e∈a::l,Q2 e:=λe he=>by
 rcases List.mem_cons.1 he with rfl|he
 ·exact h
 ·exact hl e he
theorem Vo {α:Type} {Q2:α->Prop}:∀e∈([]:List α),Q2 e:=λe he=>by cases he
end Go.Dx
namespace Go.Dx
open Go.IntKind (i64 u64 u8)
open Go.Sx Go.Proofs
variable (H:Nat) (G:be) (S R:Int) (T:Nat) (O:be) (W U Q:Int) (n5:Nat) (q:be) (x5 x6:Int) (n7:Nat) (f7:be) (n9:Nat) (f9:be) (Pq:Nat) (Pp:be) (QE:Nat) (Q3:be) (QH:Nat) (Q5:be) (Py:Int) (RJ:ByteArray) (QM QK QZ Qk Qw:Int)
noncomputable section
def uB:l8:=λ_=>1000
def fz15 (n:Nat) (f:be):Bool:=dw n λi=>Nat.ble (sv (aA (f i))).size 9223372036854775807
theorem pw {n:Nat} {f:be} (h:fz15 n f=true):aD n f:=λi hi=>Dc (dA h i hi)
def PR:Nat->List V
 |0=>[.str ⟨#[119,105,100,101]⟩,.sl 3 (λ|0=>[A (-1000)]|1=>[A 0]|_=>[A 2000]),.sl 2 (λ|0=>[A (-1000)]|_=>[A 1000]),.sl 3 (λ|0=>[.sl 2 (λ|0=>[A 100]|_=>[A 300])]|1=>[.sl 2 (λ|0=>[A 200]|_=>[A 600])]|_=>[.sl 2 (λ|0=>[A 0]|_=>[A 100])]),A 50,A 5]|_=>[.str ⟨#[97,115,112,104,97,108,116]⟩,.sl 2 (λ|0=>[A (-5000)]|_=>[A 5000]),.sl 2 (λ|0=>[A (-5000)]|_=>[A 5000]),.sl 2 (λ|0=>[.sl 2 (λ|0=>[A 700]|_=>[A 700])]|_=>[.sl 2 (λ|0=>[A 700]|_=>[A 700])]),A 0,A 0]
def PQ:Nat->List V:=λ_=>[.str ⟨#[104,101,97,100]⟩,A 0,A 1,A 8000,A 60000,A 500,A 50,A 2,A 4,A 3,A 5,A 100000,A 200,A 0]
def UC:Nat->List V:=λ_=>[.str ⟨#[104,105,103,104]⟩,A 0,.sl 3 (λ|0=>Dj|1=>[A 10000,A 0]|_=>[A 10000,A 10000]),A 4000]
def PN:Nat->List V:=λ_=>[.str ⟨#[99]⟩,A 0,A 0,A 80,A 0,A 1]
abbrev J5:=[A 0,A 0,A 1000]
def smS:V:=.agg [.sl 2 PR,.sl 1 PQ,A 1,.sl 1 UC,.sl 0 UC,.sl 0 UC,.sl 1 PN,.sl 1 (λ_=>[A 0]),.sl 1 λ_=>J5]
def ayK:List Ty:=[.agg [.sl ap,.sl B4,tI,.sl bd,.sl bq,.sl bu,.sl aV,.sl L,.sl cI]]
def ayy:aE:=gM [(al ayK [smS],.tup H9)]
theorem if8:(vP ayy).Ok Tryz.prog 23:=BK azr _ (VY (Kl (ts:=ayK) (raw:=[smS]) (⟨pw bw,pw bw,pw bw,pw bw⟩) bw) (Vo))
def fn0:List Ty:=[.agg [.sl ap,.sl B4]]
def yaS:aE:=gM [(al fn0 [.agg [.sl 2 PR,.sl 1 PQ]],.tup H9)]
theorem x19:(vP yaS).Ok Tryz.prog 49:=BK hci _ (VY (Kl (ts:=fn0) (raw:=[.agg [.sl 2 PR,.sl 1 PQ]]) (⟨pw bw,pw bw⟩) bw) (Vo))
def apm:List Ty:=[.agg [.sl bd,.sl bq,.sl bu,.sl aV]]
def ar8:aE:=gM [(al apm [.agg [.sl 1 UC,.sl 0 UC,.sl 0 UC,.sl 1 PN]],.tup H9)]
theorem atb:(vP ar8).Ok Tryz.prog 50:=BK atW _ (VY (Kl (ts:=apm) (raw:=[.agg [.sl 1 UC,.sl 0 UC,.sl 0 UC,.sl 1 PN]]) (⟨pw bw,pw bw⟩) bw) (Vo))
def rY:bm:=(61,.con acu)::(56,.con ab0)::(15,.con abw)::C7
theorem qj:aZ Tryz.prog Bs C3 rY:=.con aiX (.con af1 (.con ak2 (BH)))
def ybj:RT Empty:=dm (H,G,T,O,Q,n5,q,n7,f7,n9,f9,Pq,Pp,QE,Q3,QH,Q5,Py,RJ,QM,QK,Qk,Qw) (.ret (A (E (100*QZ))))
theorem iw3:cY cZ (aQ JJ rY u0 fm5 [V.agg [V.sl H (D ap G),V.sl T (D B4 O),A Q,V.sl n5 (D bd q),V.sl n7 (D bq f7),V.sl n9 (D bu f9),V.sl Pq (D aV Pp),V.sl QE (D L Q3),V.sl QH (D cI Q5),A Py,V.str RJ,A QM,A QK,A QZ,A Qk,A Qw]]) (ybj H G T O Q n5 q n7 f7 n9 f9 Pq Pp QE Q3 QH Q5 Py RJ QM QK QZ Qk Qw):=bD
def qk:Int:=E (100*QZ)
def OH:V:=dm (H,G,T,O,Q,n5,q,n7,f7,n9,f9,Pq,Pp,QE,Q3,QH,Q5,Py,RJ,QM,QK,Qk,Qw) (A (qk QZ))
theorem akI:aT cM (ybj H G T O Q n5 q n7 f7 n9 f9 Pq Pp QE Q3 QH Q5 Py RJ QM QK QZ Qk Qw) (OH H G T O Q n5 q n7 f7 n9 f9 Pq Pp QE Q3 QH Q5 Py RJ QM QK QZ Qk Qw):=B5 (by unfold OH qk;rfl)
def abD:aE:=bP [.agg [.sl ap,.sl B4,tI,.sl bd,.sl bq,.sl bu,.sl aV,.sl L,.sl cI,tI,.str,tI,tI,tI,tI,tI]] (λ_=>True) λ|[.agg [.sl H G,.sl T O,.int _ Q,.sl n5 q,.sl n7 f7,.sl n9 f9,.sl Pq Pp,.sl QE Q3,.sl QH Q5,.int _ Py,.str RJ,.int _ QM,.int _ QK,.int _ QZ,.int _ Qk,.int _ Qw]]=>OH H G T O Q n5 q n7 f7 n9 f9 Pq Pp QE Q3 QH Q5 Py RJ QM QK QZ Qk Qw|_=>.any
theorem ae2:b9 abD 26:=aU qj λ_ hp=>da (iw3 ..) (akI _ _ _ _ _ _ _ _ _ _ _ _ _ _ _ _ _ _ _ _ _ _ _ _)
def aa5:RT Empty:=.ret (V.agg [A S,A S])
theorem twH:cY cZ (aQ JJ rY u0 akN [A S]) (aa5 S):=bD
def M7:V:=.agg [A S,A S]
theorem agq:aT cM (aa5 S) (M7 S):=B5 (by unfold M7 ; rfl)
def MF:aE:=bP L (λ_=>True) λ|[.int _ S]=>M7 S|_=>.any
theorem fy3:b9 MF 181:=aU qj λ_ hp=>da (twH ..) (agq _)
def ab8:RT Empty:=.obp (nz (E (x5-Q))) (.obt (.obp (nz (E (x5-Q))) (.obt (.ret (V.agg [A (fQ (E (E (S*E (x5-x6))+E (W*E (x6-Q)))) (E (x5-Q))),A (ir (E (E (R*E (x5-x6))+E (U*E (x6-Q)))) (E (x5-Q)))])))))
theorem ng2:cY cZ (aQ JJ rY u0 aks [V.agg [A S,A R],V.agg [A W,A U],A Q,A x5,A x6]) (ab8 S R W U Q x5 x6):=bD
def mo:Int:=fQ (E (E (S*E (x5-x6))+E (W*E (x6-Q)))) (E (x5-Q))
def mq:Int:=ir (E (E (R*E (x5-x6))+E (U*E (x6-Q)))) (E (x5-Q))
def H7:V:=.agg [A (mo S W Q x5 x6),A (mq R U Q x5 x6)]
theorem amc (hp:E (x5-Q)≠0):aT cM (ab8 S R W U Q x5 x6) (H7 S R W U Q x5 x6):=aI (by first|assumption|(exact hp)) (ac (aI (by first|assumption|(exact hp)) (ac (B5 (by unfold H7 mo mq;rfl)))))
def abg:aE:=bP [.agg aM,.agg aM,tI,tI,tI] (λ
 |[.agg [.int _ S,.int _ R],.agg [.int _ W,.int _ U],.int _ Q,.int _ x5,.int _ x6]=>E (x5-Q)≠0|_=>False) λ
 |[.agg [.int _ S,.int _ R],.agg [.int _ W,.int _ U],.int _ Q,.int _ x5,.int _ x6]=>H7 S R W U Q x5 x6|_=>.any
theorem hbr:b9 abg 180:=aU qj λ_ hp=>da (ng2 ..) (amc _ _ _ _ _ _ _ hp)
def c62:RT Empty:=.obp (nz 1000000) (.obt (.obp (nz 1000) (.obt (.obp (nz 1000) (.obt (.ret (A (fQ (E (fQ (E (fQ (E (S*max (E (1000000-E (R*U))) 0)) 1000000*max (E (1000-E (W*Q))) 0)) 1000*x5)) 1000))))))))
theorem hle0:cY cZ (aQ JJ rY u0 hbv [A S,A R,A W,V.agg [A U,A Q,A x5],V.fn 96 [] []]) (c62 S R W U Q x5):=bD
def pP:Int:=fQ (E (fQ (E (fQ (E (S*max (E (1000000-E (R*U))) 0)) 1000000*max (E (1000-E (W*Q))) 0)) 1000*x5)) 1000
def Gj:V:=A (pP S R W U Q x5)
theorem ip2:aT cM (c62 S R W U Q x5) (Gj S R W U Q x5):=aI (by first|assumption|(decide)) (ac (aI (by first|assumption|(decide)) (ac (aI (by first|assumption|(decide)) (ac (B5 (by unfold Gj pP;rfl)))))))
def hat:aE:=bP [tI,tI,tI,.agg cI,.fn 96 [] []] (λ_=>True) λ|[.int _ S,.int _ R,.int _ W,.agg [.int _ U,.int _ Q,.int _ x5],.fn _ [] []]=>Gj S R W U Q x5|_=>.any
theorem ne2:b9 hat 152:=aU qj λ_ hp=>da (hle0 ..) (ip2 _ _ _ _ _ _)
def hcb:RT Empty:=.obp (nz 1000000) (.obt (.obp (nz 1000) (.obt (.obp (nz 1000) (.obt (.ret (A (ir (E (ir (E (ir (E (S*max (E (1000000-E (R*U))) 0)) 1000000*max (E (1000-E (W*Q))) 0)) 1000*x5)) 1000))))))))
theorem hty:cY cZ (aQ JJ rY u0 hbv [A S,A R,A W,V.agg [A U,A Q,A x5],V.fn 97 [] []]) (hcb S R W U Q x5):=bD
def pS:Int:=ir (E (ir (E (ir (E (S*max (E (1000000-E (R*U))) 0)) 1000000*max (E (1000-E (W*Q))) 0)) 1000*x5)) 1000
def FB:V:=A (pS S R W U Q x5)
theorem nm4:aT cM (hcb S R W U Q x5) (FB S R W U Q x5):=aI (by first|assumption|(decide)) (ac (aI (by first|assumption|(decide)) (ac (aI (by first|assumption|(decide)) (ac (B5 (by unfold FB pS;rfl)))))))
def hcp:aE:=bP [tI,tI,tI,.agg cI,.fn 97 [] []] (λ_=>True) λ|[.int _ S,.int _ R,.int _ W,.agg [.int _ U,.int _ Q,.int _ x5],.fn _ [] []]=>FB S R W U Q x5|_=>.any
theorem nz5:b9 hcp 152:=aU qj λ_ hp=>da (hty ..) (nm4 _ _ _ _ _ _)
def al5:List V->Bool
 |[_,_,_,_,.fn n _ _]=>Nat.beq n (match (.fn 96 [] []:V) with|.fn k _ _=>k|_=>0)|_=>false
def R5:aE:=Jn al5 hat hcp
theorem h13:(vP R5).Ok Tryz.prog 152:=Hh _ _ _ ne2 nz5
theorem yI {b:Int} (h:(b !=0)=true):b≠0:=by simpa using h
def yaW:List V->Bool
 |[.int _ S,.int _ R]=>R !=0|_=>false
def bd3:aE:=sn aM yaW λ|[.int _ S,.int _ R]=>E4 S R|_=>.any
theorem x23:(vP bd3).Ok Tryz.prog 96:=mO (λds h=>by
 unfold yaW at h;split at h
 ·exact yI h
 ·cases h) hc3
def azp:List V->Bool
 |[.agg [.int _ S,.int _ R]]=>R !=0|_=>false
def fn5:aE:=sn [.agg aM] azp λ|[.agg [.int _ S,.int _ R]]=>Ka S R|_=>.any
theorem ng1:(vP fn5).Ok Tryz.prog 29:=mO (λds h=>by
 unfold azp at h;split at h
 ·exact yI h
 ·cases h) ba1
def f12:List V->Bool
 |[.int _ S,.int _ R]=>R !=0|_=>false
def hbw:aE:=sn aM f12 λ|[.int _ S,.int _ R]=>JL S R|_=>.any
theorem ip1:(vP hbw).Ok Tryz.prog 97:=mO (λds h=>by
 unfold f12 at h;split at h
 ·exact yI h
 ·cases h) ha1
def hbs:List V->Bool
 |[.agg [.int _ S,.int _ R]]=>R !=0|_=>false
def ayL:aE:=sn [.agg aM] hbs λ|[.agg [.int _ S,.int _ R]]=>I7 S R|_=>.any
theorem m44:(vP ayL).Ok Tryz.prog 31:=mO (λds h=>by
 unfold hbs at h;split at h
 ·exact yI h
 ·cases h) ayv
def fe3:List V->Bool
 |[.sl H G]=>Nat.ble 1 H|_=>false
def fh6:aE:=sn [.sl L] fe3 λ|[.sl H G]=>A (fX H G)|_=>.any
theorem ic10:(vP fh6).Ok Tryz.prog 70:=mO (λds h=>by
 unfold fe3 at h;split at h
 ·exact Dc h
 ·cases h) fc9
def azB:List V->Bool
 |[.sl H G]=>Nat.ble 1 H|_=>false
def fh1:aE:=sn [.sl L] azB λ|[.sl H G]=>A (gZ H G)|_=>.any
theorem nf2:(vP fh1).Ok Tryz.prog 69:=mO (λds h=>by
 unfold azB at h;split at h
 ·exact Dc h
 ·cases h) fu9
def yaZ:List V->Bool
 |[.agg [.int _ S,.int _ R],.agg [.int _ W,.int _ U],.int _ Q,.int _ x5,.int _ x6]=>E (x5-Q)!=0|_=>false
def azu:aE:=sn [.agg aM,.agg aM,tI,tI,tI] yaZ λ|[.agg [.int _ S,.int _ R],.agg [.int _ W,.int _ U],.int _ Q,.int _ x5,.int _ x6]=>H7 S R W U Q x5 x6|_=>.any
theorem iml:(vP azu).Ok Tryz.prog 180:=mO (λds h=>by
 unfold yaZ at h;split at h
 ·exact yI h
 ·cases h) hbr
end
end Go.Dx
namespace Go.Dx
open Go.Sx
theorem bh.unhideG {B:dP} {m m':aN} {lh new:List ar} {w w':World} {X:List Nat} (h:bh B m lh w)
 (h':bh ⟨B.w0,w,λb=>∃k cs ty,k∉X/\lh[k]? = some (.cells cs ty)/\m k=some b,B.ds⟩ m' (hide X lh++new) w') (he:jx (hide X lh) m (hide X lh++new) m') :
 bh B m' (lh++new) w'/\jx lh m (lh++new) m':=by
 have hent:∀ k o,(lh++new)[k]? = some o->((hide X lh++new)[k]? = some o)∨(k∈X/\lh[k]? = some o/\(hide X lh++new)[k]? = some .hid):=λk o hk=>by
  rw[Ei]at hk;split at hk
  ·rename_i Q7
   rw[DW (by rw[Go.Sx.hide_length];exact Q7),Go.Sx.hide_get];by_cases hX:k∈X
   ·rw[CV hX,hk];exact .inr ⟨hX,rfl,rfl⟩
   ·rw[C4 hX];exact .inl hk
  ·rename_i TM;left;rw[Dy (by rw[Go.Sx.hide_length];omega),Go.Sx.hide_length];exact hk
 have hnoown:∀k cs ty b,k∈X->lh[k]? = some (.cells cs ty)->m k=some b->¬ ∃j cs ty,j∉X/\lh[j]? = some (ar.cells cs ty)/\m j=some b:=λk cs ty b hX hk hb ⟨j,cs',ty',hj,hl,Qx⟩=>by exact hj (h.inj j k b cs' cs ty' ty hl hk Qx hb▸hX)
 refine⟨⟨h'.os.trans h.os,h'.tape.trans h.tape,h'.output.trans h.output,h'.size,h'.old,Eg h.fsize h'.fsize,λb hb ho=>?_,λk cs ty hk=>?_,λk k' b cs cs' ty ty' M N hb Qx=>?_,λk hk=>?_,λk hk=>?_,h'.rng⟩,he.1,λk hk=>?_⟩
 ·rw [h'.kept b (Fj hb h.fsize) (λ⟨k,cs,ty,_,hl,hm⟩=>?_)]
  ·exact h.kept b hb ho
  ·let ⟨b',_,Qx,_,_,_,h3⟩:=h.loc k cs ty hl
   rw[hm]at Qx;cases Qx;rcases h3 with h3|h3
   ·omega
   ·exact ho h3
 ·rcases hent k _ hk with hl|⟨hX,hl,_⟩
  ·let ⟨b,vs,hb,R3,hh,M,N⟩:=h'.loc k cs ty hl
   refine⟨b,vs,hb,R3,hh,M,?_⟩;rcases N with N|⟨j,cs',ty',hj,Vj,sa⟩
   ·exact .inl (Eg h.fsize N)
   ·let ⟨b',_,Qx,_,_,_,h3⟩:=h.loc j cs' ty' Vj
    rw[sa]at Qx;cases Qx;exact h3
  ·let ⟨b,vs,hb,R3,hh,M,N⟩:=h.loc k cs ty hl
   refine⟨b,vs,he.1 _ _ hb,db he.1 _ _ R3,?_,M,N⟩;rw[h'.kept b (h.rng k b hb) (hnoown k cs ty b hX hl hb)];exact hh
 ·have mixed:∀ k k' b cs cs' ty ty',(hide X lh++new)[k]? = some (.cells cs ty)->k'∈X->lh[k']? = some (.cells cs' ty')->m' k=some b->m' k'=some b->False:=λk k' b cs cs' ty ty' hl hX Ro hb Qx=>by
   let ⟨b0,_,Rz,_⟩:=h.loc k' cs' ty' Ro
   have e:=he.1 _ _ Rz;rw[Qx]at e;cases e
   let ⟨b1,_,SE,_,_,_,N⟩:=h'.loc k cs ty hl
   rw[hb]at SE;cases SE;rcases N with N|N
   ·have h3:=h.rng k' b Rz;have h4:w.heap.size<=b:=N;omega
   ·exact hnoown k' cs' ty' b hX Ro Rz N
  rcases hent k _ M with hl|⟨hX,hl,_⟩<;>rcases hent k' _ N with Ro|⟨X9,Ro,_⟩
  ·exact h'.inj k k' b cs cs' ty ty' hl Ro hb Qx
  ·exact(mixed k k' b cs cs' ty ty' hl X9 Ro hb Qx).elim
  ·exact(mixed k' k b cs' cs ty' ty Ro hX hl Qx hb).elim
  ·let ⟨b0,_,Rz,_⟩:=h.loc k cs ty hl
   let ⟨b1,_,SE,_⟩:=h.loc k' cs' ty' Ro
   have e:=he.1 _ _ Rz;rw[hb]at e;cases e;have e:=he.1 _ _ SE;rw[Qx]at e;cases e;exact h.inj k k' b cs cs' ty ty' hl Ro Rz SE
 ·exact h'.dom k (by rw[Ea]at hk ⊢;rw[Go.Sx.hide_length];exact hk)
 ·rcases hent k _ hk with hl|⟨hX,hl,Ro⟩
  ·exact h'.dead k hl
  ·have hd:=h.dead k hl
   have hh:(hide X lh)[k]? = some .hid:=by rw[Go.Sx.hide_get,CV hX,hl];rfl
   rw[(he.2 k hh).2];exact hd
 ·have hh:(hide X lh)[k]? = some .hid:=by
   rw[Go.Sx.hide_get];split
   ·rw[hk];rfl
   ·exact hk
  let ⟨M,N⟩:=he.2 k hh
  exact⟨by rw[DW (List.getElem?_eq_some_iff.1 hk).1];exact hk,N⟩
mutual
def eH:V->Prop
 |.int ..|.bool _|.kb _|.str _|.any=>True|.agg cs|.tup cs=>iK cs|.sl n f=>∀i,i<n->iK (f i)|_=>False
def iK:List V->Prop
 |[]=>True|v::vs=>eH v/\iK vs
end
theorem ig7:∀ (r v:V),eH r->dq v=dq r->v.fc=true->r.fc=true
 |.int ..,_,_,_,_=>rfl|.bool _,_,_,_,_=>rfl|.kb _,_,_,_,_=>rfl|.str _,_,_,_,_=>rfl|.any,_,_,_,_=>rfl|.sl ..,_,_,_,_=>rfl|.agg _,v,_,h,hf=>by cases v<;>first|(simp[dq]at h;done)|(cases hf;done)
 |.tup _,v,_,h,hf=>by cases v<;>first|(simp[dq]at h;done)|(cases hf;done)
 |.fn ..,_,hg,_,_=>by simp[eH]at hg
 |.pd ..,_,hg,_,_=>rfl|.pl ..,_,hg,_,_=>rfl|.pe ..,_,hg,_,_=>rfl|.ss ..,_,hg,_,_=>rfl|.gs ..,_,hg,_,_=>rfl|.ns,_,hg,_,_=>rfl|.np,_,hg,_,_=>rfl|.gd ..,_,hg,_,_=>by simp[eH]at hg
 |.yl ..,_,hg,_,_=>by simp[eH]at hg
 |.go ..,_,hg,_,_=>rfl|.sq ..,_,hg,_,_=>rfl
theorem F70:∀ (rs vs:List V),iK rs->dj vs=dj rs->vs.all V.fc=true->rs.all V.fc=true
 |[],_,_,_,_=>rfl|r::rs,[],_,h,_=>by simp[dj]at h
 |r::rs,v::vs,hg,h,hf=>by simp[dj,Dh]at h;simp[iK]at hg;simp only[EJ,D2]at hf ⊢;exact⟨ig7 r v hg.1 h.1 hf.1,F70 rs vs hg.2 h.2 hf.2⟩
section
variable {w0:World} {lh:List ar}
mutual
theorem eqA:∀ (r v:V) (a:ak),eH r->dq v=dq r->vr w0 lh Nu.nil v a->vr w0 lh Nu.nil r a
 |.int k n,v,a,_,h,hv=>by cases v<;>simp only[dq]at h<;>cases h;exact hv
 |.bool b,v,a,_,h,hv=>by cases v<;>simp[dq]at h<;>cases h<;>(simp[vr]at hv ⊢;exact hv)
 |.kb b,v,a,_,h,hv=>by cases v<;>simp[dq]at h<;>cases h<;>(simp[vr]at hv ⊢;exact hv)
 |.str s,v,a,_,h,hv=>by cases v<;>simp[dq]at h<;>cases h;exact hv
 |.any,v,a,_,_,_=>by simp[vr]
 |.agg cs,v,a,hg,h,hv=>by
   cases v<;>simp[dq,ak.agg.injEq]at h<;>first|(cases h;done)|skip
   simp[eH]at hg;simp[vr]at hv ⊢
   let ⟨az,e,hv⟩:=hv
   exact⟨az,e,WE cs _ az hg h hv⟩
 |.tup cs,v,a,hg,h,hv=>by
   cases v<;>simp[dq,ak.tup.injEq]at h<;>first|(cases h;done)|skip
   simp[eH]at hg;simp[vr]at hv ⊢
   let ⟨az,e,hv⟩:=hv
   exact⟨az,e,WE cs _ az hg h hv⟩
 |.sl n f,v,a,hg,h,hv=>by
   cases v<;>first|(simp[dq]at h;done)|skip
   let ⟨rfl,RB⟩:=Hq h
   simp[eH]at hg;simp only[vr]at hv ⊢
   let ⟨p,c,esz,M,N,h3,h4,h5⟩:=hv
   refine⟨p,c,esz,M,N,h3,h4,λi hi=>?_⟩
   let ⟨Pw,az,g1,g2,g3,g4⟩:=h5 i hi
   exact⟨Pw,az,g1,g2,WE (f i) _ az (hg i hi) (RB i hi) g3,F70 _ _ (hg i hi) (RB i hi) g4⟩
 |.fn ..,_,_,hg,_,_=>by simp[eH]at hg
 |.pd ..,_,_,hg,_,_=>by simp[eH]at hg
 |.pl ..,_,_,hg,_,_=>by simp[eH]at hg
 |.pe ..,_,_,hg,_,_=>by simp[eH]at hg
 |.ss ..,_,_,hg,_,_=>by simp[eH]at hg
 |.gs ..,_,_,hg,_,_=>by simp[eH]at hg
 |.ns,_,_,hg,_,_=>by simp[eH]at hg
 |.np,_,_,hg,_,_=>by simp[eH]at hg
 |.gd ..,_,_,hg,_,_=>by simp[eH]at hg
 |.yl ..,_,_,hg,_,_=>by simp[eH]at hg
 |.go ..,_,_,hg,_,_=>by simp[eH]at hg
 |.sq ..,_,_,hg,_,_=>by simp[eH]at hg
theorem WE:∀ (rs vs:List V) (az:List ak),iK rs->dj vs=dj rs->bI w0 lh Nu.nil vs az->bI w0 lh Nu.nil rs az
 |[],vs,az,_,h,hv=>by
   cases vs with
   |nil=>exact hv|cons v vs=>simp[dj]at h
 |r::rs,vs,az,hg,h,hv=>by
   cases vs with
   |nil=>simp[dj]at h
   |cons v vs=>
     simp[dj,Dh]at h;simp[iK]at hg;simp[bI]at hv ⊢
     let ⟨x,xs,e,M,N⟩:=hv
     exact⟨x,xs,e,eqA r v x hg.1 h.1 M,WE rs vs xs hg.2 h.2 N⟩
end
end
def Mg:V->V
 |.sq n _ f=>.sl n f|v=>v
def KS:V->V
 |.agg cs=>.agg (cs.map Mg)|.tup cs=>.tup (cs.map Mg)|v=>Mg v
theorem asT {w0:World} {lh:List ar} {ν:Nu} {v:V} {a:ak} (h:vr w0 lh ν v a):vr w0 lh ν (Mg v) a:=by
 unfold Mg;split
 ·simp only[vr]at h ⊢
  let ⟨p,c,esz,M,N,h3,h4,h5⟩:=h
  exact⟨p,c,esz,M,N.1,h3,h4,h5⟩
 ·exact h
theorem yk {w0:World} {lh:List ar} {ν:Nu}:∀ {vs:List V} {qs:List ak},bI w0 lh ν vs qs->bI w0 lh ν (vs.map Mg) qs
 |[],qs,h=>by simp[bI,HL]at h ⊢;exact h
 |v::vs,qs,h=>by
   simp[bI,E8]at h ⊢
   let ⟨x,xs,e,M,N⟩:=h
   exact⟨x,xs,e,asT M,yk N⟩
theorem ajy {w0:World} {lh:List ar} {ν:Nu} {v:V} {a:ak} (h:vr w0 lh ν v a):vr w0 lh ν (KS v) a:=by
 unfold KS;split
 ·simp[vr]at h ⊢
  let ⟨qs,e,h⟩:=h
  exact⟨qs,e,yk h⟩
 ·simp[vr]at h ⊢
  let ⟨qs,e,h⟩:=h
  exact⟨qs,e,yk h⟩
 ·exact asT h
theorem HR.fz (w0:World) (l:List ar):HR w0 ⟨λ_=>Option.none,l⟩ 0 0 [] l:=⟨λk o h=>by simp at h,λk k' x x' _ _ h=>by(cases h),λ_ _=>rfl,λ_ _ h=>by(cases h),nh _,λ_ _ _ h=>by(cases h)⟩
theorem hvj {l l1:List ar} {m m1:aN} (hz:wY l l1) (he:jx l m l1 m1) (hl:∀ (k:Nat) (o:ar),l[k]? = some o->o=.hid∨∃ az ty,o=.cells az ty):l1=l++l1.drop l.length:=by
 have hp:∀ k o,l[k]? = some o->l1[k]? = some o:=λk o hk=>by
  rcases hl k o hk with rfl|⟨az,ty,rfl⟩
  ·exact(he.2 k hk).1
  ·exact hz k az ty hk
 apply F4;intro k;rw[Ei];split
 ·rename_i Q7;have:l[k]? = some l[k]:=EZ Q7;rw[hp k _ this,this]
 ·rename_i TM;rw[Fz];congr 1;omega
theorem aeF {α:Type} {P:Program} {Bs:List TypeId} {C3:List iU} {ct:bm} {f:FuncId} {fn:Func} {sf:aK} {un:l8} {C:aE} {K0:V->List Ax->Bh α} {Q0:V->α->Prop} (hK0:∀ w0 r v h,bT (dN w0 (SV ct)) (K0 v h) (Q0 r)->Ug (rR h [v])/\dq (KS (tN h v))=dq r) (hT:aZ P Bs C3 ct) (hE:∀ t∈Bs,dM P t) (hI:mE P Bs C3) (hf:P.funcs[f]? = some fn)
 (hn : (fn.name == "runtime.NumGoroutine") = false) (hc : eS P Bs C3 fn = some sf) (hd : gm sf.ntmps sf.body = true) (hg : ∀ ds d p r, C ds = some (d, p, r) -> d.1 = d.2 -> p -> eH r)
 (h:∀w0 ds d p r,C ds=some (d,p,r)->d.1=d.2->p->bT (dN w0 (SV ct)) (o0 (oR ct LV) (ou ct) un LV sf ds [] K0) (Q0 r)):(vZ C).Ok P f:=by
 refine⟨λB m lh w args vs At hrel hargs S4=>?_,λ_ _ _ _ _ hk ⟨ds,d,p,r,X,M,N,h3,h4,h5,h6⟩=>⟨ds,d,p,r,X,M,N,h3,h4,h5,λx new hx=>hk _ _ (h6 x new hx)⟩,λ_ _ _ _ ⟨_,_,_,_,_,_,_,_,_,⟨x,new,hx⟩,h6⟩=>h6 x new hx⟩
 let ⟨ds,d,p,r,X,M,hX,N,⟨Sq,h3⟩,_,h6⟩:=S4
 have hs:=qu (Sp:=λw0 args l At=>∃ ds d p r,bI w0 l Nu.nil ds args/\C ds=some (d,p,r)/\(d.1=d.2/\p)/\∀ x l',wY l l'->vr w0 l' Nu.nil r x->At x l') (hT.ok hE hI LV) hE hI hf hn hc (λw0 args l At hw ha ⟨ds,d,p,r,k1,k2,⟨k30,k3⟩,k4⟩=>by
  refine sN (ν:=⟨λ_=>none,l⟩) (nV:=0) (nS:=0) (qp w0 ct hT.dst LV) (qG w0 ct _ LV) hd (iH (λk x h=>by cases h) ds args k1) (HR.fz w0 l) (h w0 ds d p r k2 k30 k3) λv h' ν' a lh' q0 q1 q2 q3=>?_
  let ⟨b1,b2⟩:=hK0 _ _ _ _ q3
  have hh:=q1 0 0
  have hv:bI w0 lh' Nu.nil [tN h' v] [a]:=te hh b1 (by simp only[bI];exact⟨_,_,rfl,q2,rfl⟩)
  simp only[bI]at hv
  let ⟨x,xs,e,hv,_⟩:=hv
  cases e
  exact⟨a,lh',.inl ⟨rfl,(⟨.inr rfl,trivial⟩:nq [_] [_])⟩,k4 a lh' (qt q0.2 hh.zl) (eqA _ _ _ (hg _ _ _ _ k2 k30 k3) b2 (ajy hv))⟩)
 let ⟨e1,e2⟩:=hs _ m (hide X lh) w args vs (λr' l'=>wY (hide X lh) l'/\vr B.w0 l' Nu.nil r r') (hrel.hide X) hargs ⟨ds,d,p,r,M,N,⟨Sq,h3⟩,λx l' hz hx=>⟨hz,hx⟩⟩
 refine⟨e1,e2.mono λybf w' ⟨v,r',m1,l1,he,hv,hext,hr,hz,hx⟩=>?_⟩
 have hfull:=hvj hz hext λk o hk=>by
  rw[Go.Sx.hide_get]at hk
  split at hk
  ·cases hg:lh[k]? with
   |none=>rw[hg]at hk;cases hk
   |some o'=>rw[hg]at hk;cases hk;exact .inl rfl
  ·rename_i iy18
   rcases hX k iy18 with hc|hc
   ·right
    rw[hk]at hc
    cases o with
    |cells az ty=>exact⟨az,ty,rfl⟩
    |_=>cases hc
   ·rw[Do hc]at hk;cases hk
 generalize l1.drop (hide X lh).length=new at hfull
 subst hfull
 let ⟨g1,g2⟩:=bh.unhideG hrel hr hext
 exact⟨v,r',m1,lh++new,he,hv,g2,g1,h6 r' new hx⟩
theorem aos {P:Program} {f:FuncId} {e:Nat} {ty:TypeId} {C:aE} (h:(vL e ty C).Ok P f) (hL:∀ ds d p r,C ds=some (d,p,r)->d.1=d.2->p->XR e r/\∃ n f,r=.sl n f/\∀ i,i<n->(f i).all V.fc=true):(vN C).Ok P f:=by
 refine⟨λB m lh w args vs At hrel hargs ⟨ds,d,p,r,M,N,h3,h5,h6⟩=>?_,λ_ _ _ _ _ hk ⟨ds,d,p,r,M,N,h3,h4,h5⟩=>⟨ds,d,p,r,M,N,h3,h4,λx new hx=>hk _ _ (h5 x new hx)⟩,λw0 _ lh _ ⟨_,_,_,_,_,_,_,h4,h5⟩=>let ⟨x,new,hx⟩:=h4 w0 lh;h5 x new hx⟩;obtain⟨ho,n,f,rfl,Y6⟩:=hL _ _ _ _ N h3.1 h3.2;have UX:=ho
 let ⟨n',f',hl,hmax,RB,_⟩:=UX
 simp[rp,DJ,Prod.mk.injEq]at hl
 let ⟨rfl,rfl⟩:=hl
 refine h.sound B m lh w args vs At hrel hargs ⟨ds,d,p,_,n,f,M,N,h3,rfl,ho,λx new hx=>?_⟩;show At x (lh++new);refine h6 x new ?_;simp only[vr];rcases hx with ⟨rfl,rfl⟩|⟨b,c,az,hb,Sj,rfl,Zs,U2,hall⟩
 ·exact⟨none,0,e,rfl,D7 _,hmax,trivial,λi hi=>absurd hi (HG _)⟩
 ·have hbl':(List.replicate lh.length ar.dead++new)[b]? = some (.cells az ty):=by
   rw[Dy (by simpa using hb)];rw[Dy hb]at Sj;simpa using Sj
  refine⟨some (.l b 0),c,e,rfl,U2,hmax,⟨az,ty,hbl',Da _⟩,λi hi=>⟨.l b 0,dj (f i),rfl,?_,(fH (RB i hi).2 _).2 rfl,Y6 i hi⟩⟩;have R8:i*e+e<=az.length:=by rw[Zs,← E5];exact EA e K
  show lds B.w0 _ (.l b (0+i*e)) e=_;rw[EB];simp only[lds,hbl'];rw[CV R8,hall i hi]
theorem ayQ {e n:Nat} {f:be} (ho:XR e (.sl n f)) (Y6:∀ i,i<n->(f i).all V.fc=true):Ix (.sl n f):=λw0 lh=>by
 let ⟨n',f',hl,hmax,RB,_⟩:=ho
 simp[rp,DJ,Prod.mk.injEq]at hl
 let ⟨rfl,rfl⟩:=hl
 let ⟨M,N⟩:=Bq (e:=e) (f:=f) (n:=n) λi hi=>by rw[xR];exact(oA (RB i hi).1).1
 refine⟨.slice (some (.l lh.length 0)) n n,[.cells ((List.range n).flatMap λi=>dj (f i)) 0],?_⟩;simp only[vr];have hbl':(List.replicate lh.length ar.dead++[ar.cells ((List.range n).flatMap λi=>dj (f i)) 0])[lh.length]? = some (.cells ((List.range n).flatMap λi=>dj (f i)) 0):=by rw[Dy au];simp
 refine⟨some (.l lh.length 0),n,e,rfl,D7 _,hmax,⟨_,0,hbl',Da _⟩,λi hi=>⟨.l lh.length 0,dj (f i),rfl,?_,(fH (RB i hi).2 _).2 rfl,Y6 i hi⟩⟩;have R8:i*e+e<=n*e:=by rw[← E5];exact EA e K
 show lds w0 _ (.l lh.length (0+i*e)) e=_;rw[EB];simp only[lds,hbl'];rw[CV (by rw[M];exact R8),N i hi]
theorem awu {P:Program} {f:FuncId} {e:Nat} {ty:TypeId} {C:aE} (h:(vL e ty C).Ok P f) (hL:∀ ds d p r,C ds=some (d,p,r)->d.1=d.2->p->XR e r/\∃ n f,r=.sl n f/\∀ i,i<n->(f i).all V.fc=true):(vN C).Ok P f/\∀ ds d p r,C ds=some (d,p,r)->d.1=d.2->p->Ix r :=
 ⟨aos h hL,λds d p r M N h3=>by obtain⟨ho,n,f,rfl,Y6⟩:=hL ds d p r M N h3;exact ayQ ho Y6⟩
end Go.Dx
namespace Go.Dx
open Go.Sx
section
variable {J:Type}
def Vr (J:Type) (ct:bm) (un:l8) (sf:aK) (ds:List V):Bh (cq J):=o0 (oR ct LV) (ou ct) un LV sf ds [] λv h=>Iw (rR h [v]) (.ret (.res (KS (tN h v))))
theorem nu3 {P:Program} {Bs:List TypeId} {C3:List iU} {ct:bm} {f:FuncId} {fn:Func} {sf:aK} {un:l8} {ts:List Ty} {pre:List V->Prop} {r:List V->V} (hT:aZ P Bs C3 ct) (hE:∀ t∈Bs,dM P t) (hI:mE P Bs C3) (hf:P.funcs[f]? = some fn)
 (hn : (fn.name == "runtime.NumGoroutine") = false) (hc : eS P Bs C3 fn = some sf) (hd : gm sf.ntmps sf.body = true) (ho : gO ts = true) (hg : ∀ ds, pre (al ts ds) -> eH (r (al ts ds)))
 (h:∀w0 ds,pre (al ts ds)->bT (dN w0 (SV ct)) (Vr J ct un sf (al ts ds)) (rD (r (al ts ds)))):(vZ (bP ts pre r)).Ok P f:=by
 refine⟨λB m lh w args vs At hrel hargs S4=>?_,λ_ _ _ _ _ hk ⟨ds,d,p,r,X,M,N,h3,h4,h5,h6⟩=>⟨ds,d,p,r,X,M,N,h3,h4,h5,λx new hx=>hk _ _ (h6 x new hx)⟩,λ_ _ _ _ ⟨_,_,_,_,_,_,_,_,_,⟨x,new,hx⟩,h6⟩=>h6 x new hx⟩
 let ⟨ds,d,p,r',X,M,hX,N,⟨Sq,h3⟩,h5,h6⟩:=S4
 simp only[bP,DJ,Prod.mk.injEq]at N
 let ⟨rfl,rfl,rfl⟩:=N
 have Sk:=(kv ts ds [] [] ho Sq).1
 rw[(ig ts ds [] [] Sq).1]at h3 h5 h6
 have key2:=aeF (C:=λds'=>some ((ds',al ts ds),pre (al ts ds),r (al ts ds))) (P:=P) (f:=f) (un:=un) (K0:=λv h=>Iw (rR h [v]) (Bh.ret (cq.res (J:=J) (KS (tN h v))))) (Q0:=rD (J:=J)) (λw0 r v h hs=>⟨(yM hs).1,by have N:=(yM hs).2;simp[bT,rD]at N;exact N⟩) hT hE hI hf hn hc hd (λds' d' p' r' e he hp=>by
  simp only[DJ,Prod.mk.injEq]at e
  let ⟨rfl,rfl,rfl⟩:=e
  exact hg ds hp) (λw0 ds' d' p' r' e he hp=>by
  simp only[DJ,Prod.mk.injEq]at e
  let ⟨rfl,rfl,rfl⟩:=e
  simp only at he
  subst he
  exact h w0 ds hp)
 exact key2.sound B m lh w args vs At hrel hargs ⟨al ts ds,_,_,_,X,fW ts ds args Sk M,hX,rfl,⟨rfl,h3⟩,h5,h6⟩
theorem alb {ts:List Ty} {pre:List V->Prop} {r:List V->V} (hL:∀ ds,bO ts ds->pre (al ts ds)->∀ w0 lh args,bI w0 lh Nu.nil (al ts ds) args->∃ x new,vr w0 (lh++new) Nu.nil (r (al ts ds)) x) (ho:gO ts=true):∀ ds d p r',bP ts pre r ds=some (d,p,r')->d.1=d.2->p->∀ w0 lh args,bI w0 lh Nu.nil ds args->∃ x new,vr w0 (lh++new) Nu.nil r' x:=by
 intro ds d p r' h M N w0 lh args ha;simp only[bP,DJ,Prod.mk.injEq]at h
 let ⟨rfl,rfl,rfl⟩:=h
 have Sk:=(kv ts ds [] [] ho M).1;rw[(ig ts ds [] [] M).1]at N ⊢;exact hL ds Sk N w0 lh args (fW ts ds args Sk ha)
end
theorem GV {w0:World} {lh:List ar} {e n:Nat} {f:be} (hn:n<=9223372036854775807) (RB:∀ i,i<n->nX e (f i)=true/\(dj (f i)).all bK=true/\(f i).all V.fc=true):∃ x new,vr w0 (lh++new) Nu.nil (.sl n f) x:=by
 let ⟨x,new,hx⟩:=ayQ (e:=e) (n:=n) (f:=f) ⟨n,f,rfl,hn,λi hi=>⟨(RB i hi).1,(RB i hi).2.1⟩,by simp[Gg,dj]⟩ (λi hi=>(RB i hi).2.2) w0 lh
 refine⟨x,new,nI (λk az ty hk=>?_) _ x hx⟩;rw[Ei]at hk;split at hk
 ·rename_i Q7;simp at Q7;simp[Q7]at hk
 ·rename_i TM;simp at TM;rw[Dy TM];simpa using hk
end Go.Dx
namespace Go.Dx
open Go.IntKind (i64 u64 u8)
open Go.Sx Go.Proofs
variable (H:Nat) (G:be) (S:Int) (s0:ByteArray) (n1:Nat) (f1:be) (R W:Int) (n3:Nat) (f3:be) (U Q:Int) (n5:Nat) (q:be) (x5 Z Y:Int) (n9:Nat) (f9:be) (x9 Ps:Int) (Pq:Nat) (Pp:be) (Pr Q8 QJ QQ:Int)
noncomputable section
def Cj:bm:=(26,.con abD)::(181,.con MF)::(180,.con abg)::(152,.con R5)::rY
theorem amS:aZ Tryz.prog Bs C3 Cj:=.con ae2 (.con fy3 (.con hbr (.con h13 (qj))))
inductive vW where|L0 (_:Int) (_:Nat) (_:be)
def smL:vW->bS×List Ax×Option Ex
 |.L0 Pt Ry Xi=>([(9,A Pt),(8,A (H:Int)),(7,V.sl H (D L G)),(4,V.gs 0 Ry),(1,V.pd [A W])],[Ax.gl 1 Ry (D L Xi) 3],none)
def ajt:vW->JJ
 |.L0 ..=>(0,[])
def fy6:Bh (cq JJ):=SN JJ 1 3 Cj u0 ahE [V.sl H (D L G),V.pd [A W]]
def R45 (cx:List Cx):Lp JJ:=eX (eJ (fy6 H G W) [])
def alE:JJ->Lp JJ
 |(0,cx)=>R45 H G W cx|(_,cx)=>R45 H G W cx
def apD:LD JJ vW:=⟨ajt,alE H G W,smL H G W⟩
def CL:vW->RT vW
 |.L0 Pt Ry Xi=>.br (decide (Pt<(H:Int))) (.ob (dI Pt H) (.obt (.ob (decide (Ry<=Ry/\(Ry+1)*8<=140737488355328)&&!Nat.beq 8 0) (.next [some (some 2)] (vW.L0 (E (Pt+1)) (Ry+1) (bb Ry (D L Xi) λx=>[A (E (av (G Pt.toNat)*W))])) [⟨0,L,Ry+1,bb Ry (D L Xi) λx=>[A (E (av (G Pt.toNat)*W))],gh (aJ rfl _ _) (e8 rfl _ rfl)⟩])))) (.ob (decide (Ry<=Ry)) (.ret (V.sl Ry (D L Xi))))
def Nw:RT vW:=dm (G,W) (.am H (.enter [some none] (vW.L0 0 0 (λi=>[])) []))
theorem no7:dZ Cj u0 (apD H G W) (fy6 H G W) (Nw H G W) (CL H G W):=⟨bD,λs=>by cases s<;>exact bD⟩
def dJ (h:Int):Nat->List V:=λi=>[A (E (av (G i)*h))]
theorem B3 {n:Nat} {f g:be} (h:∀i,i<n->dj (f i)=dj (g i)):dq (.sl n f)=dq (.sl n g):=by simp only[dq];congr 1;exact JF λi hi=>by rw[h i (List.mem_range.1 hi)]
theorem yaa {ts:List Ty} {pre:List V->Prop} {r:List V->V} {Q2:V->Prop} (hL:∀ds,pre (al ts ds)->Q2 (r (al ts ds))):∀ds d p r',bP ts pre r ds=some (d,p,r')->d.1=d.2->p->Q2 r':=by intro ds d p r' h M N;simp only[bP,DJ,Prod.mk.injEq]at h;obtain⟨rfl,rfl,rfl⟩:=h;rw[(ig ts ds [] [] M).1]at N ⊢;exact hL ds N
theorem IY {a b:Nat} (h:a<b):Nat.blt a b=true:=Ey h
theorem QF {a b:Nat} (h:b<=a):Nat.blt a b=false:=by
 cases hb:Nat.blt a b with
 |false=>rfl|true=>have:=Dc hb;omega
theorem anT (nH:H<=1000):∀ k,k<=H->∀ f:be,(∀ j,j<k->al L (f j)=dJ G W j)->Ev (CL H G W) (.L0 (k:Int) k f) (.sl H (D L (dJ G W))):=by
 refine dB λk hk ih f hf=>?_;refine Ev.of rfl ?_;by_cases Q7:k<H
 ·have WK:E ((k:Int)+1)=((k+1:Nat):Int):=by rw[C8 K K];omega
  refine cP (BX K) (aF (BX K) (ac (aF ?_ (aL ?_))))
  ·simp only[D2];exact⟨BX ⟨D7 _,K⟩,rfl⟩
  ·rw [WK,De]
   refine ih Q7 _ λj hj=>?_;unfold bb;by_cases YD:j<k
   ·rw[IY YD];show al _ (al _ (f j))=_;rw[d9];exact hf j YD
   ·have:j=k:=by omega
    subst this;rw[QF (D7 _)];rfl
 ·have e:k=H:=by omega
  subst e;refine cW (eQ K) (aF (BX (D7 _)) (B5 ?_));exact B3 λi hi=>by show dj (al _ (f i))=dj (al _ (dJ G W i));rw[hf i hi];rfl
theorem hsz (hp:H<=1000):aT (Ev (CL H G W)) (Nw H G W) (.sl H (D L (dJ G W))):=bC λ_=>aH (anT H G W hp 0 (Da _) _ λj hj=>absurd hj (HG _))
theorem ai3 (hp:H<=1000):aT (Ev (CL H G W)) (Nw H G W) (.sl H (D L (dJ (D L G) W))):=hsz H G W hp
def nh2:List Ty:=[.sl L,.pd L]
def arw:List V->Prop
 |[.sl H _,.pd [.int _ _]]=>H<=1000|_=>False
def anX:List V->V
 |[.sl H G,.pd [.int _ W]]=>.sl H (D L (dJ G W))|_=>.any
def ER:aE:=bP nh2 arw anX
theorem xv (f:be) (h:Int) (i:Nat):nX 1 (D L (dJ f h) i)=true/\(dj (D L (dJ f h) i)).all bK=true/\(D L (dJ f h) i).all V.fc=true:=by refine⟨rfl,?_,rfl⟩;show(dj [A _]).all bK=true;simp only[dj,dq,EJ,bK,List.all_nil,JW]
theorem akj:∀ds d p r,ER ds=some (d,p,r)->d.1=d.2->p->XR 1 r/\∃n f,r=.sl n f/\∀i,i<n->(f i).all V.fc=true:=yaa (Q2:=λr=>XR 1 r/\∃n f,r=.sl n f/\∀i,i<n->(f i).all V.fc=true) λds hp=>by have hp:aB (aA ds)<=1000:=hp;exact⟨⟨_,_,rfl,(by omega:aB (aA ds)<=9223372036854775807),λi hi=>⟨(xv _ _ i).1,(xv _ _ i).2.1⟩,(by simp only[dj,List.all_nil]:(dj []).all bK=true)⟩,_,_,rfl,λi hi=>(xv _ _ i).2.2⟩
theorem aux:(vL 1 3 ER).Ok Tryz.prog 123:=ayH amS Tryz.func123 bw λds hp=>kr (no7 ..) (ai3 _ _ _ hp)
theorem afg:(vN ER).Ok Tryz.prog 123:=aos aux akj
theorem id7:∀ds d p r,ER ds=some (d,p,r)->d.1=d.2->p->Ix r:=(awu aux akj).2
def Hs:bm:=(123,.conN ER id7)::Cj
theorem am3:aZ Tryz.prog Bs C3 Hs:=.conN afg (amS)
def abT:RT Empty:=.obp (n1<=(1000:Nat)) (.obp (n3<=(1000:Nat)) (.ret (V.agg [V.str s0,V.sl n1 (D L f1),V.sl n3 (D L f3),V.sl n5 (D [Ty.sl L] q),A Z,A Y,V.sl n1 (D L (dJ (D L f1) x9)),V.sl n3 (D L (dJ (D L f3) x9)),A x9])))
theorem nf6:cY cZ (Vr JJ Hs u0 alH [V.agg [V.str s0,V.sl n1 (D L f1),V.sl n3 (D L f3),V.sl n5 (D [Ty.sl L] q),A Z,A Y],A x9]) (abT s0 n1 f1 n3 f3 n5 q Z Y x9):=bD
theorem ao4 {ct:bm} {f:FuncId} {fn:Func} {sf:aK} {un:l8} {ts:List Ty} {pre:List V->Prop} {r:List V->V} (hT:aZ Tryz.prog Bs C3 ct) (hf:Tryz.prog.funcs[f]? = some fn) (hk:Jg fn sf ts=(false,some sf,true,true)) (hg:∀ ds,pre (al ts ds)->eH (r (al ts ds))) (h:∀ ds,pre (al ts ds)->J3 ct (Vr JJ ct un sf (al ts ds)) (r (al ts ds))):(vZ (bP ts pre r)).Ok Tryz.prog f :=
 nu3 (J:=JJ) (un:=un) hT hE hI hf (ft hk).1 (ft hk).2.1 (ft hk).2.2.1 (ft hk).2.2.2 hg λw0 ds hp=>h ds hp hT.dst w0
def BQ:List Ty:=[.agg ap,tI]
def aad:List V->Prop
 |[.agg [.str _,.sl n1 _,.sl n3 _,.sl _ _,.int _ _,.int _ _],.int _ _]=>n1<=1000/\n3<=1000|_=>False
def QB:List V->V
 |[.agg [.str s0,.sl n1 f1,.sl n3 f3,.sl n5 q,.int k7 Z,.int k8 Y],.int _ x9]=>.agg [.str s0,.sl n1 f1,.sl n3 f3,.sl n5 q,.int k7 Z,.int k8 Y,.sl n1 (D L (dJ f1 x9)),.sl n3 (D L (dJ f3 x9)),A x9]|_=>.any
def MU:aE:=bP BQ aad QB
theorem aly (hp:n1<=1000/\n3<=1000):aT cM (abT s0 n1 f1 n3 f3 n5 q Z Y x9) (.agg [V.str s0,V.sl n1 (D L f1),V.sl n3 (D L f3),V.sl n5 (D [Ty.sl L] q),A Z,A Y,V.sl n1 (D L (dJ (D L f1) x9)),V.sl n3 (D L (dJ (D L f3) x9)),A x9]):=aI hp.1 (aI hp.2 (B5 rfl))
theorem nW (vs:List V):iK (al L vs):=by show iK [V.int _ _];simp only[iK,eH,and_self]
theorem LE (vs:List V):iK (al [Ty.sl L] vs):=by show iK [V.sl (aB (aA vs)) (D L (bL (aA vs)))];simp only[iK,eH,and_true];exact λi hi=>nW _
theorem hs4 (ds:List V):eH (QB (al BQ ds)):=by show eH (.agg [V.str _,V.sl _ (D L _),V.sl _ (D L _),V.sl _ (D [Ty.sl L] _),V.int _ _,V.int _ _,V.sl _ (D L _),V.sl _ (D L _),V.int _ _]);simp only[eH,iK,Dq,and_true];exact⟨λi hi=>nW _,λi hi=>nW _,λi hi=>LE _,λi hi=>nW _,λi hi=>nW _⟩
theorem auo:∀ ds d p r,MU ds=some (d,p,r)->d.1=d.2->p->∀ w0 lh args,bI w0 lh Nu.nil ds args->∃ x new,vr w0 (lh++new) Nu.nil r x:=alb (λds Sk hp w0 lh args ha=>by
 have hp:aB (aA (I (eD (aA ds))))<=1000/\aB (aA (I (I (eD (aA ds)))))<=1000:=hp;change bI w0 lh Nu.nil [V.agg [V.str _,V.sl _ _,V.sl _ _,V.sl _ _,V.int _ _,V.int _ _],V.int _ _] args at ha;simp only[bI]at ha;obtain⟨a,as1,rfl,M,b,bs,rfl,N,rfl⟩:=ha;rw[vr.eq_5]at M;obtain⟨cs,rfl,M⟩:=M;simp only[bI]at M;obtain⟨c0,_,rfl,g0,c1,_,rfl,g1,c2,_,rfl,g2,c3,_,rfl,g3,c4,_,rfl,g4,ybb,_,rfl,g5,rfl⟩:=M;obtain⟨x6,yx,g6⟩:=GV (w0:=w0) (lh:=lh) (e:=1) (n:=aB (aA (I (eD (aA ds))))) (f:=D L (dJ (D L (bL (aA (I (eD (aA ds)))))) (aP ds))) K λi hi=>xv _ _ i;obtain⟨Z,yar,ybm⟩:=GV (w0:=w0) (lh:=lh++yx) (e:=1) (n:=aB (aA (I (I (eD (aA ds)))))) (f:=D L (dJ (D L (bL (aA (I (I (eD (aA ds))))))) (aP ds))) K λi hi=>xv _ _ i;have z:∀(l t:List ar),wY l (l++t):=λl t k as1 ty hk=>by rw[DW (List.getElem?_eq_some_iff.1 hk).1];exact hk
 have up:∀v a,vr w0 lh Nu.nil v a->vr w0 (lh++(yx++yar)) Nu.nil v a:=λv a h=>nI (z _ _) v a h;refine⟨.agg [c0,c1,c2,c3,c4,ybb,x6,Z,ak.int .i64 (aP ds)],yx++yar,?_⟩;show vr w0 _ Nu.nil (.agg [V.str _,V.sl _ _,V.sl _ _,V.sl _ _,V.int _ _,V.int _ _,V.sl _ _,V.sl _ _,V.int _ _]) _;rw[vr.eq_5];simp only[bI];refine⟨_,rfl,_,_,rfl,up _ _ g0,_,_,rfl,up _ _ g1,_,_,rfl,up _ _ g2,_,_,rfl,up _ _ g3,_,_,rfl,up _ _ g4,_,_,rfl,up _ _ g5,_,_,rfl,?_,_,_,rfl,?_,_,_,rfl,?_,rfl⟩
 ·rw[← Ic];exact nI (z _ _) _ _ g6
 ·rw[← Ic];exact ybm
 ·simp only[vr]) rfl
theorem hW':(vZ MU).Ok Tryz.prog 65:=ao4 am3 Tryz.func65 bw (λds _=>hs4 ds) λds hp=>da (nf6 ..) (aly _ _ _ _ _ _ _ _ _ _ hp)
def pp:bm:=(243,.inl Sy u0)::(65,.conZ MU auo)::Hs
theorem mZ:aZ Tryz.prog Bs C3 pp:=iq Tryz.func243 bw (.conZ hW' (am3))
def abv:RT Empty:=.br (S !=S) (.ob (S !=S) (.ii (.obi (.ret (V.bool (bif !R !=R then true else decide (S<R))))))) (.ret (V.bool (decide (S<R))))
theorem ic6:cY cZ (aQ JJ pp u0 ba2 [A S,A R]) (abv S R):=bD
def ql:Bool:=bif S !=S then bif !R !=R then true else decide (S<R) else decide (S<R)
def HX:V:=.bool (ql S R)
theorem aew:aT cM (abv S R) (HX S R):=C2 (λh0=>aF (by first|assumption|(fail)) (B1 (B1 (B1 (B5 (by unfold HX ql;try rw[h0];rfl)))))) (λh0=>B5 (by unfold HX ql;try rw[h0];rfl))
def ab5:aE:=bP aM (λ_=>True) λ|[.int _ S,.int _ R]=>HX S R|_=>.any
theorem agG:b9 ab5 227:=aU mZ λ_ hp=>da (ic6 ..) (aew _ _)
def abB:RT Empty:=.ret (V.bool (S !=S))
theorem yae:cY cZ (aQ JJ pp u0 ev2 [A S]) (abB S):=bD
def oD:Bool:=S !=S
def Tr:V:=.bool (oD S)
theorem ajN:aT cM (abB S) (Tr S):=B5 (by unfold Tr oD;rfl)
def aa6:aE:=bP L (λ_=>True) λ|[.int _ S]=>Tr S|_=>.any
theorem afz:b9 aa6 228:=aU mZ λ_ hp=>da (yae ..) (ajN _)
def adE:RT Empty:=.cb (.obi (.br (!!aw S 0 200000) (.ob (!!aw S 0 200000) (.cb (.obi (.br (!!aw R 0 600) (.ob (!!aw R 0 600) (.cb (.ret (V.bool !aw W 0 1000)))) (.ret (V.kb true)))))) (.ret (V.kb true))))
theorem ig4:cY cZ (aQ JJ pp u0 fh8 [V.agg [A S,A R,A W]]) (adE S R W):=bD
def jc:Bool:=bif !!aw S 0 200000 then bif !!aw R 0 600 then !aw W 0 1000 else true else true
def Fc:V:=.bool (jc S R W)
theorem akz:aT cM (adE S R W) (Fc S R W):=ao (ac (B1 (C2 (λh0=>aF (by first|assumption|(fail)) (ao (ac (B1 (C2 (λM=>aF (by first|assumption|(fail)) (ao (ac (B5 (by unfold Fc jc;try rw[h0];try rw[M];rfl))))) (λM=>B5 (by unfold Fc jc;try rw[h0];try rw[M];rfl))))))) (λh0=>B5 (by unfold Fc jc;try rw[h0];rfl)))))
def aaG:aE:=bP [.agg cI] (λ_=>True) λ|[.agg [.int _ S,.int _ R,.int _ W]]=>Fc S R W|_=>.any
theorem aj6:b9 aaG 94:=aU mZ λ_ hp=>da (ig4 ..) (akz _ _ _)
def hdj:RT Empty:=.cb (.obi (.br (!!aG S 0 200000) (.ob (!!aG S 0 200000) (.cb (.obi (.br (!!aG R 0 600) (.ob (!!aG R 0 600) (.cb (.br (!aG W 0 1000) (.ret (A 7)) (.ret (A 0))))) (.ret (A 7)))))) (.ret (A 7))))
theorem ih1:cY cZ (aQ JJ pp u0 aid [V.agg [A S,A R,A W]]) (hdj S R W):=bD
def gi:Int:=bif !!aG S 0 200000 then bif !!aG R 0 600 then bif !aG W 0 1000 then 7 else 0 else 7 else 7
def zW:V:=A (gi S R W)
theorem ah7:aT cM (hdj S R W) (zW S R W):=ao (ac (B1 (C2 (λh0=>aF (by first|assumption|(fail)) (ao (ac (B1 (C2 (λM=>aF (by first|assumption|(fail)) (ao (ac (C2 (λN=>B5 (by unfold zW gi;try rw[h0];try rw[M];try rw[N];rfl)) (λN=>B5 (by unfold zW gi;try rw[h0];try rw[M];try rw[N];rfl)))))) (λM=>B5 (by unfold zW gi;try rw[h0];try rw[M];rfl))))))) (λh0=>B5 (by unfold zW gi;try rw[h0];rfl)))))
def adS:aE:=bP [.agg cI] (λ_=>True) λ|[.agg [.int _ S,.int _ R,.int _ W]]=>zW S R W|_=>.any
theorem ajO:b9 adS 111:=aU mZ λ_ hp=>da (ih1 ..) (ah7 _ _ _)
def hdi:RT Empty:=.cb (.ret (V.bool (aG S (-200000) 200000)))
theorem ih4:cY cZ (aQ JJ pp u0 ajg [A S]) (hdi S):=bD
def dV:Bool:=aG S (-200000) 200000
def TJ:V:=.bool (dV S)
theorem aeu:aT cM (hdi S) (TJ S):=ao (ac (B5 (by unfold TJ dV;rfl)))
def aaq:aE:=bP L (λ_=>True) λ|[.int _ S]=>TJ S|_=>.any
theorem agd:b9 aaq 167:=aU mZ λ_ hp=>da (ih4 ..) (aeu _)
def adP:RT Empty:=.ret (V.tup [A (E (E (S*E (E (U*x5)-Q))+E (R*E (Q-E (W*x5))))),A (E (E (U-W)*x5))])
theorem x13:cY cZ (aQ JJ pp u0 aez [A S,A R,A W,A U,A Q,A x5]) (adP S R W U Q x5):=bD
def d4:Int:=E (E (S*E (E (U*x5)-Q))+E (R*E (Q-E (W*x5))))
def cS:Int:=E (E (U-W)*x5)
def PT:V:=.tup [A (d4 S R W U Q x5),A (cS W U x5)]
theorem ak9:aT cM (adP S R W U Q x5) (PT S R W U Q x5):=B5 (by unfold PT d4 cS;rfl)
def hdx:aE:=bP [tI,tI,tI,tI,tI,tI] (λ_=>True) λ|[.int _ S,.int _ R,.int _ W,.int _ U,.int _ Q,.int _ x5]=>PT S R W U Q x5|_=>.any
theorem agP:b9 hdx 208:=aU mZ λ_ hp=>da (x13 ..) (ak9 _ _ _ _ _ _)
def ade:RT Empty:=.cb (.iv (.br (!!aw Q 1 30000) (.ob (!!aw Q 1 30000) (.ob (!!aw Q 1 30000) (.ob (!!aw Q 1 30000) (.ob (!!aw Q 1 30000) (.cb (.br (!ES 4 (D L (b5 [A S,A R,A W,A U] 0 1)) (-200000) 200000) (.ret (A 7)) (.iv (.obi (.br (bif decide (R<S) then true else decide (U<W)) (.ret (A 2)) (.ret (A 0))))))))))) (.ret (A 7))))
theorem m17:cY cZ (aQ JJ pp u0 awm [V.agg [A S,A R,A W,A U],A Q]) (ade S R W U Q):=bD
def gL:Int:=bif !!aw Q 1 30000 then bif !ES 4 (D L (b5 [A S,A R,A W,A U] 0 1)) (-200000) 200000 then 7 else bif bif decide (R<S) then true else decide (U<W) then 2 else 0 else 7
def AO:V:=A (gL S R W U Q)
theorem akl:aT cM (ade S R W U Q) (AO S R W U Q):=ao (ac (B1 (B1 (B1 (B1 (C2 (λh0=>aF (by first|assumption|(fail)) (aF (by first|assumption|(fail)) (aF (by first|assumption|(fail)) (aF (by first|assumption|(fail)) (ao (ac (C2 (λM=>B5 (by unfold AO gL;try rw[h0];try rw[M];rfl)) (λM=>B1 (B1 (B1 (B1 (B1 (C2 (λN=>B5 (by unfold AO gL;try rw[h0];try rw[M];try rw[N];rfl)) (λN=>B5 (by unfold AO gL;try rw[h0];try rw[M];try rw[N];rfl))))))))))))))) (λh0=>B5 (by unfold AO gL;try rw[h0];rfl))))))))
def acZ:aE:=bP [.agg gV,tI] (λ_=>True) λ|[.agg [.int _ S,.int _ R,.int _ W,.int _ U],.int _ Q]=>AO S R W U Q|_=>.any
theorem akt:b9 acZ 64:=aU mZ λ_ hp=>da (m17 ..) (akl _ _ _ _ _)
def aaH:RT Empty:=dm (s0,n5,q,Z,Y) (.ob (decide ((0:Int)<=0/\0<(n1:Int))) (.ii (.obi (.asm (decide (E (av (f1 0)*Pr)<=x9)=true->n1<=9223372036854775807) (.ii (.obi (.obj (decide (E (av (f1 0)*Pr)<=x9)) (dI (E ((n1:Int)-1)) n1) (.iv (.iv (.obj (bif decide (E (av (f1 0)*Pr)<=x9) then decide (x9<=E (av (f1 (E ((n1:Int)-1)).toNat)*Pr)) else false) (decide ((0:Int)<=0/\0<(n3:Int))) (.iv (.iv (.obi (.asm ((bif bif decide (E (av (f1 0)*Pr)<=x9) then decide (x9<=E (av (f1 (E ((n1:Int)-1)).toNat)*Pr)) else false then decide (E (av (f3 0)*Pr)<=Ps) else false)=true->n3<=9223372036854775807) (.ii (.obi (.obj (bif bif decide (E (av (f1 0)*Pr)<=x9) then decide (x9<=E (av (f1 (E ((n1:Int)-1)).toNat)*Pr)) else false then decide (E (av (f3 0)*Pr)<=Ps) else false) (dI (E ((n3:Int)-1)) n3) (.iv (.ii (.ret (V.bool (bif bif bif decide (E (av (f1 0)*Pr)<=x9) then decide (x9<=E (av (f1 (E ((n1:Int)-1)).toNat)*Pr)) else false then decide (E (av (f3 0)*Pr)<=Ps) else false then decide (Ps<=E (av (f3 (E ((n3:Int)-1)).toNat)*Pr)) else false))))))))))))))))))))))
theorem vro:cY cZ (aQ JJ pp u0 aiV [V.agg [V.str s0,V.sl n1 (D L f1),V.sl n3 (D L f3),V.sl n5 (D [Ty.sl L] q),A Z,A Y],A x9,A Ps,A Pr]) (aaH s0 n1 f1 n3 f3 n5 q Z Y x9 Ps Pr):=bD
def fR:Bool:=bif bif bif decide (E (av (f1 0)*Pr)<=x9) then decide (x9<=E (av (f1 (E ((n1:Int)-1)).toNat)*Pr)) else false then decide (E (av (f3 0)*Pr)<=Ps) else false then decide (Ps<=E (av (f3 (E ((n3:Int)-1)).toNat)*Pr)) else false
def M4:V:=dm (s0,n5,q,Z,Y) (.bool (fR n1 f1 n3 f3 x9 Ps Pr))
theorem alY (hp:(1<=n1/\n1<=1000)/\(1<=n3/\n3<=1000)):aT cM (aaH s0 n1 f1 n3 f3 n5 q Z Y x9 Ps Pr) (M4 s0 n1 f1 n3 f3 n5 q Z Y x9 Ps Pr):=aF (by first|assumption|((first|exact BX K|(rw[C8 K K];exact BX K)))) (B1 (B1 (B1 (D3 (λa0=>B1 (B1 (B1 (DY (by first|assumption|((intro _;(first|exact BX K|(rw[C8 K K];exact BX K))))) (B1 (B1 (B1 (B1 (B1 (B1 (B1 (B1 (DY (by first|assumption|((intro _;(first|exact BX K|(rw[C8 K K];exact BX K))))) (B1 (B1 (B1 (B1 (B1 (B1 (B1 (B1 (B1 (D3 (λa0=>B1 (B1 (B1 (DY (by first|assumption|((intro _;(first|exact BX K|(rw[C8 K K];exact BX K))))) (B1 (B1 (B1 (B1 (B1 (B1 (B5 (by unfold M4 fR;rfl)))))))))))))))))))))))))))))))))))))))
def aam:aE:=bP [.agg ap,tI,tI,tI] (λ
 |[.agg [.str s0,.sl n1 f1,.sl n3 f3,.sl n5 q,.int _ Z,.int _ Y],.int _ x9,.int _ Ps,.int _ Pr]=>(1<=n1/\n1<=1000)/\(1<=n3/\n3<=1000)|_=>False) λ
 |[.agg [.str s0,.sl n1 f1,.sl n3 f3,.sl n5 q,.int _ Z,.int _ Y],.int _ x9,.int _ Ps,.int _ Pr]=>M4 s0 n1 f1 n3 f3 n5 q Z Y x9 Ps Pr|_=>.any
theorem ic11:b9 aam 169:=aU mZ λ_ hp=>da (vro ..) (alY _ _ _ _ _ _ _ _ _ _ _ _ hp)
def hd2:RT Empty:=dm (s0,n1,f1,n3,f3,n5,q,Z,Y,Q8) (.ob (decide ((0:Int)<=0/\0<(n9:Int))) (.am n9 (.ob (dI (E ((n9:Int)-1)) n9) (.cb (.ii (.obj (aw QJ (av (f9 0)) (av (f9 (E ((n9:Int)-1)).toNat))) (decide ((0:Int)<=0/\0<(Pq:Int))) (.iv (.asm (aw QJ (av (f9 0)) (av (f9 (E ((n9:Int)-1)).toNat))=true->Pq<=9223372036854775807) (.ii (.obi (.obj (aw QJ (av (f9 0)) (av (f9 (E ((n9:Int)-1)).toNat))) (dI (E ((Pq:Int)-1)) Pq) (.obi (.br (aw QJ (av (f9 0)) (av (f9 (E ((n9:Int)-1)).toNat))) (.ob (aw QJ (av (f9 0)) (av (f9 (E ((n9:Int)-1)).toNat))) (.ob (aw QJ (av (f9 0)) (av (f9 (E ((n9:Int)-1)).toNat))) (.ob (aw QJ (av (f9 0)) (av (f9 (E ((n9:Int)-1)).toNat))) (.cb (.ret (V.bool (aw QQ (av (Pp 0)) (av (Pp (E ((Pq:Int)-1)).toNat))))))))) (.ret (V.kb false)))))))))))))))
theorem x17:cY cZ (aQ JJ pp u0 azE [V.agg [V.str s0,V.sl n1 (D L f1),V.sl n3 (D L f3),V.sl n5 (D [Ty.sl L] q),A Z,A Y,V.sl n9 (D L f9),V.sl Pq (D L Pp),A Q8],A QJ,A QQ]) (hd2 s0 n1 f1 n3 f3 n5 q Z Y n9 f9 Pq Pp Q8 QJ QQ):=bD
def bz:Bool:=bif aw QJ (av (f9 0)) (av (f9 (E ((n9:Int)-1)).toNat)) then aw QQ (av (Pp 0)) (av (Pp (E ((Pq:Int)-1)).toNat)) else false
def JK:V:=dm (s0,n1,f1,n3,f3,n5,q,Z,Y,Q8) (.bool (bz n9 f9 Pq Pp QJ QQ))
theorem akf (hp:(1<=n9/\n9<=1000)/\(1<=Pq/\Pq<=1000)):aT cM (hd2 s0 n1 f1 n3 f3 n5 q Z Y n9 f9 Pq Pp Q8 QJ QQ) (JK s0 n1 f1 n3 f3 n5 q Z Y n9 f9 Pq Pp Q8 QJ QQ):=aF (by first|assumption|((first|exact BX K|(rw[C8 K K];exact BX K)))) (D3 (λa0=>aF (by first|assumption|((first|exact BX K|(rw[C8 K K];exact BX K)))) (ao (ac (B1 (B1 (DY (by first|assumption|((intro _;(first|exact BX K|(rw[C8 K K];exact BX K))))) (B1 (B1 (B1 (B1 (D3 (λa0=>B1 (B1 (B1 (DY (by first|assumption|((intro _;(first|exact BX K|(rw[C8 K K];exact BX K))))) (B1 (C2 (λh0=>aF (by first|assumption|((first|exact BX K|(rw[C8 K K];exact BX K)))) (aF (by first|assumption|((first|exact BX K|(rw[C8 K K];exact BX K)))) (aF (by first|assumption|((first|exact BX K|(rw[C8 K K];exact BX K)))) (ao (ac (B5 (by unfold JK bz;try rw[h0];rfl))))))) (λh0=>B5 (by unfold JK bz;try rw[h0];rfl))))))))))))))))))))
def ads:aE:=bP [.agg [.str,.sl L,.sl L,.sl [.sl L],tI,tI,.sl L,.sl L,tI],tI,tI] (λ
 |[.agg [.str s0,.sl n1 f1,.sl n3 f3,.sl n5 q,.int _ Z,.int _ Y,.sl n9 f9,.sl Pq Pp,.int _ Q8],.int _ QJ,.int _ QQ]=>(1<=n9/\n9<=1000)/\(1<=Pq/\Pq<=1000)|_=>False) λ
 |[.agg [.str s0,.sl n1 f1,.sl n3 f3,.sl n5 q,.int _ Z,.int _ Y,.sl n9 f9,.sl Pq Pp,.int _ Q8],.int _ QJ,.int _ QQ]=>JK s0 n1 f1 n3 f3 n5 q Z Y n9 f9 Pq Pp Q8 QJ QQ|_=>.any
theorem ag4:b9 ads 127:=aU mZ λ_ hp=>da (x17 ..) (akf _ _ _ _ _ _ _ _ _ _ _ _ _ _ _ _ hp)
end
end Go.Dx
namespace Go.Dx
noncomputable section
theorem aoD {a b:Bool} (h:(a&&b)=true):a=true:=by cases a<;>simp_all
theorem ara {a b:Bool} (h:(a&&b)=true):b=true:=by cases a<;>simp_all
end
end Go.Dx
namespace Go.Dx
open Go.IntKind (i64 u64 u8)
open Go.Sx Go.Proofs
variable (H:Nat) (G:be) (S:Int) (s0:ByteArray) (n1:Nat) (f1:be) (R:Int) (s1:ByteArray) (T:Nat) (O:be) (W:Int) (n3:Nat) (f3:be) (U:Int) (n4:Nat) (f4:be) (Q:Int) (n5:Nat) (q:be) (x5:Int) (n6:Nat) (f6:be) (x6 Z Y:Int) (n9:Nat) (f9:be) (x9:Int) (Sf:Nat) (Us:be) (Ps:Int) (Pq:Nat) (Pp:be) (Pr:Int) (SD:Nat) (Rl:be) (Px Q8 QJ QQ QU Py:Int)
noncomputable section
def tg:bm:=(227,.con ab5)::(228,.con aa6)::(94,.con aaG)::(111,.con adS)::(167,.con aaq)::(208,.con hdx)::(64,.con acZ)::(169,.con aam)::(127,.con ads)::pp
theorem zq:aZ Tryz.prog Bs C3 tg:=.con agG (.con afz (.con aj6 (.con ajO (.con agd (.con agP (.con akt (.con ic11 (.con ag4 (mZ)))))))))
def aa8:RT Empty:=.cb (.obi (.br (!!aG Q 1 30000) (.ob (!!aG Q 1 30000) (.cb (.obi (.br (!!dV S) (.ob (!!dV S) (.cb (.obi (.br (!!dV R) (.ob (!!dV R) (.cb (.obi (.br (!!dV W) (.ob (!!dV W) (.cb (.br (!dV U) (.ret (A 7)) (.iv (.obi (.br (bif decide (R<S) then true else decide (U<W)) (.ret (A 2)) (.ret (A 0)))))))) (.ret (A 7)))))) (.ret (A 7)))))) (.ret (A 7)))))) (.ret (A 7))))
theorem orC:cY cZ (aQ JJ tg u0 aju [V.agg [A S,A R,A W,A U],A Q]) (aa8 S R W U Q):=bD
def fi:Int:=bif !!aG Q 1 30000 then bif !!dV S then bif !!dV R then bif !!dV W then bif !dV U then 7 else bif bif decide (R<S) then true else decide (U<W) then 2 else 0 else 7 else 7 else 7 else 7
def ub:V:=A (fi S R W U Q)
theorem aii:aT cM (aa8 S R W U Q) (ub S R W U Q):=ao (ac (B1 (C2 (λh0=>aF (by first|assumption|(fail)) (ao (ac (B1 (C2 (λM=>aF (by first|assumption|(fail)) (ao (ac (B1 (C2 (λN=>aF (by first|assumption|(fail)) (ao (ac (B1 (C2 (λh3=>aF (by first|assumption|(fail)) (ao (ac (C2 (λh4=>B5 (by unfold ub fi;try rw[h0];try rw[M];try rw[N];try rw[h3];try rw[h4];rfl)) (λh4=>B1 (B1 (B1 (B1 (B1 (C2 (λh5=>B5 (by unfold ub fi;try rw[h0];try rw[M];try rw[N];try rw[h3];try rw[h4];try rw[h5];rfl)) (λh5=>B5 (by unfold ub fi;try rw[h0];try rw[M];try rw[N];try rw[h3];try rw[h4];try rw[h5];rfl)))))))))))) (λh3=>B5 (by unfold ub fi;try rw[h0];try rw[M];try rw[N];try rw[h3];rfl))))))) (λN=>B5 (by unfold ub fi;try rw[h0];try rw[M];try rw[N];rfl))))))) (λM=>B5 (by unfold ub fi;try rw[h0];try rw[M];rfl))))))) (λh0=>B5 (by unfold ub fi;try rw[h0];rfl)))))
def adH:aE:=bP [.agg gV,tI] (λ_=>True) λ|[.agg [.int _ S,.int _ R,.int _ W,.int _ U],.int _ Q]=>ub S R W U Q|_=>.any
theorem afj:b9 adH 112:=aU zq λ_ hp=>da (orC ..) (aii _ _ _ _ _)
inductive tO where|L0 (_ _:Int)
def is6:tO->bS×List Ax×Option Ex
 |.L0 Pt Qf=>([(8,A Pt),(7,A Qf),(6,A (H:Int)),(0,V.sl H (D L G)),(1,A W)],[],none)
def aiD:tO->JJ
 |.L0 ..=>(0,[])
def h24:Bh (cq JJ):=aQ JJ tg u0 f13 [V.sl H (D L G),A W]
def R65 (cx:List Cx):Lp JJ:=eX (eJ (h24 H G W) [])
def alc:JJ->Lp JJ
 |(0,cx)=>R65 H G W cx|(_,cx)=>R65 H G W cx
def aob:LD JJ tO:=⟨aiD,alc H G W,is6 H G W⟩
def yE:tO->RT tO
 |.L0 Pt Qf=>.br (decide (Qf<Pt)) (.obt (.ob (dI (E ((u64.wrap (E (Qf+Pt))).fdiv (2 ^ 1))) H) (.cb (.br (ql (av (G (E ((u64.wrap (E (Qf+Pt))).fdiv (2 ^ 1))).toNat)) W) (.next [] (tO.L0 Pt (E (E ((u64.wrap (E (Qf+Pt))).fdiv (2 ^ 1))+1))) []) (.next [] (tO.L0 (E ((u64.wrap (E (Qf+Pt))).fdiv (2 ^ 1))) Qf) []))))) (.ii (.obj (decide (Qf<(H:Int))) (dI Qf H) (.iv (.ii (.obj (decide (Qf<(H:Int))&&!av (G Qf.toNat)==W) (dI Qf H) (.obi (.br (decide (Qf<(H:Int))&&!av (G Qf.toNat)==W) (.ob (decide (Qf<(H:Int))&&!av (G Qf.toNat)==W) (.cb (.br (oD (av (G Qf.toNat))) (.ob (oD (av (G Qf.toNat))) (.cb (.obi (.ret (V.tup [A Qf,V.bool (bif decide (Qf<(H:Int)) then oD W else false)]))))) (.obi (.ret (V.tup [A Qf,V.bool (bif decide (Qf<(H:Int)) then false else false)])))))) (.obi (.obj (decide (Qf<(H:Int))&&!av (G Qf.toNat)==W) (false) (.ii (.br (av (G Qf.toNat)==W) (.obi (.ret (V.tup [A Qf,V.bool (bif decide (Qf<(H:Int)) then true else false)]))) (.obi (.bry (decide (Qf<(H:Int))) (.ret (V.tup [A Qf,V.kb false])))))))))))))))
def O4:RT tO:=dm (G,W) (.am H (.enter [] (tO.L0 ((H:Int)) 0) []))
theorem yag:dZ tg u0 (aob H G W) (h24 H G W) (O4 H G W) (yE H G W):=⟨bD,λs=>by cases s<;>exact bD⟩
def Fl (f:Nat->Int) (t:Int):Nat->Nat->Nat->Nat
 |0,i,_=>i|d+1,i,j=>bif Nat.blt i j then bif decide (f ((i+j) / 2)<t) then Fl f t d ((i+j) / 2+1) j else Fl f t d i ((i+j) / 2) else i
def IA:Nat:=Fl (λk=>av (G k)) W H 0 H
def jV (H:Nat) (G:be) (W:Int):Int:=(IA H G W:Int)
def kS (H:Nat) (G:be) (W:Int):Bool:=bif decide ((IA H G W:Int)<(H:Int)) then av (G (IA H G W))==W else false
theorem atN {i j:Nat} (h:i+j<=2000):E ((u64.wrap (E ((i:Int)+(j:Int)))).fdiv (2 ^ 1))=(((i+j) / 2:Nat):Int):=by
 rw[C8 (x:=(i:Int)+(j:Int)) K K];have:u64.wrap ((i:Int)+(j:Int))=(i:Int)+(j:Int):=by simp only[IntKind.wrap,IntKind.bits,IntKind.signed,Bool.false_and];rw[C4 au];omega
 rw[this,JD _ aR,C8 K K];omega
theorem anE (x:Int):oD x=false:=by unfold oD;simp
theorem asw {b:Bool} (h:(!b)=true):b=false:=by cases b<;>first|rfl|cases h
theorem al2 (x y:Int):ql x y=decide (x<y):=by unfold ql;simp
theorem atf (hn:H<=1000):∀ d i j:Nat,j-i<=d->i<=j->j<=H->Fl (λk=>av (G k)) W d i j=IA H G W->Ev (yE H G W) (.L0 (j:Int) (i:Int)) (.tup [A (jV H G W),.bool (kS H G W)]):=by
 intro d;have exit:∀ i j:Nat,j<=i->j<=H->i<=j->i=IA H G W->Ev (yE H G W) (.L0 (j:Int) (i:Int)) (.tup [A (jV H G W),.bool (kS H G W)]):=by
  intro i j M N h3 e;refine Ev.of rfl (cW (eQ K) ?_);refine B1 (B1 (DY (λh=>BX (by have:=DU h;omega)) ?_));refine B1 (B1 (B1 (B1 (B1 (B1 (DY (λh=>BX (by have:=DU (aoD h);omega)) (B1 ?_)))))));have Qv:∀b,b=kS H G W->dq (V.tup [A (i:Int),V.bool b])=dq (V.tup [A (jV H G W),V.bool (kS H G W)]):=λb hb=>by unfold jV;rw[← e,hb]
  have Ur:kS H G W=bif decide ((i:Int)<(H:Int)) then av (G i)==W else false:=by unfold kS;rw[← e]
  rw[De];refine C2 (λh=>aF h (ao (ac (cW (anE _) (B1 (B5 (Qv _ ?_))))))) (λh=>?_)
  ·rw[Ur,show(av (G i)==W)=false from asw (ara h)]
  ·refine B1 (DY (λh'=>absurd (h'.symm.trans h) aR) (B1 (B1 (C2 (λN=>B1 (B5 (Qv _ ?_))) (λN=>?_)))))
   ·rw[Ur,show(av (G i)==W)=true from N]
   ·have h3:decide ((i:Int)<(H:Int))=false:=by
     cases hd:decide ((i:Int)<(H:Int)) with
     |false=>rfl|true=>rw[hd,N]at h;cases h
    refine B1 (aci h3 (B5 ?_));exact Qv false (by rw[Ur,h3];rfl)
 induction d with
 |zero=>intro i j M N h3 e;exact exit i j K h3 N e
 |succ d ih=>
   intro i j M N h3 e;by_cases Q7:i<j
   ·refine Ev.of rfl (cP (BX K) (ac ?_))
    rw[atN K,De,al2];refine aF (BX K) (ao (ac (C2 (λh=>aL ?_) (λh=>aL ?_))))
    ·have e':Fl (λk=>av (G k)) W d ((i+j) / 2+1) j=IA H G W:=by
      rw[← e];show _=bif Nat.blt i j then _ else _
      rw[IY Q7,h];rfl
     have:=ih ((i+j) / 2+1) j K K h3 e';rwa [show E ((((i+j) / 2:Nat):Int)+1)=(((i+j) / 2+1:Nat):Int) by rw[C8 K K];omega]
    ·have e':Fl (λk=>av (G k)) W d i ((i+j) / 2)=IA H G W:=by
      rw[← e];show _=bif Nat.blt i j then _ else _
      rw[IY Q7,h];rfl
     exact ih i ((i+j) / 2) K K K e'
   ·refine exit i j K h3 N ?_
    rw[← e];show _=bif Nat.blt i j then _ else _
    rw[QF K];rfl
theorem htN (hp:H<=1000):aT (Ev (yE H G W)) (O4 H G W) (.tup [A (jV H G W),.bool (kS H G W)]):=bC λ_=>aH (atf H G W hp H 0 H K (Da _) (D7 _) rfl)
theorem agy (hp:H<=1000):aT (Ev (yE H G W)) (O4 H G W) (.tup [A (jV H (D L G) W),.bool (kS H (D L G) W)]):=htN H G W hp
def ad6:aE:=bP [.sl L,tI] (λ
 |[.sl H G,.int _ W]=>H<=1000|_=>False) λ
 |[.sl H G,.int _ W]=>.tup [A (jV H G W),.bool (kS H G W)]|_=>.any
theorem aie:b9 ad6 216:=aU zq λ_ hp=>kr (yag ..) (agy _ _ _ hp)
inductive tu where|L0 (_ _:Int)
def iz8:tu->bS×List Ax×Option Ex
 |.L0 Pt Qf=>([(8,A Pt),(7,A Qf),(0,V.sl H (D L G)),(1,A W),(2,A U)],[],none)
def ajX:tu->JJ
 |.L0 ..=>(0,[])
def fo2:Bh (cq JJ):=aQ JJ tg u0 amw [V.sl H (D L G),A W,A U]
def R85 (cx:List Cx):Lp JJ:=eX (eJ (fo2 H G W U) [])
def age:JJ->Lp JJ
 |(0,cx)=>R85 H G W U cx|(_,cx)=>R85 H G W U cx
def as9:LD JJ tu:=⟨ajX,age H G W U,iz8 H G W U⟩
def Cu:tu->RT tu
 |.L0 Pt Qf=>.am H (.br (decide (E (Pt+1)<(H:Int))) (.ob (dI Pt H) (.br (decide (E (av (G Pt.toNat)*U)<=W)) (.next [] (tu.L0 (E (Pt+1)) Pt) []) (.next [] (tu.L0 (E (Pt+1)) Qf) []))) (.ret (A Qf)))
def Ow:RT tu:=dm (H,G,W,U) (.enter [] (tu.L0 0 0) [])
theorem nc6:dZ tg u0 (as9 H G W U) (fo2 H G W U) (Ow H G W U) (Cu H G W U):=⟨bD,λs=>by cases s<;>exact bD⟩
def Mt (p:Nat->Bool):Nat->Nat
 |0=>0|k+1=>bif p k then k else Mt p k
def aS:Int:=(Mt (λi=>decide (E (av (G i)*U)<=W)) (H-1):Int)
theorem ia0:aT (Ev (Cu H G W U)) (Ow H G W U) (A (aS H G W U)):=by
 refine aH ?_;have key:∀ k,k<=H-1->Ev (Cu H G W U) (.L0 (k:Int) (Mt (λi=>decide (E (av (G i)*U)<=W)) k:Int)) (A (aS H G W U)):=by
  refine dB λk hk ih=>Ev.of rfl (bC λhn=>?_);by_cases Q7:k<H-1
  ·have hw:E ((k:Int)+1)=((k+1:Nat):Int):=by rw[C8 K K];omega
   rw[hw];refine cP (BX K) (aF (BX K) (C2 (λh=>aL ?_) (λh=>aL ?_)))
   ·have:=ih Q7;rw[De]at h;simp only[Mt,h,cond_true]at this;exact this
   ·have:=ih Q7;rw[De]at h;simp only[Mt,h,cond_false]at this;exact this
  ·refine cW (eQ ?_) (B5 ?_)
   ·rcases Fa (k+1) 9223372036854775808 with M|M
    ·rw[C8 K K];omega
    ·omega
   ·have:k=H-1:=by omega
    subst this;rfl
 exact key 0 (Da _)
theorem afW:aT (Ev (Cu H G W U)) (Ow H G W U) (A (aS H (D L G) W U)):=ia0 H G W U
def adc:aE:=bP [.sl L,tI,tI] (λ_=>True) λ|[.sl H G,.int _ W,.int _ U]=>A (aS H G W U)|_=>.any
theorem al1:b9 adc 207:=aU zq λ_ hp=>kr (nc6 ..) (afW _ _ _ _)
inductive vt where|L0 (_ _ _:Int)
def jfi (S R:Int) (T:Nat) (O:be):vt->bS×List Ax×Option Ex
 |.L0 Pt Qf RL=>([(9,A Pt),(8,A (T:Int)),(7,V.sl T (D aM O)),(4,V.pl 0 0),(2,V.pl 1 0)],[Ax.cells Dj 39,Ax.cells [A Qf,A RL] 39],none)
def afK:vt->JJ
 |.L0 ..=>(0,[])
def fm3:Bh (cq JJ):=aQ JJ tg u0 iS [V.agg [A S,A R],V.sl T (D aM O)]
def CvN (cx:List Cx):Lp JJ:=eX (eJ (fm3 S R T O) [])
def aem:JJ->Lp JJ
 |(0,cx)=>CvN S R T O cx|(_,cx)=>CvN S R T O cx
def apn:LD JJ vt:=⟨afK,aem S R T O,jfi S R T O⟩
def BE (S R:Int) (T:Nat) (O:be):vt->RT vt
 |.L0 Pt Qf RL=>.br (decide (Pt<(T:Int))) (.ob (dI Pt T) (.next Dv (vt.L0 (E (Pt+1)) (min Qf (av (O Pt.toNat))) (max RL (aP (O Pt.toNat)))) [])) (.ret (V.agg [A Qf,A RL]))
def MJ:RT vt:=dm O (.am T (.enter J4 (vt.L0 0 S R) []))
theorem nrT:dZ tg u0 (apn S R T O) (fm3 S R T O) (MJ S R T O) (BE S R T O):=⟨bD,λs=>by cases s<;>exact bD⟩
def d5:Int:=IE (λi=>av (O i)) S T
def d6:Int:=Br (λi=>aP (O i)) R T
theorem hx1:aT (Ev (BE S R T O)) (MJ S R T O) (.agg [A (d5 S T O),A (d6 R T O)]):=by refine bC λhn=>aH ?_;refine EL hn (P:=λx=>Ev (BE S R T O) (.L0 x (IE (λi=>av (O i)) S x.toNat) (Br (λi=>aP (O i)) R x.toNat)) (.agg [A (d5 S T O),A (d6 R T O)])) (λi Q7 nx=>?_) (Ev.of rfl (dl (B5 rfl)));rw[show(E ((i:Int)+1)).toNat=i+1 by rw[kE Q7 hn];rfl]at nx;exact Ev.of rfl (dt Q7 (cX Q7 (aL nx)))
theorem ahP:aT (Ev (BE S R T O)) (MJ S R T O) (.agg [A (d5 S T (D aM O)),A (d6 R T (D aM O))]):=hx1 S R T O
def aaR:aE:=bP [.agg aM,.sl aM] (λ_=>True) λ|[.agg [.int _ S,.int _ R],.sl T O]=>.agg [A (d5 S T O),A (d6 R T O)]|_=>.any
theorem aeQ:b9 aaR 124:=aU zq λ_ hp=>kr (nrT ..) (ahP _ _ _ _)
def HD:bm:=(112,.con adH)::(216,.con ad6)::(207,.con adc)::(124,.con aaR)::tg
theorem hY':aZ Tryz.prog Bs C3 HD:=.con afj (.con aie (.con al1 (.con aeQ (zq))))
inductive pK where|L0 (_:Int)|L1 (_:Int) (_:Nat) (_:be)
def ldV:pK->bS×List Ax×Option Ex
 |.L0 Pt=>([(10,A Pt),(9,V.ss 0 0 2 2),(0,V.sl H (D L G)),(1,A W),(2,A U),(3,A Q)],[Ax.cells [A (E (1000*W)),A (E (1000*U))] 3],none)|.L1 QV Tv RU=>([(10,A QV),(9,V.gs 0 Tv),(0,V.sl H (D L G)),(1,A W),(2,A U),(3,A Q)],[Ax.gl 1 Tv (D L RU) 3],none)
def amq:pK->JJ
 |.L0 _=>(0,[])|.L1 ..=>(0,[])
def azq:Bh (cq JJ):=Vr JJ HD u0 af2 [V.sl H (D L G),A W,A U,A Q]
def R92 (cx:List Cx):Lp JJ:=eX (eJ (azq H G W U Q) [])
def alz:JJ->Lp JJ
 |(0,cx)=>R92 H G W U Q cx|(_,cx)=>R92 H G W U Q cx
def asI:LD JJ pK:=⟨amq,alz H G W U Q,ldV H G W U Q⟩
def yW:pK->RT pK
 |.L0 Pt=>.am H (.br (decide (Pt<(H:Int))) (.ob (dI Pt H) (.ii (.obj (decide (E (1000*W)<=E (av (G Pt.toNat)*Q))) (dI Pt H) (.iv (.ii (.obi (.br (bif decide (E (1000*W)<=E (av (G Pt.toNat)*Q)) then decide (E (av (G Pt.toNat)*Q)<=E (1000*U)) else false) (.ob (dI Pt H) (.obt (.obt (.next [some (some 2)] (pK.L1 (E (Pt+1)) 3 (bb 2 (λi=>List.take 1 (List.drop (i*1) [A (E (1000*W)),A (E (1000*U))])) λx=>[A (E (av (G Pt.toNat)*Q))])) [⟨0,L,3,bb 2 (λi=>List.take 1 (List.drop (i*1) [A (E (1000*W)),A (E (1000*U))])) λx=>[A (E (av (G Pt.toNat)*Q))],Cq rfl rfl⟩])))) (.next DX (pK.L0 (E (Pt+1))) [])))))))) (.ret (V.sl 2 (b5 [A (E (1000*W)),A (E (1000*U))] 0 1))))|.L1 QV Tv RU=>.am H (.br (decide (QV<(H:Int))) (.ob (dI QV H) (.ii (.obj (decide (E (1000*W)<=E (av (G QV.toNat)*Q))) (dI QV H) (.iv (.ii (.obi (.br (bif decide (E (1000*W)<=E (av (G QV.toNat)*Q)) then decide (E (av (G QV.toNat)*Q)<=E (1000*U)) else false) (.ob (dI QV H) (.obt (.ob (decide (Tv<=Tv/\(Tv+1)*8<=140737488355328)&&!Nat.beq 8 0) (.next [some (some 2)] (pK.L1 (E (QV+1)) (Tv+1) (bb Tv (D L RU) λx=>[A (E (av (G QV.toNat)*Q))])) [⟨0,L,Tv+1,bb Tv (D L RU) λx=>[A (E (av (G QV.toNat)*Q))],gh (aJ rfl _ _) (e8 rfl _ rfl)⟩])))) (.next DX (pK.L1 (E (QV+1)) Tv (D L RU)) [⟨0,L,Tv,D L RU,aJ rfl _ _⟩])))))))) (.ob (Tv.ble Tv) (.ret (V.sl Tv λi=>[A (av (RU i))]))))
def Q4:RT pK:=dm (H,G,W,U,Q) (.enter DX (pK.L0 0) [])
theorem ix5:dZ HD u0 (asI H G W U Q) (azq H G W U Q) (Q4 H G W U Q) (yW H G W U Q):=⟨bD,λs=>by cases s<;>exact bD⟩
def RY (p:Nat->Bool) (v:Nat->Int) (a b:Int):Nat->List Int
 |0=>[a,b]|k+1=>bif p k then RY p v a b k++[v k] else RY p v a b k
def je (Qu:List Int):Nat->List V:=λi=>[A (Qu.getD i 0)]
def Fo (a b h:Int) (i:Nat):Bool:=bif decide (a<=E (av (G i)*h)) then decide (E (av (G i)*h)<=b) else false
def ba:List Int:=RY (Fo G (E (1000*W)) (E (1000*U)) Q) (λi=>E (av (G i)*Q)) (E (1000*W)) (E (1000*U)) H
theorem qB (p:Nat->Bool) (v:Nat->Int) (a b:Int):∀ k,2<=(RY p v a b k).length/\(RY p v a b k).length<=k+2
 |0=>⟨D7 _,D7 _⟩
 |k+1=>by
   have:=qB p v a b k;unfold RY;cases p k with
   |true=>simp only[cond_true,Ea,EO,FL];omega|false=>simp only[cond_false];omega
theorem hsb {Qu:List Int} {x:Int} {n:Nat} {f:be} (hn:n=Qu.length) (hf:∀ j,j<n->al L (f j)=je Qu j):∀ j,j<n+1->al L (bb n (D L f) (λ_=>[A x]) j)=je (Qu++[x]) j:=λj hj=>by
 unfold bb;by_cases YD:j<n
 ·rw[IY YD];show al _ (al _ (f j))=_;rw[d9,hf j YD];unfold je;rw[I3,I3,DW K]
 ·have:j=n:=by omega
  subst this;rw[QF (D7 _)];show [A x]=_;unfold je;rw[I3,Dy K,hn,JX];rfl
section
variable (H:Nat) (G:be) (W U Q:Int) (hn:H<=1000)
include hn
theorem nmB:∀ k,k<=H->∀ (n:Nat) (f:be),n=(ba k G W U Q).length->(∀ j,j<n->al L (f j)=je (ba k G W U Q) j)->Ev (yW H G W U Q) (.L1 (k:Int) n f) (.sl (ba H G W U Q).length (D L (je (ba H G W U Q)))):=by
 refine dB λk hk ih n f hl hf=>?_;have R8:=(qB (Fo G (E (1000*W)) (E (1000*U)) Q) (λi=>E (av (G i)*Q)) (E (1000*W)) (E (1000*U)) k).2;refine Ev.of rfl (bC λ_=>?_);by_cases Q7:k<H
 ·have hw:E ((k:Int)+1)=((k+1:Nat):Int):=by rw[C8 K K];omega
  have hb:decide (0<=(k:Int)/\(k:Int)<(H:Int))=true:=BX K;refine cP (BX K) (aF hb (B1 (B1 (DY (λ_=>hb) ?_))));refine B1 (B1 (B1 (B1 (B1 (B1 (B1 ?_))))));rw[hw];refine C2 (λh=>aF hb (ac (aF ?_ (aL ?_)))) (λh=>aL ?_)
  ·have izb21:n<=k+2:=by rw[hl];exact R8
   simp only[D2];exact⟨BX ⟨D7 _,K⟩,rfl⟩
  ·have e:ba (k+1) G W U Q=ba k G W U Q++[E (av (G (k:Int).toNat)*Q)]:=by
    rw[De]at h ⊢;show(bif Fo G _ _ Q k then _ else _)=_;rw[show Fo G (E (1000*W)) (E (1000*U)) Q k=true from h];rfl
   refine ih Q7 _ _ (by rw[e,hl];simp) ?_;rw[e];exact hsb hl hf
  ·have e:ba (k+1) G W U Q=ba k G W U Q:=by
    rw[De]at h;show(bif Fo G _ _ Q k then _ else _)=_;rw[show Fo G (E (1000*W)) (E (1000*U)) Q k=false from h];rfl
   refine ih Q7 _ _ (by rw[e,hl]) ?_;rw[e];exact λj hj=>by show al _ (al _ (f j))=_;rw[d9];exact hf j hj
 ·have e:k=H:=by omega
  subst e;refine cW (eQ K) (aF (Ey (D7 _)) (B5 ?_));rw[hl];exact B3 λi hi=>by show dj (al L (f i))=dj (al L (je _ i));rw[hf i K];rfl
theorem sqs:∀ k,k<=H->ba k G W U Q=[E (1000*W),E (1000*U)]->Ev (yW H G W U Q) (.L0 (k:Int)) (.sl (ba H G W U Q).length (D L (je (ba H G W U Q)))):=by
 refine dB λk hk ih hl=>?_;refine Ev.of rfl (bC λ_=>?_);by_cases Q7:k<H
 ·have hw:E ((k:Int)+1)=((k+1:Nat):Int):=by rw[C8 K K];omega
  have hb:decide (0<=(k:Int)/\(k:Int)<(H:Int))=true:=BX K;refine cP (BX K) (aF hb (B1 (B1 (DY (λ_=>hb) ?_))));refine B1 (B1 (B1 (B1 (B1 (B1 (B1 ?_))))));rw[hw];refine C2 (λh=>aF hb (ac (ac (aL ?_)))) (λh=>aL ?_)
  ·have e:ba (k+1) G W U Q=[E (1000*W),E (1000*U)]++[E (av (G (k:Int).toNat)*Q)]:=by
    rw[De]at h ⊢;show(bif Fo G _ _ Q k then ba k G W U Q++_ else _)=_;rw[show Fo G (E (1000*W)) (E (1000*U)) Q k=true from h,hl];rfl
   refine nmB H G W U Q hn (k+1) Q7 _ _ (by rw[e];rfl) ?_;rw[e];intro j hj
   match j,hj with
   |0,_=>rfl|1,_=>rfl|2,_=>rfl
  ·have e:ba (k+1) G W U Q=ba k G W U Q:=by
    rw[De]at h;show(bif Fo G _ _ Q k then _ else _)=_;rw[show Fo G (E (1000*W)) (E (1000*U)) Q k=false from h];rfl
   exact ih Q7 (e.trans hl)
 ·have e:k=H:=by omega
  subst e;refine cW (eQ K) (B5 ?_);rw[hl];exact B3 λi hi=>by
   have hi:i<2:=hi
   match i,hi with
   |0,_=>rfl|1,_=>rfl
theorem hzs:aT (Ev (yW H G W U Q)) (Q4 H G W U Q) (.sl (ba H G W U Q).length (D L (je (ba H G W U Q)))):=aH (sqs H G W U Q hn 0 (Da _) rfl)
end
def alk:List Ty:=[.sl L,tI,tI,tI]
def apT:List V->Prop
 |[.sl H _,.int _ _,.int _ _,.int _ _]=>H<=1000|_=>False
def abe:List V->V
 |[.sl H G,.int _ W,.int _ U,.int _ Q]=>.sl (ba H G W U Q).length (D L (je (ba H G W U Q)))|_=>.any
def Nh:aE:=bP alk apT abe
theorem agk (hn:H<=1000):aT (Ev (yW H G W U Q)) (Q4 H G W U Q) (.sl (ba H (D L G) W U Q).length (D L (je (ba H (D L G) W U Q)))):=hzs H G W U Q hn
theorem aoZ (Qu:List Int) (i:Nat):nX 1 (D L (je Qu) i)=true/\(dj (D L (je Qu) i)).all bK=true/\(D L (je Qu) i).all V.fc=true:=by refine⟨rfl,?_,rfl⟩;show(dj [A _]).all bK=true;simp only[dj,dq,EJ,bK,List.all_nil,JW]
theorem hpl (ds:List V):eH (abe (al alk ds)):=by show eH (V.sl _ (D L _));simp only[eH];exact λi hi=>nW _
theorem jcs:∀ds d p r,Nh ds=some (d,p,r)->d.1=d.2->p->∀w0 lh args,bI w0 lh Nu.nil ds args->∃x new,vr w0 (lh++new) Nu.nil r x:=alb (λds Sk hp w0 lh args ha=>by have hp:aB (aA ds)<=1000:=hp;have hl:=(qB (Fo (D L (bL (aA ds))) (E (1000*aP ds)) (E (1000*bV ds)) (bf ds)) (λi=>E (av (D L (bL (aA ds)) i)*bf ds)) (E (1000*aP ds)) (E (1000*bV ds)) (aB (aA ds))).2;exact GV (e:=1) (n:=(ba (aB (aA ds)) (D L (bL (aA ds))) (aP ds) (bV ds) (bf ds)).length) (Eg hl K) λi hi=>aoZ _ i) rfl
theorem alS:(vZ Nh).Ok Tryz.prog 168:=ao4 hY' Tryz.func168 bw (λds _=>hpl ds) λds hp=>kr (ix5 ..) (agk _ _ _ _ _ hp)
def IM:bm:=(168,.conZ Nh jcs)::HD
theorem Gl:aZ Tryz.prog Bs C3 IM:=.conZ alS (hY')
def adL:RT Empty:=.obp (H<=(1000:Nat)) (.obt (.am H (.ret (A (max 0 (min (E (jV H (D L G) (E (W+1))-1)) (E ((H:Int)-2))))))))
theorem x20:cY cZ (aQ JJ IM u0 r5 [V.sl H (D L G),A W]) (adL H G W):=bD
def aY:Int:=max 0 (min (E (jV H (D L G) (E (W+1))-1)) (E ((H:Int)-2)))
def Oq:V:=A (aY H G W)
theorem ajV (hp:H<=1000):aT cM (adL H G W) (Oq H G W):=aI (by first|assumption|(exact hp)) (ac (D3 (λa0=>B5 (by unfold Oq aY;rfl))))
def acH:aE:=bP [.sl L,tI] (λ
 |[.sl H G,.int _ W]=>H<=1000|_=>False) λ
 |[.sl H G,.int _ W]=>Oq H G W|_=>.any
theorem afo:b9 acH 178:=aU Gl λ_ hp=>da (x20 ..) (ajV _ _ _ hp)
def FJ (S:Int) (n6:Nat) (f6:be) (SD:Nat) (Rl:be) (QQ:Int):Prop:=(0<=S/\S<(n6:Int))/\(0<=QQ/\QQ+1<(aB (aA (f6 S.toNat)):Int)/\QQ+1<(SD:Int)/\SD<=1000)/\E (av (Rl (QQ+1).toNat)-av (Rl QQ.toNat))≠0
theorem FJ.w {S:Int} {n6:Nat} {f6:be} {SD:Nat} {Rl:be} {QQ:Int} (h:FJ S n6 f6 SD Rl QQ):E (QQ+1)=QQ+1:=by obtain⟨_,N,_⟩:=h;exact C8 K K
def aaU:RT Empty:=dm (s1,T,O,n4,f4,Y,x9,Sf,Us,QJ) (.ob (dI S n6) (.ob (decide (0<=QQ/\QQ<(↑(aB (aA (f6 S.toNat))):Int))) (.cb (.ob (decide (0<=E (QQ+1)/\E (QQ+1)<(↑(aB (aA (f6 S.toNat))):Int))) (.cb (.ob (dI QQ SD) (.ob (dI (E (QQ+1)) SD) (.obp (E (av (Rl (E (QQ+(1:Int))).toNat)-av (Rl QQ.toNat))=(0:Int)->False) (.obt (.ret (V.agg [A (mo (av (bL (aA (f6 S.toNat)) QQ.toNat)) (av (bL (aA (f6 S.toNat)) (E (QQ+1)).toNat)) (av (Rl QQ.toNat)) (av (Rl (E (QQ+1)).toNat)) QU),A (mq (av (bL (aA (f6 S.toNat)) QQ.toNat)) (av (bL (aA (f6 S.toNat)) (E (QQ+1)).toNat)) (av (Rl QQ.toNat)) (av (Rl (E (QQ+1)).toNat)) QU)])))))))))))
theorem jf1:cY cZ (aQ JJ IM u0 ow [A S,V.pd [V.str s1,V.sl T (D L O),V.sl n4 (D L f4),V.sl n6 (D [Ty.sl L] f6),A Y,A x9,V.sl Sf (D L Us),V.sl SD (D L Rl),A QJ],V.pd [A QQ],V.pd [A QU]]) (aaU S s1 T O n4 f4 n6 f6 Y x9 Sf Us SD Rl QJ QQ QU):=bD
def ml:Int:=mo (av (bL (aA (f6 S.toNat)) QQ.toNat)) (av (bL (aA (f6 S.toNat)) (E (QQ+1)).toNat)) (av (Rl QQ.toNat)) (av (Rl (E (QQ+1)).toNat)) QU
def mu:Int:=mq (av (bL (aA (f6 S.toNat)) QQ.toNat)) (av (bL (aA (f6 S.toNat)) (E (QQ+1)).toNat)) (av (Rl QQ.toNat)) (av (Rl (E (QQ+1)).toNat)) QU
def S6:V:=dm (s1,T,O,n4,f4,n6,Y,x9,Sf,Us,SD,QJ) (.agg [A (ml S f6 Rl QQ QU),A (mu S f6 Rl QQ QU)])
theorem akr (hp:FJ S n6 f6 SD Rl QQ):aT cM (aaU S s1 T O n4 f4 n6 f6 Y x9 Sf Us SD Rl QJ QQ QU) (S6 S s1 T O n4 f4 n6 f6 Y x9 Sf Us SD Rl QJ QQ QU):=aF (by first|assumption|((try rw[hp.w]);exact BX (by obtain⟨M,N,h3⟩:=hp;omega))) (aF (by first|assumption|((try rw[hp.w]);exact BX (by obtain⟨M,N,h3⟩:=hp;omega))) (ao (ac (aF (by first|assumption|((try rw[hp.w]);exact BX (by obtain⟨M,N,h3⟩:=hp;omega))) (ao (ac (aF (by first|assumption|((try rw[hp.w]);exact BX (by obtain⟨M,N,h3⟩:=hp;omega))) (aF (by first|assumption|((try rw[hp.w]);exact BX (by obtain⟨M,N,h3⟩:=hp;omega))) (aI (by first|assumption|((rw[hp.w];exact hp.2.2))) (ac (B5 (by unfold S6 ml mu;rfl))))))))))))
def ac7:aE:=bP [tI,.pd [.str,.sl L,.sl L,.sl [.sl L],tI,tI,.sl L,.sl L,tI],.pd L,.pd L] (λ
 |[.int _ S,.pd [.str s1,.sl T O,.sl n4 f4,.sl n6 f6,.int _ Y,.int _ x9,.sl Sf Us,.sl SD Rl,.int _ QJ],.pd [.int _ QQ],.pd [.int _ QU]]=>FJ S n6 f6 SD Rl QQ|_=>False) λ
 |[.int _ S,.pd [.str s1,.sl T O,.sl n4 f4,.sl n6 f6,.int _ Y,.int _ x9,.sl Sf Us,.sl SD Rl,.int _ QJ],.pd [.int _ QQ],.pd [.int _ QU]]=>S6 S s1 T O n4 f4 n6 f6 Y x9 Sf Us SD Rl QJ QQ QU|_=>.any
theorem agY:b9 ac7 179:=aU Gl λ_ hp=>da (jf1 ..) (akr _ _ _ _ _ _ _ _ _ _ _ _ _ _ _ _ _ hp)
def MH:bm:=(178,.con acH)::(179,.con ac7)::IM
theorem fz3:aZ Tryz.prog Bs C3 MH:=.con afo (.con agY (Gl))
def oL:Prop:=(2<=n9/\n9<=1000)/\(2<=Pq/\Pq<=1000)/\(n9<=n5)/\(∀i:Nat,i<n5->Pq<=aB (aA (q i)))/\(∀i:Nat,i+1<n9->E (av (f9 (i+1))-av (f9 i))≠0)/\(∀i:Nat,i+1<Pq->E (av (Pp (i+1))-av (Pp i))≠0)
theorem oL.a {n5:Nat} {q:be} {n9:Nat} {f9:be} {Pq:Nat} {Pp:be} (h:oL n5 q n9 f9 Pq Pp):2<=n9/\n9<=1000:=h.1
theorem oL.b {n5:Nat} {q:be} {n9:Nat} {f9:be} {Pq:Nat} {Pp:be} (h:oL n5 q n9 f9 Pq Pp):2<=Pq/\Pq<=1000:=h.2.1
theorem oL.c {n5:Nat} {q:be} {n9:Nat} {f9:be} {Pq:Nat} {Pp:be} (h:oL n5 q n9 f9 Pq Pp):n9<=n5:=h.2.2.1
theorem oL.d {n5:Nat} {q:be} {n9:Nat} {f9:be} {Pq:Nat} {Pp:be} (h:oL n5 q n9 f9 Pq Pp):∀i:Nat,i<n5->Pq<=aB (aA (q i)):=h.2.2.2.1
theorem oL.e {n5:Nat} {q:be} {n9:Nat} {f9:be} {Pq:Nat} {Pp:be} (h:oL n5 q n9 f9 Pq Pp):∀i:Nat,i+1<n9->E (av (f9 (i+1))-av (f9 i))≠0:=h.2.2.2.2.1
theorem oL.g {n5:Nat} {q:be} {n9:Nat} {f9:be} {Pq:Nat} {Pp:be} (h:oL n5 q n9 f9 Pq Pp):∀i:Nat,i+1<Pq->E (av (Pp (i+1))-av (Pp i))≠0:=h.2.2.2.2.2
theorem rE {n:Nat} (f:be) (x:Int) (h:2<=n/\n<=1000):0<=aY n f x/\aY n f x+1<(n:Int):=by unfold aY;rw[C8 (x:=(n:Int)-2) K K];generalize E _=Pw;omega
section
variable {n5:Nat} {q:be} {n9:Nat} {f9:be} {Pq:Nat} {Pp:be} (hp:oL n5 q n9 f9 Pq Pp) (QJ QQ:Int)
include hp
theorem PY:E (aY n9 (D L f9) QJ+1)=aY n9 (D L f9) QJ+1:=by have:=rE (D L f9) QJ hp.a;have:=hp.a;exact C8 K K
theorem anw (y:Int) (h:0<=y/\y<(n9:Int)):FJ y n5 q Pq Pp (aY Pq (D L Pp) QQ):=by have Pw:=rE (D L Pp) QQ hp.b;have hb:=hp.b;have hc:=hp.c;have hd:=hp.d y.toNat K;have hg:=hp.g (aY Pq (D L Pp) QQ).toNat K;refine⟨K,⟨Pw.1,K,Pw.2,K⟩,?_⟩;rw[show(aY Pq (D L Pp) QQ+1).toNat=(aY Pq (D L Pp) QQ).toNat+1 by omega];exact hg
theorem AI:FJ (aY n9 (D L f9) QJ) n5 q Pq Pp (aY Pq (D L Pp) QQ):=by have p:=rE (D L f9) QJ hp.a;exact anw hp QQ _ K
theorem AS:FJ (E (aY n9 (D L f9) QJ+1)) n5 q Pq Pp (aY Pq (D L Pp) QQ):=by have p:=rE (D L f9) QJ hp.a;rw[PY hp];exact anw hp QQ _ K
theorem apK:decide (0<=aY n9 (D L f9) QJ/\aY n9 (D L f9) QJ<(n9:Int))=true:=by have p:=rE (D L f9) QJ hp.a;exact BX K
theorem apv:decide (0<=E (aY n9 (D L f9) QJ+1)/\E (aY n9 (D L f9) QJ+1)<(n9:Int))=true:=by have p:=rE (D L f9) QJ hp.a;rw[PY hp];exact BX K
theorem Jq:E (av (f9 (E (aY n9 (D L f9) QJ+1)).toNat)-av (f9 (aY n9 (D L f9) QJ).toNat))≠0:=by have p:=rE (D L f9) QJ hp.a;rw[PY hp,show(aY n9 (D L f9) QJ+1).toNat=(aY n9 (D L f9) QJ).toNat+1 by omega];exact hp.e _ K
theorem MA:(1<=n9/\n9<=1000)/\1<=Pq/\Pq<=1000:=by have:=hp.a;have:=hp.b;omega
end
def adQ:RT Empty:=dm (s0,n1,f1,n3,f3,Y,Q8) (.obp (((1:Nat)<=n9/\n9<=(1000:Nat))/\(1:Nat)<=Pq/\Pq<=(1000:Nat)) (.obt (.br (!bz n9 (D L f9) Pq (D L Pp) QJ QQ) (.ret (V.agg [A 0,A Z])) (.obp (n9<=(1000:Nat)) (.obt (.obp (Pq<=(1000:Nat)) (.obt (.obp (((0:Int)<=aY n9 (D L f9) QJ/\aY n9 (D L f9) QJ<(n5:Int))/\((0:Int)<=aY Pq (D L Pp) QQ/\aY Pq (D L Pp) QQ+(1:Int)<(↑(aB (aA (q (aY n9 (D L f9) QJ).toNat))):Int)/\aY Pq (D L Pp) QQ+(1:Int)<(Pq:Int)/\Pq<=(1000:Nat))/\E (av (Pp (aY Pq (D L Pp) QQ+(1:Int)).toNat)-av (Pp (aY Pq (D L Pp) QQ).toNat))≠(0:Int)) (.obt (.obp (((0:Int)<=E (aY n9 (D L f9) QJ+(1:Int))/\E (aY n9 (D L f9) QJ+(1:Int))<(n5:Int))/\((0:Int)<=aY Pq (D L Pp) QQ/\aY Pq (D L Pp) QQ+(1:Int)<(↑(aB (aA (q (E (aY n9 (D L f9) QJ+(1:Int))).toNat))):Int)/\aY Pq (D L Pp) QQ+(1:Int)<(Pq:Int)/\Pq<=(1000:Nat))/\E (av (Pp (aY Pq (D L Pp) QQ+(1:Int)).toNat)-av (Pp (aY Pq (D L Pp) QQ).toNat))≠(0:Int)) (.obt (.ob (dI (aY n9 (D L f9) QJ) n9) (.ob (dI (E (aY n9 (D L f9) QJ+1)) n9) (.obp (E (av (f9 (E (aY n9 (D L f9) QJ+(1:Int))).toNat)-av (f9 (aY n9 (D L f9) QJ).toNat))=(0:Int)->False) (.obt (.ret (V.agg [A (mo (ml (aY n9 (D L f9) QJ) (D [Ty.sl L] q) (D L Pp) (aY Pq (D L Pp) QQ) QQ) (ml (E (aY n9 (D L f9) QJ+1)) (D [Ty.sl L] q) (D L Pp) (aY Pq (D L Pp) QQ) QQ) (av (f9 (aY n9 (D L f9) QJ).toNat)) (av (f9 (E (aY n9 (D L f9) QJ+1)).toNat)) QJ),A (mq (mu (aY n9 (D L f9) QJ) (D [Ty.sl L] q) (D L Pp) (aY Pq (D L Pp) QQ) QQ) (mu (E (aY n9 (D L f9) QJ+1)) (D [Ty.sl L] q) (D L Pp) (aY Pq (D L Pp) QQ) QQ) (av (f9 (aY n9 (D L f9) QJ).toNat)) (av (f9 (E (aY n9 (D L f9) QJ+1)).toNat)) QJ)])))))))))))))))))
theorem iz2:cY cZ (aQ JJ MH u0 qb [V.agg [V.str s0,V.sl n1 (D L f1),V.sl n3 (D L f3),V.sl n5 (D [Ty.sl L] q),A Z,A Y,V.sl n9 (D L f9),V.sl Pq (D L Pp),A Q8],A QJ,A QQ]) (adQ s0 n1 f1 n3 f3 n5 q Z Y n9 f9 Pq Pp Q8 QJ QQ):=bD
def bn:Int:=bif !bz n9 (D L f9) Pq (D L Pp) QJ QQ then 0 else mo (ml (aY n9 (D L f9) QJ) (D [Ty.sl L] q) (D L Pp) (aY Pq (D L Pp) QQ) QQ) (ml (E (aY n9 (D L f9) QJ+1)) (D [Ty.sl L] q) (D L Pp) (aY Pq (D L Pp) QQ) QQ) (av (f9 (aY n9 (D L f9) QJ).toNat)) (av (f9 (E (aY n9 (D L f9) QJ+1)).toNat)) QJ
def bo:Int:=bif !bz n9 (D L f9) Pq (D L Pp) QJ QQ then Z else mq (mu (aY n9 (D L f9) QJ) (D [Ty.sl L] q) (D L Pp) (aY Pq (D L Pp) QQ) QQ) (mu (E (aY n9 (D L f9) QJ+1)) (D [Ty.sl L] q) (D L Pp) (aY Pq (D L Pp) QQ) QQ) (av (f9 (aY n9 (D L f9) QJ).toNat)) (av (f9 (E (aY n9 (D L f9) QJ+1)).toNat)) QJ
def HP:V:=dm (s0,n1,f1,n3,f3,n5,Y,Q8) (.agg [A (bn q n9 f9 Pq Pp QJ QQ),A (bo q Z n9 f9 Pq Pp QJ QQ)])
theorem al4 (hp:oL n5 q n9 f9 Pq Pp):aT cM (adQ s0 n1 f1 n3 f3 n5 q Z Y n9 f9 Pq Pp Q8 QJ QQ) (HP s0 n1 f1 n3 f3 n5 q Z Y n9 f9 Pq Pp Q8 QJ QQ):=aI (by first|assumption|(first|exact hp.a.2|exact hp.b.2|exact MA hp|exact Jq hp QJ|exact AI hp QJ QQ|exact AS hp QJ QQ)) (ac (C2 (λh0=>B5 (by unfold HP bn bo;try rw[h0];rfl)) (λh0=>aI (by first|assumption|(first|exact hp.a.2|exact hp.b.2|exact MA hp|exact Jq hp QJ|exact AI hp QJ QQ|exact AS hp QJ QQ)) (ac (aI (by first|assumption|(first|exact hp.a.2|exact hp.b.2|exact MA hp|exact Jq hp QJ|exact AI hp QJ QQ|exact AS hp QJ QQ)) (ac (aI (by first|assumption|(first|exact hp.a.2|exact hp.b.2|exact MA hp|exact Jq hp QJ|exact AI hp QJ QQ|exact AS hp QJ QQ)) (ac (aI (by first|assumption|(first|exact hp.a.2|exact hp.b.2|exact MA hp|exact Jq hp QJ|exact AI hp QJ QQ|exact AS hp QJ QQ)) (ac (aF (by first|assumption|(first|exact apK hp QJ|exact apv hp QJ)) (aF (by first|assumption|(first|exact apK hp QJ|exact apv hp QJ)) (aI (by first|assumption|(first|exact hp.a.2|exact hp.b.2|exact MA hp|exact Jq hp QJ|exact AI hp QJ QQ|exact AS hp QJ QQ)) (ac (B5 (by unfold HP bn bo;try rw[h0];rfl))))))))))))))))
def ab7:aE:=bP [.agg [.str,.sl L,.sl L,.sl [.sl L],tI,tI,.sl L,.sl L,tI],tI,tI] (λ
 |[.agg [.str s0,.sl n1 f1,.sl n3 f3,.sl n5 q,.int _ Z,.int _ Y,.sl n9 f9,.sl Pq Pp,.int _ Q8],.int _ QJ,.int _ QQ]=>oL n5 q n9 f9 Pq Pp|_=>False) λ
 |[.agg [.str s0,.sl n1 f1,.sl n3 f3,.sl n5 q,.int _ Z,.int _ Y,.sl n9 f9,.sl Pq Pp,.int _ Q8],.int _ QJ,.int _ QQ]=>HP s0 n1 f1 n3 f3 n5 q Z Y n9 f9 Pq Pp Q8 QJ QQ|_=>.any
theorem afb:b9 ab7 125:=aU fz3 λ_ hp=>da (iz2 ..) (al4 _ _ _ _ _ _ _ _ _ _ _ _ _ _ _ _ hp)
def zh:bm:=(126,.inl yaQ u0)::(125,.con ab7)::MH
theorem fs4:aZ Tryz.prog Bs C3 zh:=iq Tryz.func126 bw (.con afb (fz3))
inductive eY where|L0 (_:Int) (_:Nat) (_ _:Int) (_:Nat)|L2 (_:Int) (_:Nat) (_ _:Int)|L4 (_:Int) (_:Nat) (_ _:Int) (_:Nat) (_:Int) (_:Nat) (_ _:Int)|L5 (_:Int) (_:Nat) (_ _ _:Int) (_:Nat) (_ _ _:Int)
def CQ (l:List Ax):List Ax:=Ax.cells [V.str s0,V.sl n1 (D L f1),V.sl n3 (D L f3),V.sl n5 (D [Ty.sl L] q),A Z,A Y,V.sl n9 (D L f9),V.sl Pq (D L Pp),A Q8] 114::Ax.cells [A QJ,A QQ,A QU,A Py] 97::Ax.cells Dj 39::Ax.cells [A (E (1000*QU))] 3::Ax.cells [A (E (1000*Py))] 3::Ax.cells [A (bn (D [Ty.sl L] q) n9 (D L f9) Pq (D L Pp) (E (1000*QJ)) (E (1000*Py))),A (bo (D [Ty.sl L] q) Z n9 (D L f9) Pq (D L Pp) (E (1000*QJ)) (E (1000*Py))),A (bn (D [Ty.sl L] q) n9 (D L f9) Pq (D L Pp) (E (1000*QQ)) (E (1000*QU))),A (bo (D [Ty.sl L] q) Z n9 (D L f9) Pq (D L Pp) (E (1000*QQ)) (E (1000*QU))),A (bn (D [Ty.sl L] q) n9 (D L f9) Pq (D L Pp) (E (1000*QQ)) (E (1000*Py))),A (bo (D [Ty.sl L] q) Z n9 (D L f9) Pq (D L Pp) (E (1000*QQ)) (E (1000*Py)))] 39::l
def wq:eY->bS×List Ax×Option Ex
 |.L0 Pt Ry RL SY _=>([(19,A Pt),(18,A (Pq:Int)),(17,V.sl Pq (D L Pp)),(16,V.kb false),(15,V.kb false),(14,V.kb true),(13,A (E (1000*Py))),(12,V.yl Ry),(11,V.kb false),(10,V.kb false),(9,V.kb true),(8,A (E (1000*QU))),(7,V.yl Ry),(0,V.yl Ry),(1,V.pl 12 0),(2,V.pl 13 0),(3,V.pl 11 0)],CQ s0 n1 f1 n3 f3 n5 q Z Y n9 f9 Pq Pp Q8 QJ QQ QU Py [Ax.cells [A RL,A SY] 39,Ax.cells [V.sl n9 (D L f9)] 32,Ax.cells [A (E (1000*QJ))] 3,Ax.cells [A (E (1000*QQ))] 3,Ax.cells [A (E (1000*QJ))] 3,Ax.cells [V.sl Pq (D L Pp)] 32,Ax.cells [A (E (1000*QU))] 3,Ax.cells [A (E (1000*Py))] 3],none)|.L2 QX V9 Rk Te=>([(19,A QX),(18,A (n9:Int)),(17,V.sl n9 (D L f9)),(16,V.kb false),(15,V.kb false),(14,V.kb true),(13,A (E (1000*QQ))),(12,V.yl V9),(11,V.kb false),(10,V.kb false),(9,V.kb true),(8,A (E (1000*QJ))),(7,V.yl V9),(0,V.yl V9),(1,V.pl 8 0),(2,V.pl 9 0),(3,V.pl 7 0)],CQ s0 n1 f1 n3 f3 n5 q Z Y n9 f9 Pq Pp Q8 QJ QQ QU Py [Ax.cells [A Rk,A Te] 39,Ax.cells [V.sl n9 (D L f9)] 32,Ax.cells [A (E (1000*QJ))] 3,Ax.cells [A (E (1000*QQ))] 3],none)|.L4 RE SB XI U8 ..=>([(19,A RE),(18,A (Pq:Int)),(17,V.sl Pq (D L Pp)),(16,V.kb false),(15,V.kb false),(14,V.kb true),(13,A (E (1000*Py))),(12,V.yl SB),(11,V.kb false),(10,V.kb false),(9,V.kb true),(8,A (E (1000*QU))),(7,V.yl SB),(0,V.yl SB),(1,V.pl 16 0),(2,V.pl 17 0),(3,V.pl 15 0)],CQ s0 n1 f1 n3 f3 n5 q Z Y n9 f9 Pq Pp Q8 QJ QQ QU Py [Ax.cells [A XI,A U8] 39,Ax.cells [V.sl n9 (D L f9)] 32,Ax.cells [A (E (1000*QJ))] 3,Ax.cells [A (E (1000*QQ))] 3,Ax.cells [A (E (1000*QJ))] 3,Ax.cells [V.sl Pq (D L Pp)] 32,Ax.cells [A (E (1000*QU))] 3,Ax.cells [A (E (1000*Py))] 3,Ax.cells [A (E (1000*QQ))] 3,Ax.cells [V.sl Pq (D L Pp)] 32,Ax.cells [A (E (1000*QU))] 3,Ax.cells [A (E (1000*Py))] 3],none)|.L5 R1 S7 XJ Tg TE ..=>([(19,A R1),(18,A (Pq:Int)),(17,V.sl Pq (D L Pp)),(16,V.kb false),(15,V.kb false),(14,V.kb true),(13,A (E (1000*Py))),(12,V.yl S7),(11,V.kb false),(10,V.kb false),(9,V.kb true),(8,A (E (1000*QU))),(7,V.yl S7),(0,V.yl S7),(1,V.pl 12 0),(2,V.pl 13 0),(3,V.pl 11 0)],CQ s0 n1 f1 n3 f3 n5 q Z Y n9 f9 Pq Pp Q8 QJ QQ QU Py [Ax.cells [A XJ,A Tg] 39,Ax.cells [V.sl n9 (D L f9)] 32,Ax.cells [A (E (1000*QJ))] 3,Ax.cells [A (E (1000*QQ))] 3,Ax.cells [A TE] 3,Ax.cells [V.sl Pq (D L Pp)] 32,Ax.cells [A (E (1000*QU))] 3,Ax.cells [A (E (1000*Py))] 3],none)
def ag0:eY->JJ
 |.L0 _ Ry _ _ Vv=>(0,[Cx.n Vv,Cx.n Ry])|.L2 _ V9 ..=>(2,[Cx.n V9])|.L4 _ SB _ _ XT VL VZ VM VN=>(4,[Cx.n XT,Cx.i VL,Cx.n VZ,Cx.i VM,Cx.i VN,Cx.n SB])|.L5 _ S7 _ _ _ XU XL Ud Uj=>(5,[Cx.n XU,Cx.i XL,Cx.i Ud,Cx.i Uj,Cx.n S7])
def hb':Bh (cq JJ):=aQ JJ zh u0 xH [V.agg [V.str s0,V.sl n1 (D L f1),V.sl n3 (D L f3),V.sl n5 (D [Ty.sl L] q),A Z,A Y,V.sl n9 (D L f9),V.sl Pq (D L Pp),A Q8],V.agg [A QJ,A QQ,A QU,A Py]]
def xE (cx:List Cx):Lp JJ:=eX (eJ (Jx (eJ (Jx (eJ (hb' s0 n1 f1 n3 f3 n5 q Z Y n9 f9 Pq Pp Q8 QJ QQ QU Py) []) (fU cx 0)) []) (fU cx 1)) HA)
def R90 (cx:List Cx):Lp JJ:=eX (eJ (Jx (eJ (oV zh u0 (0,[.n (fU cx 0),.n (fU cx 2)]) (xE s0 n1 f1 n3 f3 n5 q Z Y n9 f9 Pq Pp Q8 QJ QQ QU Py [.n (fU cx 0),.n (fU cx 2)]) (wq s0 n1 f1 n3 f3 n5 q Z Y n9 f9 Pq Pp Q8 QJ QQ QU Py (.L0 (dv cx 1) (fU cx 2) (dv cx 3) (dv cx 4) (fU cx 0)))) [false]) (fU cx 5)) HA)
def acK (cx:List Cx):Lp JJ:=eX (eJ (oV zh u0 (4,[.n (fU cx 0),.i (0:Int),.n 0,.i (0:Int),.i (0:Int),.n 0]) (R90 s0 n1 f1 n3 f3 n5 q Z Y n9 f9 Pq Pp Q8 QJ QQ QU Py [.n (fU cx 0),.i (0:Int),.n 0,.i (0:Int),.i (0:Int),.n 0]) (wq s0 n1 f1 n3 f3 n5 q Z Y n9 f9 Pq Pp Q8 QJ QQ QU Py (.L4 (0:Int) 0 (0:Int) (0:Int) (fU cx 0) (0:Int) 0 (0:Int) (0:Int)))) [false])
def hy0 (cx:List Cx):Lp JJ:=eX (eJ (Jx (eJ (oV zh u0 (2,[.n (fU cx 0)]) (acK s0 n1 f1 n3 f3 n5 q Z Y n9 f9 Pq Pp Q8 QJ QQ QU Py [.n (fU cx 0)]) (wq s0 n1 f1 n3 f3 n5 q Z Y n9 f9 Pq Pp Q8 QJ QQ QU Py (.L2 (dv cx 1) (fU cx 0) (dv cx 2) (dv cx 3)))) HA) (fU cx 4)) HA)
def akR:JJ->Lp JJ
 |(0,cx)=>xE s0 n1 f1 n3 f3 n5 q Z Y n9 f9 Pq Pp Q8 QJ QQ QU Py cx|(2,cx)=>acK s0 n1 f1 n3 f3 n5 q Z Y n9 f9 Pq Pp Q8 QJ QQ QU Py cx|(4,cx)=>R90 s0 n1 f1 n3 f3 n5 q Z Y n9 f9 Pq Pp Q8 QJ QQ QU Py cx|(5,cx)=>hy0 s0 n1 f1 n3 f3 n5 q Z Y n9 f9 Pq Pp Q8 QJ QQ QU Py cx|(_,cx)=>xE s0 n1 f1 n3 f3 n5 q Z Y n9 f9 Pq Pp Q8 QJ QQ QU Py cx
def arS:LD JJ eY:=⟨ag0,akR s0 n1 f1 n3 f3 n5 q Z Y n9 f9 Pq Pp Q8 QJ QQ QU Py,wq s0 n1 f1 n3 f3 n5 q Z Y n9 f9 Pq Pp Q8 QJ QQ QU Py⟩
def akX:=D aM (b5 [A (bn (D [Ty.sl L] q) n9 (D L f9) Pq (D L Pp) (E (1000*QJ)) (E (1000*Py))),A (bo (D [Ty.sl L] q) Z n9 (D L f9) Pq (D L Pp) (E (1000*QJ)) (E (1000*Py))),A (bn (D [Ty.sl L] q) n9 (D L f9) Pq (D L Pp) (E (1000*QQ)) (E (1000*QU))),A (bo (D [Ty.sl L] q) Z n9 (D L f9) Pq (D L Pp) (E (1000*QQ)) (E (1000*QU))),A (bn (D [Ty.sl L] q) n9 (D L f9) Pq (D L Pp) (E (1000*QQ)) (E (1000*Py))),A (bo (D [Ty.sl L] q) Z n9 (D L f9) Pq (D L Pp) (E (1000*QQ)) (E (1000*Py)))] 0 2)
def fq:=((2:Nat)<=n9/\n9<=(1000:Nat))/\((2:Nat)<=Pq/\Pq<=(1000:Nat))/\n9<=n5/\(∀(i:Nat),i<n5->Pq<=aB (aA (q i)))/\(∀(i:Nat),i+(1:Nat)<n9->E (av (f9 (i+(1:Nat)))-av (f9 i))≠(0:Int))/\∀(i:Nat),i+(1:Nat)<Pq->E (av (Pp (i+(1:Nat)))-av (Pp i))≠(0:Int)
def wW:=D aM (b5 [A (bn (D [Ty.sl L] q) n9 (D L f9) Pq (D L Pp) (E (1000*QQ)) (E (1000*QU))),A (bo (D [Ty.sl L] q) Z n9 (D L f9) Pq (D L Pp) (E (1000*QQ)) (E (1000*QU)))] 0 2)
def wF:=D aM (b5 [A (bn (D [Ty.sl L] q) n9 (D L f9) Pq (D L Pp) (E (1000*QQ)) (E (1000*Py))),A (bo (D [Ty.sl L] q) Z n9 (D L f9) Pq (D L Pp) (E (1000*QQ)) (E (1000*Py)))] 0 2)
def wG:=D aM (b5 [A (bn (D [Ty.sl L] q) n9 (D L f9) Pq (D L Pp) (E (1000*QJ)) (E (1000*QU))),A (bo (D [Ty.sl L] q) Z n9 (D L f9) Pq (D L Pp) (E (1000*QJ)) (E (1000*QU)))] 0 2)
def wA:=D aM (b5 [A (bn (D [Ty.sl L] q) n9 (D L f9) Pq (D L Pp) (E (1000*QJ)) (E (1000*Py))),A (bo (D [Ty.sl L] q) Z n9 (D L f9) Pq (D L Pp) (E (1000*QJ)) (E (1000*Py)))] 0 2)
def ww (QU QX:Int):=D aM (b5 [A (bn (D [Ty.sl L] q) n9 (D L f9) Pq (D L Pp) (av (f9 QX.toNat)) (E (1000*QU))),A (bo (D [Ty.sl L] q) Z n9 (D L f9) Pq (D L Pp) (av (f9 QX.toNat)) (E (1000*QU)))] 0 2)
def wS (Py QX:Int):=D aM (b5 [A (bn (D [Ty.sl L] q) n9 (D L f9) Pq (D L Pp) (av (f9 QX.toNat)) (E (1000*Py))),A (bo (D [Ty.sl L] q) Z n9 (D L f9) Pq (D L Pp) (av (f9 QX.toNat)) (E (1000*Py)))] 0 2)
def wZ:=d6 (bo (D [Ty.sl L] q) Z n9 (D L f9) Pq (D L Pp) (E (1000*QJ)) (E (1000*QU))) 3 (akX q Z n9 f9 Pq Pp QJ QQ QU Py)
def s8:=d5 (bn (D [Ty.sl L] q) n9 (D L f9) Pq (D L Pp) (E (1000*QJ)) (E (1000*QU))) 3 (akX q Z n9 f9 Pq Pp QJ QQ QU Py)
def S62 (QJ Pt:Int):=D aM (b5 [A (bn (D [Ty.sl L] q) n9 (D L f9) Pq (D L Pp) (E (1000*QJ)) (av (Pp Pt.toNat))),A (bo (D [Ty.sl L] q) Z n9 (D L f9) Pq (D L Pp) (E (1000*QJ)) (av (Pp Pt.toNat)))] 0 2)
def R67 (QQ RE:Int):=D aM (b5 [A (bn (D [Ty.sl L] q) n9 (D L f9) Pq (D L Pp) (E (1000*QQ)) (av (Pp RE.toNat))),A (bo (D [Ty.sl L] q) Z n9 (D L f9) Pq (D L Pp) (E (1000*QQ)) (av (Pp RE.toNat)))] 0 2)
def acB (R1 TE:Int):=D aM (b5 [A (bn (D [Ty.sl L] q) n9 (D L f9) Pq (D L Pp) TE (av (Pp R1.toNat))),A (bo (D [Ty.sl L] q) Z n9 (D L f9) Pq (D L Pp) TE (av (Pp R1.toNat)))] 0 2)
def zi (QU Py Pt:Int):=bif decide (E (1000*QU)<av (Pp Pt.toNat)) then decide (av (Pp Pt.toNat)<E (1000*Py)) else false
def zk (QU Py RE:Int):=bif decide (E (1000*QU)<av (Pp RE.toNat)) then decide (av (Pp RE.toNat)<E (1000*Py)) else false
def zu (QU Py R1:Int):=bif decide (E (1000*QU)<av (Pp R1.toNat)) then decide (av (Pp R1.toNat)<E (1000*Py)) else false
def yw (QJ QQ QX:Int):=bif decide (E (1000*QJ)<av (f9 QX.toNat)) then decide (av (f9 QX.toNat)<E (1000*QQ)) else false
def gQ (s0:ByteArray) (n1:Nat) (f1:be) (n3:Nat) (f3:be) (n5:Nat) (q:be) (Z Y:Int) (n9:Nat) (f9:be) (Pq:Nat) (Pp:be) (Q8 QJ QQ QU Py:Int):eY->RT eY
 |.L0 Pt Ry RL SY Vv=>.br (decide (Pt<(Pq:Int))) (.ob (dI Pt Pq) (.ii (.obi (.br (zi Pp QU Py Pt) (.ob (zi Pp QU Py Pt) (.ob (zi Pp QU Py Pt) (.obp (((1:Nat)<=n9/\n9<=(1000:Nat))/\(1:Nat)<=Pq/\Pq<=(1000:Nat)) (.obt (.br (bz n9 (D L f9) Pq (D L Pp) (E (1000*QJ)) (av (Pp Pt.toNat))) (.obp (fq n5 q n9 f9 Pq Pp) (.obt (.cb (.next (iR 0 14 []) (eY.L0 (E (Pt+1)) Ry (d5 RL 1 (S62 q Z n9 f9 Pq Pp QJ Pt)) (d6 SY 1 (S62 q Z n9 f9 Pq Pp QJ Pt)) Vv) [])))) (.next (iR 0 14 []) (eY.L0 (E (Pt+1)) Ry RL SY Vv) [])))))) (.next (iR 0 14 []) (eY.L0 (E (Pt+1)) Ry RL SY Vv) []))))) (.all (λl_12647=>.obp (((1:Nat)<=n9/\n9<=(1000:Nat))/\(1:Nat)<=Pq/\Pq<=(1000:Nat)) (.obt (.br (bz n9 (D L f9) Pq (D L Pp) (E (1000*QQ)) (E (1000*QU))) (.obp (fq n5 q n9 f9 Pq Pp) (.obt (.cb (.obp (((1:Nat)<=n9/\n9<=(1000:Nat))/\(1:Nat)<=Pq/\Pq<=(1000:Nat)) (.obt (.br (bz n9 (D L f9) Pq (D L Pp) (E (1000*QQ)) (E (1000*Py))) (.obp (fq n5 q n9 f9 Pq Pp) (.obt (.cb (.am Pq (.enter (iR 0 18 []) (eY.L4 0 (l_12647) (d5 (d5 RL 1 (wW q Z n9 f9 Pq Pp QQ QU)) 1 (wF q Z n9 f9 Pq Pp QQ Py)) (d6 (d6 SY 1 (wW q Z n9 f9 Pq Pp QQ QU)) 1 (wF q Z n9 f9 Pq Pp QQ Py)) Vv Pt Ry RL SY) []))))) (.am Pq (.enter (iR 0 18 []) (eY.L4 0 (l_12647) (d5 RL 1 (wW q Z n9 f9 Pq Pp QQ QU)) (d6 SY 1 (wW q Z n9 f9 Pq Pp QQ QU)) Vv Pt Ry RL SY) [])))))))) (.obp (((1:Nat)<=n9/\n9<=(1000:Nat))/\(1:Nat)<=Pq/\Pq<=(1000:Nat)) (.obt (.br (bz n9 (D L f9) Pq (D L Pp) (E (1000*QQ)) (E (1000*Py))) (.obp (fq n5 q n9 f9 Pq Pp) (.obt (.cb (.am Pq (.enter (iR 0 18 []) (eY.L4 0 (l_12647) (d5 RL 1 (wF q Z n9 f9 Pq Pp QQ Py)) (d6 SY 1 (wF q Z n9 f9 Pq Pp QQ Py)) Vv Pt Ry RL SY) []))))) (.am Pq (.enter (iR 0 18 []) (eY.L4 0 (l_12647) RL SY Vv Pt Ry RL SY) [])))))))))|.L2 QX V9 Rk Te=>.br (decide (QX<(n9:Int))) (.ob (dI QX n9) (.ii (.obi (.br (yw f9 QJ QQ QX) (.ob (yw f9 QJ QQ QX) (.ob (yw f9 QJ QQ QX) (.all (λl_12833=>.obp (((1:Nat)<=n9/\n9<=(1000:Nat))/\(1:Nat)<=Pq/\Pq<=(1000:Nat)) (.obt (.br (bz n9 (D L f9) Pq (D L Pp) (av (f9 QX.toNat)) (E (1000*QU))) (.obp (fq n5 q n9 f9 Pq Pp) (.obt (.cb (.obp (((1:Nat)<=n9/\n9<=(1000:Nat))/\(1:Nat)<=Pq/\Pq<=(1000:Nat)) (.obt (.br (bz n9 (D L f9) Pq (D L Pp) (av (f9 QX.toNat)) (E (1000*Py))) (.obp (fq n5 q n9 f9 Pq Pp) (.obt (.cb (.am Pq (.enter (iR 0 14 []) (eY.L5 0 (l_12833) (d5 (d5 Rk 1 (ww q Z n9 f9 Pq Pp QU QX)) 1 (wS q Z n9 f9 Pq Pp Py QX)) (d6 (d6 Te 1 (ww q Z n9 f9 Pq Pp QU QX)) 1 (wS q Z n9 f9 Pq Pp Py QX)) (av (f9 QX.toNat)) V9 QX Rk Te) []))))) (.am Pq (.enter (iR 0 14 []) (eY.L5 0 (l_12833) (d5 Rk 1 (ww q Z n9 f9 Pq Pp QU QX)) (d6 Te 1 (ww q Z n9 f9 Pq Pp QU QX)) (av (f9 QX.toNat)) V9 QX Rk Te) [])))))))) (.obp (((1:Nat)<=n9/\n9<=(1000:Nat))/\(1:Nat)<=Pq/\Pq<=(1000:Nat)) (.obt (.br (bz n9 (D L f9) Pq (D L Pp) (av (f9 QX.toNat)) (E (1000*Py))) (.obp (fq n5 q n9 f9 Pq Pp) (.obt (.cb (.am Pq (.enter (iR 0 14 []) (eY.L5 0 (l_12833) (d5 Rk 1 (wS q Z n9 f9 Pq Pp Py QX)) (d6 Te 1 (wS q Z n9 f9 Pq Pp Py QX)) (av (f9 QX.toNat)) V9 QX Rk Te) []))))) (.am Pq (.enter (iR 0 14 []) (eY.L5 0 (l_12833) Rk Te (av (f9 QX.toNat)) V9 QX Rk Te) []))))))))))) (.next (iR 0 10 []) (eY.L2 (E (QX+1)) V9 Rk Te) []))))) (.ret (V.agg [A Rk,A Te]))|.L4 RE SB XI U8 XT VL VZ VM VN=>.br (decide (RE<(Pq:Int))) (.ob (dI RE Pq) (.ii (.obi (.br (zk Pp QU Py RE) (.ob (zk Pp QU Py RE) (.ob (zk Pp QU Py RE) (.obp (((1:Nat)<=n9/\n9<=(1000:Nat))/\(1:Nat)<=Pq/\Pq<=(1000:Nat)) (.obt (.br (bz n9 (D L f9) Pq (D L Pp) (E (1000*QQ)) (av (Pp RE.toNat))) (.obp (fq n5 q n9 f9 Pq Pp) (.obt (.cb (.next (iR 0 18 []) (eY.L4 (E (RE+1)) SB (d5 XI 1 (R67 q Z n9 f9 Pq Pp QQ RE)) (d6 U8 1 (R67 q Z n9 f9 Pq Pp QQ RE)) XT VL VZ VM VN) [])))) (.next (iR 0 18 []) (eY.L4 (E (RE+1)) SB XI U8 XT VL VZ VM VN) [])))))) (.next (iR 0 18 []) (eY.L4 (E (RE+1)) SB XI U8 XT VL VZ VM VN) []))))) (.am n9 (.enter (iR 0 10 []) (eY.L2 0 XT XI U8) []))|.L5 R1 S7 XJ Tg TE XU XL Ud Uj=>.br (decide (R1<(Pq:Int))) (.ob (dI R1 Pq) (.ii (.obi (.br (zu Pp QU Py R1) (.ob (zu Pp QU Py R1) (.ob (zu Pp QU Py R1) (.obp (((1:Nat)<=n9/\n9<=(1000:Nat))/\(1:Nat)<=Pq/\Pq<=(1000:Nat)) (.obt (.br (bz n9 (D L f9) Pq (D L Pp) TE (av (Pp R1.toNat))) (.obp (fq n5 q n9 f9 Pq Pp) (.obt (.cb (.next (iR 0 14 []) (eY.L5 (E (R1+1)) S7 (d5 XJ 1 (acB q Z n9 f9 Pq Pp R1 TE)) (d6 Tg 1 (acB q Z n9 f9 Pq Pp R1 TE)) TE XU XL Ud Uj) [])))) (.next (iR 0 14 []) (eY.L5 (E (R1+1)) S7 XJ Tg TE XU XL Ud Uj) [])))))) (.next (iR 0 14 []) (eY.L5 (E (R1+1)) S7 XJ Tg TE XU XL Ud Uj) []))))) (.next (iR 0 10 []) (eY.L2 (E (XL+1)) XU XJ Tg) [])
def aan:RT eY:=dm (s0,n1,f1,n3,f3,Y,Q8) (.obp (fq n5 q n9 f9 Pq Pp) (.obt (.obp (fq n5 q n9 f9 Pq Pp) (.obt (.obp (fq n5 q n9 f9 Pq Pp) (.obt (.obp (fq n5 q n9 f9 Pq Pp) (.obt (.cb (.all (λl_12550=>.all (λl_12551=>.obp (((1:Nat)<=n9/\n9<=(1000:Nat))/\(1:Nat)<=Pq/\Pq<=(1000:Nat)) (.obt (.br (bz n9 (D L f9) Pq (D L Pp) (E (1000*QJ)) (E (1000*QU))) (.obp (fq n5 q n9 f9 Pq Pp) (.obt (.cb (.obp (((1:Nat)<=n9/\n9<=(1000:Nat))/\(1:Nat)<=Pq/\Pq<=(1000:Nat)) (.obt (.br (bz n9 (D L f9) Pq (D L Pp) (E (1000*QJ)) (E (1000*Py))) (.obp (fq n5 q n9 f9 Pq Pp) (.obt (.cb (.am Pq (.enter (iR 0 14 []) (eY.L0 0 (l_12551) (d5 (d5 (s8 q Z n9 f9 Pq Pp QJ QQ QU Py) 1 (wG q Z n9 f9 Pq Pp QJ QU)) 1 (wA q Z n9 f9 Pq Pp QJ Py)) (d6 (d6 (wZ q Z n9 f9 Pq Pp QJ QQ QU Py) 1 (wG q Z n9 f9 Pq Pp QJ QU)) 1 (wA q Z n9 f9 Pq Pp QJ Py)) (l_12550)) []))))) (.am Pq (.enter (iR 0 14 []) (eY.L0 0 (l_12551) (d5 (s8 q Z n9 f9 Pq Pp QJ QQ QU Py) 1 (wG q Z n9 f9 Pq Pp QJ QU)) (d6 (wZ q Z n9 f9 Pq Pp QJ QQ QU Py) 1 (wG q Z n9 f9 Pq Pp QJ QU)) (l_12550)) [])))))))) (.obp (((1:Nat)<=n9/\n9<=(1000:Nat))/\(1:Nat)<=Pq/\Pq<=(1000:Nat)) (.obt (.br (bz n9 (D L f9) Pq (D L Pp) (E (1000*QJ)) (E (1000*Py))) (.obp (fq n5 q n9 f9 Pq Pp) (.obt (.cb (.am Pq (.enter (iR 0 14 []) (eY.L0 0 (l_12551) (d5 (s8 q Z n9 f9 Pq Pp QJ QQ QU Py) 1 (wA q Z n9 f9 Pq Pp QJ Py)) (d6 (wZ q Z n9 f9 Pq Pp QJ QQ QU Py) 1 (wA q Z n9 f9 Pq Pp QJ Py)) (l_12550)) []))))) (.am Pq (.enter (iR 0 14 []) (eY.L0 0 (l_12551) (s8 q Z n9 f9 Pq Pp QJ QQ QU Py) (wZ q Z n9 f9 Pq Pp QJ QQ QU Py) (l_12550)) [])))))))))))))))))))
theorem nc1:dZ zh u0 (arS s0 n1 f1 n3 f3 n5 q Z Y n9 f9 Pq Pp Q8 QJ QQ QU Py) (hb' s0 n1 f1 n3 f3 n5 q Z Y n9 f9 Pq Pp Q8 QJ QQ QU Py) (aan s0 n1 f1 n3 f3 n5 q Z Y n9 f9 Pq Pp Q8 QJ QQ QU Py) (gQ s0 n1 f1 n3 f3 n5 q Z Y n9 f9 Pq Pp Q8 QJ QQ QU Py):=⟨bD,λs=>by cases s<;>exact bD⟩
def Oh (u v:Int) (o:Int×Int):Int×Int:=bif bz n9 f9 Pq Pp u v then(min o.1 (bn q n9 f9 Pq Pp u v),max o.2 (bo q Z n9 f9 Pq Pp u v)) else o
def C1 (lo hi v:Int):Bool:=bif decide (lo<v) then decide (v<hi) else false
def C0 (q:be) (Z:Int) (n9:Nat) (f9:be) (Pq:Nat) (Pp:be) (y0 y1 u:Int) (o:Int×Int):Nat->Int×Int
 |0=>o|k+1=>bif C1 y0 y1 (av (Pp k)) then Oh q Z n9 f9 Pq Pp u (av (Pp k)) (C0 q Z n9 f9 Pq Pp y0 y1 u o k) else C0 q Z n9 f9 Pq Pp y0 y1 u o k
def Gh (y0 y1 u:Int) (o:Int×Int):Int×Int:=Oh q Z n9 f9 Pq Pp u y1 (Oh q Z n9 f9 Pq Pp u y0 o)
def Xc (y0 y1 u:Int) (o:Int×Int):Int×Int:=C0 q Z n9 f9 Pq Pp y0 y1 u (Gh q Z n9 f9 Pq Pp y0 y1 u o) Pq
def FV (q:be) (Z:Int) (n9:Nat) (f9:be) (Pq:Nat) (Pp:be) (S R y0 y1:Int) (o:Int×Int):Nat->Int×Int
 |0=>o|k+1=>bif C1 S R (av (f9 k)) then Xc q Z n9 f9 Pq Pp y0 y1 (av (f9 k)) (FV q Z n9 f9 Pq Pp S R y0 y1 o k) else FV q Z n9 f9 Pq Pp S R y0 y1 o k
def KL (S R y0 y1:Int):Int×Int:=(min (min (min (bn q n9 f9 Pq Pp S y0) (bn q n9 f9 Pq Pp S y1)) (bn q n9 f9 Pq Pp R y0)) (bn q n9 f9 Pq Pp R y1),max (max (max (bo q Z n9 f9 Pq Pp S y0) (bo q Z n9 f9 Pq Pp S y1)) (bo q Z n9 f9 Pq Pp R y0)) (bo q Z n9 f9 Pq Pp R y1))
def Ld (S R y0 y1:Int):Int×Int:=FV q Z n9 f9 Pq Pp S R y0 y1 (Xc q Z n9 f9 Pq Pp y0 y1 R (Xc q Z n9 f9 Pq Pp y0 y1 S (KL q Z n9 f9 Pq Pp S R y0 y1))) n9
def jF:Int:=(Ld q Z n9 f9 Pq Pp (E (1000*QJ)) (E (1000*QQ)) (E (1000*QU)) (E (1000*Py))).1
def jG:Int:=(Ld q Z n9 f9 Pq Pp (E (1000*QJ)) (E (1000*QQ)) (E (1000*QU)) (E (1000*Py))).2
theorem q8 {q:be} {Z:Int} {n9:Nat} {f9:be} {Pq:Nat} {Pp:be} {u v:Int} {o:Int×Int} (h:bz n9 f9 Pq Pp u v=true):Oh q Z n9 f9 Pq Pp u v o=(min o.1 (bn q n9 f9 Pq Pp u v),max o.2 (bo q Z n9 f9 Pq Pp u v)):=by unfold Oh;rw[h];rfl
theorem tG {q:be} {Z:Int} {n9:Nat} {f9:be} {Pq:Nat} {Pp:be} {u v:Int} {o:Int×Int} (h:bz n9 f9 Pq Pp u v=false):Oh q Z n9 f9 Pq Pp u v o=o:=by unfold Oh;rw[h];rfl
theorem xD {q:be} {Z:Int} {n9:Nat} {f9:be} {Pq:Nat} {Pp:be} {y0 y1 u:Int} {o:Int×Int} {k:Nat} (h:(bif decide (y0<av (Pp k)) then decide (av (Pp k)<y1) else false)=true):C0 q Z n9 f9 Pq Pp y0 y1 u o (k+1)=Oh q Z n9 f9 Pq Pp u (av (Pp k)) (C0 q Z n9 f9 Pq Pp y0 y1 u o k):=by show(bif C1 _ _ _ then _ else _)=_;rw[show C1 y0 y1 (av (Pp k))=true from h];rfl
theorem JR {q:be} {Z:Int} {n9:Nat} {f9:be} {Pq:Nat} {Pp:be} {y0 y1 u:Int} {o:Int×Int} {k:Nat} (h:(bif decide (y0<av (Pp k)) then decide (av (Pp k)<y1) else false)=false):C0 q Z n9 f9 Pq Pp y0 y1 u o (k+1)=C0 q Z n9 f9 Pq Pp y0 y1 u o k:=by show(bif C1 _ _ _ then _ else _)=_;rw[show C1 y0 y1 (av (Pp k))=false from h];rfl
theorem adN {q:be} {Z:Int} {n9:Nat} {f9:be} {Pq:Nat} {Pp:be} {S R y0 y1:Int} {o:Int×Int} {k:Nat} (h:(bif decide (S<av (f9 k)) then decide (av (f9 k)<R) else false)=true):FV q Z n9 f9 Pq Pp S R y0 y1 o (k+1)=Xc q Z n9 f9 Pq Pp y0 y1 (av (f9 k)) (FV q Z n9 f9 Pq Pp S R y0 y1 o k):=by show(bif C1 _ _ _ then _ else _)=_;rw[show C1 S R (av (f9 k))=true from h];rfl
theorem hdS {q:be} {Z:Int} {n9:Nat} {f9:be} {Pq:Nat} {Pp:be} {S R y0 y1:Int} {o:Int×Int} {k:Nat} (h:(bif decide (S<av (f9 k)) then decide (av (f9 k)<R) else false)=false):FV q Z n9 f9 Pq Pp S R y0 y1 o (k+1)=FV q Z n9 f9 Pq Pp S R y0 y1 o k:=by show(bif C1 _ _ _ then _ else _)=_;rw[show C1 S R (av (f9 k))=false from h];rfl
theorem GP {q:be} {Z:Int} {n9:Nat} {f9:be} {Pq:Nat} {Pp:be} {y0 y1 u:Int} {o:Int×Int} (h:bz n9 f9 Pq Pp u y0=true) (k:bz n9 f9 Pq Pp u y1=true):Gh q Z n9 f9 Pq Pp y0 y1 u o=(min (min o.1 (bn q n9 f9 Pq Pp u y0)) (bn q n9 f9 Pq Pp u y1),max (max o.2 (bo q Z n9 f9 Pq Pp u y0)) (bo q Z n9 f9 Pq Pp u y1)):=by unfold Gh;rw[q8 k,q8 h]
theorem GG {q:be} {Z:Int} {n9:Nat} {f9:be} {Pq:Nat} {Pp:be} {y0 y1 u:Int} {o:Int×Int} (h:bz n9 f9 Pq Pp u y0=true) (k:bz n9 f9 Pq Pp u y1=false):Gh q Z n9 f9 Pq Pp y0 y1 u o=(min o.1 (bn q n9 f9 Pq Pp u y0),max o.2 (bo q Z n9 f9 Pq Pp u y0)):=by unfold Gh;rw[tG k,q8 h]
theorem FG {q:be} {Z:Int} {n9:Nat} {f9:be} {Pq:Nat} {Pp:be} {y0 y1 u:Int} {o:Int×Int} (h:bz n9 f9 Pq Pp u y0=false) (k:bz n9 f9 Pq Pp u y1=true):Gh q Z n9 f9 Pq Pp y0 y1 u o=(min o.1 (bn q n9 f9 Pq Pp u y1),max o.2 (bo q Z n9 f9 Pq Pp u y1)):=by unfold Gh;rw[q8 k,tG h]
theorem Ha {q:be} {Z:Int} {n9:Nat} {f9:be} {Pq:Nat} {Pp:be} {y0 y1 u:Int} {o:Int×Int} (h:bz n9 f9 Pq Pp u y0=false) (k:bz n9 f9 Pq Pp u y1=false):Gh q Z n9 f9 Pq Pp y0 y1 u o=o:=by unfold Gh;rw[tG k,tG h]
section
variable {Q1:Type} {Nx:Q1->V->Prop} {r:V}
include Q1 Nx r
theorem GB {QR Q2:Prop} {h0 M:Bool} {T11 T10 T01 T00:RT Q1} (hH:QR) (hQ:Q2) (t11:h0=true->M=true->aT Nx T11 r) (t10:h0=true->M=false->aT Nx T10 r) (t01:h0=false->M=true->aT Nx T01 r) (t00:h0=false->M=false->aT Nx T00 r) :
 aT Nx (.obp QR (.obt (.br h0 (.obp Q2 (.obt (.obc (.obt (.obp QR (.obt (.br M (.obp Q2 (.obt (.obc (.obt T11)))) T10))))))) (.obp QR (.obt (.br M (.obp Q2 (.obt (.obc (.obt T01)))) T00)))))) r :=
 aI hH (ac (C2 (λa=>aI hQ (ac (ao (ac (aI hH (ac (C2 (λc=>aI hQ (ac (ao (ac (t11 a c))))) (λc=>t10 a c)))))))) (λa=>aI hH (ac (C2 (λc=>aI hQ (ac (ao (ac (t01 a c))))) (λc=>t00 a c))))))
theorem Tn {QR Q2:Prop} {c0 c d h:Bool} {T1 bb2 T3:RT Q1} (hc:c0=true) (hH:QR) (hQ:Q2) (t1:c=true->h=true->aT Nx T1 r) (t2:c=true->h=false->aT Nx bb2 r) (t3:c=false->aT Nx T3 r) :
 aT Nx (.ob c0 (.obi (.obi (.obi (.br c (.ob c (.ob c (.obp QR (.obt (.br h (.obp Q2 (.obt (.obc (.obt T1)))) bb2))))) T3))))) r :=
 aF hc (B1 (B1 (B1 (C2 (λa=>aF a (aF a (aI hH (ac (C2 (λe=>aI hQ (ac (ao (ac (t1 a e))))) (λe=>t2 a e)))))) (λa=>t3 a)))))
theorem azo {c0 c:Bool} {T1 T3:RT Q1} (hc:c0=true) (t1:c=true->aT Nx T1 r) (t3:c=false->aT Nx T3 r) :
 aT Nx (.ob c0 (.obi (.obi (.obi (.br c (.ob c (.ob c T1)) T3))))) r :=
 aF hc (B1 (B1 (B1 (C2 (λa=>aF a (aF a (t1 a))) t3))))
end
def PK:Int×Int:=KL (D [Ty.sl L] q) Z n9 (D L f9) Pq (D L Pp) (E (1000*QJ)) (E (1000*QQ)) (E (1000*QU)) (E (1000*Py))
def T9:Int×Int:=Xc (D [Ty.sl L] q) Z n9 (D L f9) Pq (D L Pp) (E (1000*QU)) (E (1000*Py)) (E (1000*QJ)) (PK q Z n9 f9 Pq Pp QJ QQ QU Py)
def KJ:Int×Int:=Xc (D [Ty.sl L] q) Z n9 (D L f9) Pq (D L Pp) (E (1000*QU)) (E (1000*Py)) (E (1000*QQ)) (T9 q Z n9 f9 Pq Pp QJ QQ QU Py)
section
variable (s0:ByteArray) (n1:Nat) (f1:be) (n3:Nat) (f3:be) (n5:Nat) (q:be) (Z:Int) (Y:Int) (n9:Nat) (f9:be) (Pq:Nat) (Pp:be) (Q8:Int) (QJ:Int) (QQ:Int) (QU:Int) (Py:Int) (hp:oL n5 (D [Ty.sl L] q) n9 (D L f9) Pq (D L Pp))
include hp
theorem m73 (u i0 o1 o2:Int) (o:Int×Int) (nx:∃ QG,∀ l1,uf (gQ s0 n1 f1 n3 f3 n5 q Z Y n9 f9 Pq Pp Q8 QJ QQ QU Py) QG (.L2 (E (i0+1)) l1 (C0 (D [Ty.sl L] q) Z n9 (D L f9) Pq (D L Pp) (E (1000*QU)) (E (1000*Py)) u o Pq).1 (C0 (D [Ty.sl L] q) Z n9 (D L f9) Pq (D L Pp) (E (1000*QU)) (E (1000*Py)) u o Pq).2) (.agg [A (jF (D [Ty.sl L] q) Z n9 (D L f9) Pq (D L Pp) QJ QQ QU Py),A (jG (D [Ty.sl L] q) Z n9 (D L f9) Pq (D L Pp) QJ QQ QU Py)])):∀ k,k<=Pq->∃ QG,∀ l0 l1,uf (gQ s0 n1 f1 n3 f3 n5 q Z Y n9 f9 Pq Pp Q8 QJ QQ QU Py) QG (.L5 (k:Int) l0 (C0 (D [Ty.sl L] q) Z n9 (D L f9) Pq (D L Pp) (E (1000*QU)) (E (1000*Py)) u o k).1 (C0 (D [Ty.sl L] q) Z n9 (D L f9) Pq (D L Pp) (E (1000*QU)) (E (1000*Py)) u o k).2 u l1 i0 o1 o2) (.agg [A (jF (D [Ty.sl L] q) Z n9 (D L f9) Pq (D L Pp) QJ QQ QU Py),A (jG (D [Ty.sl L] q) Z n9 (D L f9) Pq (D L Pp) QJ QQ QU Py)]):=by
 refine dB λk hk ih=>?_;have hb:=hp.b;by_cases Q7:k<Pq
 ·have hw:E ((k:Int)+1)=((k+1:Nat):Int):=by rw[C8 K K];omega
  obtain⟨QG,ih⟩:=ih Q7;refine⟨QG+1,λl0 l1=>?_⟩;have ih:=ih l0 l1;refine(show aT (uf (gQ s0 n1 f1 n3 f3 n5 q Z Y n9 f9 Pq Pp Q8 QJ QQ QU Py) QG) _ _ from ?_);refine cP (BX K) (Tn (d:=true) (BX K) (MA hp) hp (λa e=>aL ?_) (λa e=>aL ?_) (λa=>aL ?_))
  ·rw[hw];have e:bz n9 (D L f9) Pq (D L Pp) u (av ((D L Pp) k))=true:=e;rw[xD (Pp:=(D L Pp)) (k:=k) a,q8 e]at ih;exact ih
  ·rw[hw];have e:bz n9 (D L f9) Pq (D L Pp) u (av ((D L Pp) k))=false:=e;rw[xD (Pp:=(D L Pp)) (k:=k) a,tG e]at ih;exact ih
  ·rw[hw];rw[JR (Pp:=(D L Pp)) (k:=k) a]at ih;exact ih
 ·have e:k=Pq:=by omega
  obtain⟨S2,nx⟩:=nx;refine⟨S2+1,λl0 l1=>?_⟩;refine(show aT (uf (gQ s0 n1 f1 n3 f3 n5 q Z Y n9 f9 Pq Pp Q8 QJ QQ QU Py) S2) _ _ from ?_);refine cW (eQ K) ?_;rw[e];exact aL (nx l1)
theorem isq:∀ k,k<=n9->∃ QG,∀ l,uf (gQ s0 n1 f1 n3 f3 n5 q Z Y n9 f9 Pq Pp Q8 QJ QQ QU Py) QG (.L2 (k:Int) l (FV (D [Ty.sl L] q) Z n9 (D L f9) Pq (D L Pp) (E (1000*QJ)) (E (1000*QQ)) (E (1000*QU)) (E (1000*Py)) (KJ q Z n9 f9 Pq Pp QJ QQ QU Py) k).1 (FV (D [Ty.sl L] q) Z n9 (D L f9) Pq (D L Pp) (E (1000*QJ)) (E (1000*QQ)) (E (1000*QU)) (E (1000*Py)) (KJ q Z n9 f9 Pq Pp QJ QQ QU Py) k).2) (.agg [A (jF (D [Ty.sl L] q) Z n9 (D L f9) Pq (D L Pp) QJ QQ QU Py),A (jG (D [Ty.sl L] q) Z n9 (D L f9) Pq (D L Pp) QJ QQ QU Py)]):=by
 refine dB λk hk ih=>?_;have ha:=hp.a;by_cases Q7:k<n9
 ·have hw:E ((k:Int)+1)=((k+1:Nat):Int):=by rw[C8 K K];omega
  have ih:=ih Q7;rw[← hw]at ih;by_cases hc:(bif decide ((E (1000*QJ))<av ((D L f9) k)) then decide (av ((D L f9) k)<(E (1000*QQ))) else false)=true
  ·rw [adN hc]at ih
   obtain⟨QG,nx⟩:=m73 s0 n1 f1 n3 f3 n5 q Z Y n9 f9 Pq Pp Q8 QJ QQ QU Py hp (av (f9 k)) (k:Int) (FV (D [Ty.sl L] q) Z n9 (D L f9) Pq (D L Pp) (E (1000*QJ)) (E (1000*QQ)) (E (1000*QU)) (E (1000*Py)) (KJ q Z n9 f9 Pq Pp QJ QQ QU Py) k).1 (FV (D [Ty.sl L] q) Z n9 (D L f9) Pq (D L Pp) (E (1000*QJ)) (E (1000*QQ)) (E (1000*QU)) (E (1000*Py)) (KJ q Z n9 f9 Pq Pp QJ QQ QU Py) k).2 (Gh (D [Ty.sl L] q) Z n9 (D L f9) Pq (D L Pp) (E (1000*QU)) (E (1000*Py)) (av (f9 k)) (FV (D [Ty.sl L] q) Z n9 (D L f9) Pq (D L Pp) (E (1000*QJ)) (E (1000*QQ)) (E (1000*QU)) (E (1000*Py)) (KJ q Z n9 f9 Pq Pp QJ QQ QU Py) k)) ih 0 (Da _);refine⟨QG+1,λl=>?_⟩;refine(show aT (uf (gQ s0 n1 f1 n3 f3 n5 q Z Y n9 f9 Pq Pp Q8 QJ QQ QU Py) QG) _ _ from ?_);refine cP (BX K) (azo (BX K) (λa=>Dt λl5=>?_) (λa=>?_))
   ·rw [De]
    exact(GB (MA hp) hp (λh0 M=>bC λ_=>aH (by
     have Pw:=nx l5 l;rw[GP h0 M]at Pw;exact Pw)) (λh0 M=>bC λ_=>aH (by
     have Pw:=nx l5 l;rw[GG h0 M]at Pw;exact Pw)) (λh0 M=>bC λ_=>aH (by
     have Pw:=nx l5 l;rw[FG h0 M]at Pw;exact Pw)) (λh0 M=>bC λ_=>aH (by
     have Pw:=nx l5 l;rw[Ha h0 M]at Pw;exact Pw)))
   ·exact absurd (hc.symm.trans a) aR
  ·have hc:=Bool.eq_false_iff.2 hc;rw[hdS hc]at ih;obtain⟨QG,ih⟩:=ih;refine⟨QG+1,λl=>?_⟩;refine(show aT (uf (gQ s0 n1 f1 n3 f3 n5 q Z Y n9 f9 Pq Pp Q8 QJ QQ QU Py) QG) _ _ from ?_);refine cP (BX K) (azo (BX K) (λa=>?_) (λa=>aL (ih l)));exact absurd (hc.symm.trans a) aR
 ·have e:k=n9:=by omega
  refine⟨1,λl=>?_⟩;refine(show aT (uf (gQ s0 n1 f1 n3 f3 n5 q Z Y n9 f9 Pq Pp Q8 QJ QQ QU Py) 0) _ _ from ?_);refine cW (eQ K) ?_;rw[e];exact B5 rfl
theorem ic8 :∀ k,k<=Pq->∃ QG,∀ l0 n4 i5 n6 i7 i8,uf (gQ s0 n1 f1 n3 f3 n5 q Z Y n9 f9 Pq Pp Q8 QJ QQ QU Py) QG (.L4 (k:Int) l0 (C0 (D [Ty.sl L] q) Z n9 (D L f9) Pq (D L Pp) (E (1000*QU)) (E (1000*Py)) (E (1000*QQ)) (Gh (D [Ty.sl L] q) Z n9 (D L f9) Pq (D L Pp) (E (1000*QU)) (E (1000*Py)) (E (1000*QQ)) (T9 q Z n9 f9 Pq Pp QJ QQ QU Py)) k).1 (C0 (D [Ty.sl L] q) Z n9 (D L f9) Pq (D L Pp) (E (1000*QU)) (E (1000*Py)) (E (1000*QQ)) (Gh (D [Ty.sl L] q) Z n9 (D L f9) Pq (D L Pp) (E (1000*QU)) (E (1000*Py)) (E (1000*QQ)) (T9 q Z n9 f9 Pq Pp QJ QQ QU Py)) k).2 n4 i5 n6 i7 i8) (.agg [A (jF (D [Ty.sl L] q) Z n9 (D L f9) Pq (D L Pp) QJ QQ QU Py),A (jG (D [Ty.sl L] q) Z n9 (D L f9) Pq (D L Pp) QJ QQ QU Py)]):=by
 refine dB λk hk ih=>?_;have hb:=hp.b;by_cases Q7:k<Pq
 ·have hw:E ((k:Int)+1)=((k+1:Nat):Int):=by rw[C8 K K];omega
  obtain⟨QG,ih⟩:=ih Q7;refine⟨QG+1,λl0 n4 i5 n6 i7 i8=>?_⟩;have ih:=ih l0 n4 i5 n6 i7 i8;refine(show aT (uf (gQ s0 n1 f1 n3 f3 n5 q Z Y n9 f9 Pq Pp Q8 QJ QQ QU Py) QG) _ _ from ?_);refine cP (BX K) (Tn (d:=true) (BX K) (MA hp) hp (λa e=>aL ?_) (λa e=>aL ?_) (λa=>aL ?_))
  ·rw[hw];have e:bz n9 (D L f9) Pq (D L Pp) (E (1000*QQ)) (av ((D L Pp) k))=true:=e;rw[xD (Pp:=(D L Pp)) (k:=k) a,q8 e]at ih;exact ih
  ·rw[hw];have e:bz n9 (D L f9) Pq (D L Pp) (E (1000*QQ)) (av ((D L Pp) k))=false:=e;rw[xD (Pp:=(D L Pp)) (k:=k) a,tG e]at ih;exact ih
  ·rw[hw];rw[JR (Pp:=(D L Pp)) (k:=k) a]at ih;exact ih
 ·have e:k=Pq:=by omega
  obtain⟨S2,nx⟩:=isq s0 n1 f1 n3 f3 n5 q Z Y n9 f9 Pq Pp Q8 QJ QQ QU Py hp 0 (Da _);refine⟨S2+1,λl0 n4 i5 n6 i7 i8=>?_⟩;refine(show aT (uf (gQ s0 n1 f1 n3 f3 n5 q Z Y n9 f9 Pq Pp Q8 QJ QQ QU Py) S2) _ _ from ?_);refine cW (eQ K) ?_;rw[e];exact bC λ_=>aH (nx n4)
theorem ie9 :∀ k,k<=Pq->∃ QG,∀ l0 n4,uf (gQ s0 n1 f1 n3 f3 n5 q Z Y n9 f9 Pq Pp Q8 QJ QQ QU Py) QG (.L0 (k:Int) l0 (C0 (D [Ty.sl L] q) Z n9 (D L f9) Pq (D L Pp) (E (1000*QU)) (E (1000*Py)) (E (1000*QJ)) (Gh (D [Ty.sl L] q) Z n9 (D L f9) Pq (D L Pp) (E (1000*QU)) (E (1000*Py)) (E (1000*QJ)) (PK q Z n9 f9 Pq Pp QJ QQ QU Py)) k).1 (C0 (D [Ty.sl L] q) Z n9 (D L f9) Pq (D L Pp) (E (1000*QU)) (E (1000*Py)) (E (1000*QJ)) (Gh (D [Ty.sl L] q) Z n9 (D L f9) Pq (D L Pp) (E (1000*QU)) (E (1000*Py)) (E (1000*QJ)) (PK q Z n9 f9 Pq Pp QJ QQ QU Py)) k).2 n4) (.agg [A (jF (D [Ty.sl L] q) Z n9 (D L f9) Pq (D L Pp) QJ QQ QU Py),A (jG (D [Ty.sl L] q) Z n9 (D L f9) Pq (D L Pp) QJ QQ QU Py)]):=by
 refine dB λk hk ih=>?_;have hb:=hp.b;by_cases Q7:k<Pq
 ·have hw:E ((k:Int)+1)=((k+1:Nat):Int):=by rw[C8 K K];omega
  obtain⟨QG,ih⟩:=ih Q7;refine⟨QG+1,λl0 n4=>?_⟩;have ih:=ih l0 n4;refine(show aT (uf (gQ s0 n1 f1 n3 f3 n5 q Z Y n9 f9 Pq Pp Q8 QJ QQ QU Py) QG) _ _ from ?_);refine cP (BX K) (Tn (d:=true) (BX K) (MA hp) hp (λa e=>aL ?_) (λa e=>aL ?_) (λa=>aL ?_))
  ·rw[hw];have e:bz n9 (D L f9) Pq (D L Pp) (E (1000*QJ)) (av ((D L Pp) k))=true:=e;rw[xD (Pp:=(D L Pp)) (k:=k) a,q8 e]at ih;exact ih
  ·rw[hw];have e:bz n9 (D L f9) Pq (D L Pp) (E (1000*QJ)) (av ((D L Pp) k))=false:=e;rw[xD (Pp:=(D L Pp)) (k:=k) a,tG e]at ih;exact ih
  ·rw[hw];rw[JR (Pp:=(D L Pp)) (k:=k) a]at ih;exact ih
 ·have e:k=Pq:=by omega
  obtain⟨S2,nx⟩:=ic8 s0 n1 f1 n3 f3 n5 q Z Y n9 f9 Pq Pp Q8 QJ QQ QU Py hp 0 (Da _);refine⟨S2+1,λl0 n4=>?_⟩;refine(show aT (uf (gQ s0 n1 f1 n3 f3 n5 q Z Y n9 f9 Pq Pp Q8 QJ QQ QU Py) S2) _ _ from ?_);refine cW (eQ K) ?_;rw[e];exact Dt λl4=>(GB (MA hp) hp (λh0 M=>bC λ_=>aH (by
   have Pw:=nx l4 n4 (Pq:Int) l0 (T9 q Z n9 f9 Pq Pp QJ QQ QU Py).1 (T9 q Z n9 f9 Pq Pp QJ QQ QU Py).2;rw[GP h0 M]at Pw;exact Pw)) (λh0 M=>bC λ_=>aH (by
   have Pw:=nx l4 n4 (Pq:Int) l0 (T9 q Z n9 f9 Pq Pp QJ QQ QU Py).1 (T9 q Z n9 f9 Pq Pp QJ QQ QU Py).2;rw[GG h0 M]at Pw;exact Pw)) (λh0 M=>bC λ_=>aH (by
   have Pw:=nx l4 n4 (Pq:Int) l0 (T9 q Z n9 f9 Pq Pp QJ QQ QU Py).1 (T9 q Z n9 f9 Pq Pp QJ QQ QU Py).2;rw[FG h0 M]at Pw;exact Pw)) (λh0 M=>bC λ_=>aH (by
   have Pw:=nx l4 n4 (Pq:Int) l0 (T9 q Z n9 f9 Pq Pp QJ QQ QU Py).1 (T9 q Z n9 f9 Pq Pp QJ QQ QU Py).2;rw[Ha h0 M]at Pw;exact Pw)))
end
theorem aiY (hp:oL n5 (D [.sl L] q) n9 (D L f9) Pq (D L Pp)):aT (Ev (gQ s0 n1 f1 n3 f3 n5 q Z Y n9 f9 Pq Pp Q8 QJ QQ QU Py)) (aan s0 n1 f1 n3 f3 n5 q Z Y n9 f9 Pq Pp Q8 QJ QQ QU Py) (.agg [A (jF (D [.sl L] q) Z n9 (D L f9) Pq (D L Pp) QJ QQ QU Py),A (jG (D [.sl L] q) Z n9 (D L f9) Pq (D L Pp) QJ QQ QU Py)]):=by
 obtain⟨QG,hN⟩:=ie9 s0 n1 f1 n3 f3 n5 q Z Y n9 f9 Pq Pp Q8 QJ QQ QU Py hp 0 (Da _);exact aI hp (ac (aI hp (ac (aI hp (ac (aI hp (ac (ao (ac (Dt λl4=>Dt λl0=>(GB (MA hp) hp (λh0 M=>bC λ_=>aH (by
  have Pw:=hN l0 l4;rw[GP h0 M]at Pw;exact⟨QG,Pw⟩)) (λh0 M=>bC λ_=>aH (by
  have Pw:=hN l0 l4;rw[GG h0 M]at Pw;exact⟨QG,Pw⟩)) (λh0 M=>bC λ_=>aH (by
  have Pw:=hN l0 l4;rw[FG h0 M]at Pw;exact⟨QG,Pw⟩)) (λh0 M=>bC λ_=>aH (by
  have Pw:=hN l0 l4;rw[Ha h0 M]at Pw;exact⟨QG,Pw⟩)))))))))))))
def abW:aE:=bP [.agg [.str,.sl L,.sl L,.sl [.sl L],tI,tI,.sl L,.sl L,tI],.agg gV] (λ
 |[.agg [.str s0,.sl n1 f1,.sl n3 f3,.sl n5 q,.int _ Z,.int _ Y,.sl n9 f9,.sl Pq Pp,.int _ Q8],.agg [.int _ QJ,.int _ QQ,.int _ QU,.int _ Py]]=>oL n5 q n9 f9 Pq Pp|_=>False) λ
 |[.agg [.str s0,.sl n1 f1,.sl n3 f3,.sl n5 q,.int _ Z,.int _ Y,.sl n9 f9,.sl Pq Pp,.int _ Q8],.agg [.int _ QJ,.int _ QQ,.int _ QU,.int _ Py]]=>.agg [A (jF q Z n9 f9 Pq Pp QJ QQ QU Py),A (jG q Z n9 f9 Pq Pp QJ QQ QU Py)]|_=>.any
theorem aki:b9 abW 66:=aU fs4 λ_ hp=>kr (nc1 ..) (aiY _ _ _ _ _ _ _ _ _ _ _ _ _ _ _ _ _ _ hp)
def HZ:bm:=(66,.con abW)::zh
theorem FF:aZ Tryz.prog Bs C3 HZ:=.con aki (fs4)
def aaI:RT Empty:=dm (s0,R,W,Q,x5,x6,Pr,Px,Q8) (.cb (.cb (.ret (V.agg [A (pP U Y Ps QJ QQ QU),A (pS U Z x9 QJ QQ QU)]))))
theorem io6:cY cZ (aQ JJ HZ u0 hc2 [V.agg [V.str s0,A R,A W,A U,A Q,A x5,A x6,A Z,A Y,A x9,A Ps,A Pr,A Px,A Q8],V.agg [A QJ,A QQ,A QU]]) (aaI s0 R W U Q x5 x6 Z Y x9 Ps Pr Px Q8 QJ QQ QU):=bD
def qP:Int:=pP U Y Ps QJ QQ QU
def qN:Int:=pS U Z x9 QJ QQ QU
def PS:V:=dm (s0,R,W,Q,x5,x6,Pr,Px,Q8) (.agg [A (qP U Y Ps QJ QQ QU),A (qN U Z x9 QJ QQ QU)])
theorem afs:aT cM (aaI s0 R W U Q x5 x6 Z Y x9 Ps Pr Px Q8 QJ QQ QU) (PS s0 R W U Q x5 x6 Z Y x9 Ps Pr Px Q8 QJ QQ QU):=ao (ac (ao (ac (B5 (by unfold PS qP qN;rfl)))))
def aaF:aE:=bP [.agg B4,.agg cI] (λ_=>True) λ|[.agg [.str s0,.int _ R,.int _ W,.int _ U,.int _ Q,.int _ x5,.int _ x6,.int _ Z,.int _ Y,.int _ x9,.int _ Ps,.int _ Pr,.int _ Px,.int _ Q8],.agg [.int _ QJ,.int _ QQ,.int _ QU]]=>PS s0 R W U Q x5 x6 Z Y x9 Ps Pr Px Q8 QJ QQ QU|_=>.any
theorem al9:b9 aaF 95:=aU FF λ_ hp=>da (io6 ..) (afs _ _ _ _ _ _ _ _ _ _ _ _ _ _ _ _ _)
def abM:RT Empty:=dm (s0,R,W,Q,x5,x6,Pr,Px,Q8) (.obp (nz 1000000) (.obt (.obp (nz 1000) (.obt (.obp (nz 1000000) (.obt (.obp (nz 1000) (.obt (.obp (nz 1000) (.obt (.obp (nz 1000) (.obt (.ret (V.agg [A (dU (E (dU (E (dU (E (U*max 0 (E (1000000-E (Y*QJ))))) 1000000*max 0 (E (1000-E (Ps*QQ))))) 1000*QU)) 1000),A (eP (E (eP (E (eP (E (U*max 0 (E (1000000-E (Z*QJ))))) 1000000*max 0 (E (1000-E (x9*QQ))))) 1000*QU)) 1000)]))))))))))))))
theorem nc4:cY cZ (aQ JJ HZ u0 afi [V.agg [V.str s0,A R,A W,A U,A Q,A x5,A x6,A Z,A Y,A x9,A Ps,A Pr,A Px,A Q8],V.agg [A QJ,A QQ,A QU]]) (abM s0 R W U Q x5 x6 Z Y x9 Ps Pr Px Q8 QJ QQ QU):=bD
def qm:Int:=dU (E (dU (E (dU (E (U*max 0 (E (1000000-E (Y*QJ))))) 1000000*max 0 (E (1000-E (Ps*QQ))))) 1000*QU)) 1000
def qE:Int:=eP (E (eP (E (eP (E (U*max 0 (E (1000000-E (Z*QJ))))) 1000000*max 0 (E (1000-E (x9*QQ))))) 1000*QU)) 1000
def Pm:V:=dm (s0,R,W,Q,x5,x6,Pr,Px,Q8) (.agg [A (qm U Y Ps QJ QQ QU),A (qE U Z x9 QJ QQ QU)])
theorem ahy:aT cM (abM s0 R W U Q x5 x6 Z Y x9 Ps Pr Px Q8 QJ QQ QU) (Pm s0 R W U Q x5 x6 Z Y x9 Ps Pr Px Q8 QJ QQ QU):=aI (by first|assumption|(decide)) (ac (aI (by first|assumption|(decide)) (ac (aI (by first|assumption|(decide)) (ac (aI (by first|assumption|(decide)) (ac (aI (by first|assumption|(decide)) (ac (aI (by first|assumption|(decide)) (ac (B5 (by unfold Pm qm qE;rfl)))))))))))))
def abX:aE:=bP [.agg B4,.agg cI] (λ_=>True) λ|[.agg [.str s0,.int _ R,.int _ W,.int _ U,.int _ Q,.int _ x5,.int _ x6,.int _ Z,.int _ Y,.int _ x9,.int _ Ps,.int _ Pr,.int _ Px,.int _ Q8],.agg [.int _ QJ,.int _ QQ,.int _ QU]]=>Pm s0 R W U Q x5 x6 Z Y x9 Ps Pr Px Q8 QJ QQ QU|_=>.any
theorem afL:b9 abX 113:=aU FF λ_ hp=>da (nc4 ..) (ahy _ _ _ _ _ _ _ _ _ _ _ _ _ _ _ _ _)
theorem To (a b c d e f:Int):qP a b c d e f=qm a b c d e f:=by unfold qP qm pP;rw[Int.max_comm 0,Int.max_comm 0];rfl
theorem hpm (a b c d e f:Int):qN a b c d e f=qE a b c d e f:=by unfold qN qE pS;rw[Int.max_comm 0,Int.max_comm 0];rfl
def Im:bm:=(95,.con aaF)::(113,.con abX)::HZ
theorem F7:aZ Tryz.prog Bs C3 Im:=.con al9 (.con afL (FF))
def acp:RT Empty:=.obp ((aD H G)/\aD T O) (.obt (.ii (.asm ((dh H (D ap G) T (D B4 O)==0)=true->T<=9223372036854775807) (.obi (.br (dh H (D ap G) T (D B4 O)==0) (.ob (dh H (D ap G) T (D B4 O)==0) (.ob (dh H (D ap G) T (D B4 O)==0) (.cb (.br (!aG Q 0 (E ((T:Int)-1))) (.ret (A 4)) (.ret (A (dh H (D ap G) T (D B4 O)))))))) (.ret (A (dh H (D ap G) T (D B4 O)))))))))
theorem in6:cY cZ (aQ JJ Im u0 alq [V.agg [V.sl H (D ap G),V.sl T (D B4 O)],A Q]) (acp H G T O Q):=bD
def fv:Int:=bif dh H (D ap G) T (D B4 O)==0 then bif !aG Q 0 (E ((T:Int)-1)) then 4 else dh H (D ap G) T (D B4 O) else dh H (D ap G) T (D B4 O)
def Ec:V:=A (fv H G T O Q)
theorem aj4 (hp:aD H G/\aD T O):aT cM (acp H G T O Q) (Ec H G T O Q):=aI (by first|assumption|(exact hp)) (ac (B1 (B1 (D3 (λa0=>B1 (C2 (λh0=>aF (by first|assumption|(fail)) (aF (by first|assumption|(fail)) (ao (ac (C2 (λM=>B5 (by unfold Ec fv;try rw[h0];try rw[M];rfl)) (λM=>B5 (by unfold Ec fv;try rw[h0];try rw[M];rfl))))))) (λh0=>B5 (by unfold Ec fv;try rw[h0];rfl))))))))
def aca:aE:=bP [.agg [.sl ap,.sl B4],tI] (λ
 |[.agg [.sl H G,.sl T O],.int _ Q]=>aD H G/\aD T O|_=>False) λ
 |[.agg [.sl H G,.sl T O],.int _ Q]=>Ec H G T O Q|_=>.any
theorem aip:b9 aca 110:=aU F7 λ_ hp=>da (in6 ..) (aj4 _ _ _ _ _ hp)
theorem Of {x:Int} {n:Nat} (hn:n<=9223372036854775807) (h:(!aw x 0 (E ((n:Int)-1)))=false):decide (0<=x/\x<(n:Int))=true:=by
 rw[C8 K K]at h;unfold aw at h;refine BX ?_;by_cases M:0<=x
 ·by_cases N:x<=(n:Int)-1
  ·omega
  ·rw[BX M,eQ N]at h;simp at h
 ·rw[eQ M]at h;simp at h
def acI:RT Empty:=.obp ((aD H G)/\aD T O) (.obt (.br (b7 H (D ap G) T (D B4 O)!=0) (.ret (V.tup [V.agg [V.str (ByteArray.mk (Array.mk [])),A 0,A 0,A 0,A 0,A 0,A 0,A 0,A 0,A 0,A 0,A 0,A 0,A 0],A (b7 H (D ap G) T (D B4 O))])) (.am T (.cb (.br (!aw Q 0 (E ((T:Int)-1))) (.ret (V.tup [V.agg [V.str (ByteArray.mk (Array.mk [])),A 0,A 0,A 0,A 0,A 0,A 0,A 0,A 0,A 0,A 0,A 0,A 0,A 0],A 4])) (.ob (dI Q T) (.ret (V.tup [V.agg [V.str (sv (aA (O Q.toNat))),A (aP (O Q.toNat)),A (bV (O Q.toNat)),A (bf (O Q.toNat)),A (cu (O Q.toNat)),A (bE (O Q.toNat)),A (bE (I (O Q.toNat))),A (bE (I (I (O Q.toNat)))),A (bE (I (I (I (O Q.toNat))))),A (bE (I (I (I (I (O Q.toNat)))))),A (bE (I (I (I (I (I (O Q.toNat))))))),A (bE (I (I (I (I (I (I (O Q.toNat)))))))),A (bE (I (I (I (I (I (I (I (O Q.toNat))))))))),A (bE (I (I (I (I (I (I (I (I (O Q.toNat))))))))))],A 0]))))))))
theorem ovH:cY cZ (aQ JJ Im u0 yaX [V.agg [V.sl H (D ap G),V.sl T (D B4 O)],A Q]) (acI H G T O Q):=bD
def wm:ByteArray:=bif b7 H (D ap G) T (D B4 O)!=0 then ByteArray.mk (Array.mk []) else bif !aw Q 0 (E ((T:Int)-1)) then ByteArray.mk (Array.mk []) else sv (aA (O Q.toNat))
def bZ:Int:=bif b7 H (D ap G) T (D B4 O)!=0 then 0 else bif !aw Q 0 (E ((T:Int)-1)) then 0 else aP (O Q.toNat)
def wR:Int:=bif b7 H (D ap G) T (D B4 O)!=0 then 0 else bif !aw Q 0 (E ((T:Int)-1)) then 0 else bV (O Q.toNat)
def jS:Int:=bif b7 H (D ap G) T (D B4 O)!=0 then 0 else bif !aw Q 0 (E ((T:Int)-1)) then 0 else bf (O Q.toNat)
def wz:Int:=bif b7 H (D ap G) T (D B4 O)!=0 then 0 else bif !aw Q 0 (E ((T:Int)-1)) then 0 else cu (O Q.toNat)
def wj:Int:=bif b7 H (D ap G) T (D B4 O)!=0 then 0 else bif !aw Q 0 (E ((T:Int)-1)) then 0 else bE (O Q.toNat)
def wC:Int:=bif b7 H (D ap G) T (D B4 O)!=0 then 0 else bif !aw Q 0 (E ((T:Int)-1)) then 0 else bE (I (O Q.toNat))
def IL:Int:=bif b7 H (D ap G) T (D B4 O)!=0 then 0 else bif !aw Q 0 (E ((T:Int)-1)) then 0 else bE (I (I (O Q.toNat)))
def mj:Int:=bif b7 H (D ap G) T (D B4 O)!=0 then 0 else bif !aw Q 0 (E ((T:Int)-1)) then 0 else bE (I (I (I (O Q.toNat))))
def mH:Int:=bif b7 H (D ap G) T (D B4 O)!=0 then 0 else bif !aw Q 0 (E ((T:Int)-1)) then 0 else bE (I (I (I (I (O Q.toNat)))))
def kh:Int:=bif b7 H (D ap G) T (D B4 O)!=0 then 0 else bif !aw Q 0 (E ((T:Int)-1)) then 0 else bE (I (I (I (I (I (O Q.toNat))))))
def tX:Int:=bif b7 H (D ap G) T (D B4 O)!=0 then 0 else bif !aw Q 0 (E ((T:Int)-1)) then 0 else bE (I (I (I (I (I (I (O Q.toNat)))))))
def tL:Int:=bif b7 H (D ap G) T (D B4 O)!=0 then 0 else bif !aw Q 0 (E ((T:Int)-1)) then 0 else bE (I (I (I (I (I (I (I (O Q.toNat))))))))
def sF:Int:=bif b7 H (D ap G) T (D B4 O)!=0 then 0 else bif !aw Q 0 (E ((T:Int)-1)) then 0 else bE (I (I (I (I (I (I (I (I (O Q.toNat)))))))))
def cU:Int:=bif b7 H (D ap G) T (D B4 O)!=0 then b7 H (D ap G) T (D B4 O) else bif !aw Q 0 (E ((T:Int)-1)) then 4 else 0
def E3:V:=.tup [.agg [.str (wm H G T O Q),A (bZ H G T O Q),A (wR H G T O Q),A (jS H G T O Q),A (wz H G T O Q),A (wj H G T O Q),A (wC H G T O Q),A (IL H G T O Q),A (mj H G T O Q),A (mH H G T O Q),A (kh H G T O Q),A (tX H G T O Q),A (tL H G T O Q),A (sF H G T O Q)],A (cU H G T O Q)]
theorem ajj (hp:aD H G/\aD T O):aT cM (acI H G T O Q) (E3 H G T O Q):=aI (by first|assumption|(exact hp)) (ac (C2 (λh0=>B5 (by unfold E3 wm bZ wR jS wz wj wC IL mj mH kh tX tL sF cU;try rw[h0];rfl)) (λh0=>D3 (λa1=>ao (ac (C2 (λM=>B5 (by unfold E3 wm bZ wR jS wz wj wC IL mj mH kh tX tL sF cU;try rw[h0];try rw[M];rfl)) (λM=>aF (by first|assumption|((exact Of (a1 rfl) M))) (B5 (by unfold E3 wm bZ wR jS wz wj wC IL mj mH kh tX tL sF cU;try rw[h0];try rw[M];rfl)))))))))
def acM:aE:=bP [.agg [.sl ap,.sl B4],tI] (λ
 |[.agg [.sl H G,.sl T O],.int _ Q]=>aD H G/\aD T O|_=>False) λ
 |[.agg [.sl H G,.sl T O],.int _ Q]=>E3 H G T O Q|_=>.any
theorem alC:b9 acM 93:=aU F7 λ_ hp=>da (ovH ..) (ajj _ _ _ _ _ hp)
structure qQ (n:Nat) (f:be):Prop where
 r:∀i,i<n->-5000<=av (f i)/\av (f i)<=5000
 u:∀i,i+1<n->av (f i)<av (f (i+1))
theorem apx {n:Nat} {f g:be} (hn:n<=12) (e:∀ i,av (g i)=av (f i)) (M:lO n g=true) (N:Ds n g=true):qQ n f:=by
 refine⟨λi hi=>?_,λi hi=>?_⟩
 ·have:=dA M i hi;have:=zB this;rw[e]at this;exact this
 ·have:=dA N (i+1) hi
  have:decide (av (g i)<av (g (i+1)))=true:=by unfold Uh at this;rw[C8 K K,show((((i+1:Nat):Int)==0)=false) from by simp;omega]at this;have h3:decide (av (g ((((i+1:Nat):Int)-1).toNat))<av (g (((i+1:Nat):Int).toNat)))=true:=this;rw[show(((i+1:Nat):Int)-1).toNat=i by omega,show((i+1:Nat):Int).toNat=i+1 by omega]at h3;exact h3
  have:=DU this;rw[e,e]at this;exact this
theorem O2 {G:be} {a:Nat} (h:iN (D ap G) a=0):qQ (aB (aA (I (G a)))) (bL (aA (I (G a))))/\qQ (aB (aA (I (I (G a))))) (bL (aA (I (I (G a))))):=by have t:=FK h;unfold iN at h;obtain⟨_,h⟩:=lQ h aR;obtain⟨_,h⟩:=lQ h aR;unfold F2 at h;obtain⟨_,h⟩:=lQ h aR;obtain⟨M,h⟩:=lQ h aR;obtain⟨N,_⟩:=lQ h aR;obtain⟨r1,r2⟩:=NO M;obtain⟨u1,u2⟩:=NO N;exact⟨apx t.u.2 (λi=>rfl) r1 u1,apx t.v.2 (λi=>rfl) r2 u2⟩
theorem ayn {x:List V} {QR:Int} (t:qU x) (u:qQ (aB (aA (I x))) (bL (aA (I x)))) (v:qQ (aB (aA (I (I x)))) (bL (aA (I (I x))))) (h:1<=QR/\QR<=30000) :
 oL (Mu x) (zE x) (aB (aA (I x))) (dJ (bL (aA (I x))) QR) (aB (aA (I (I x)))) (dJ (bL (aA (I (I x)))) QR):=by
 have key:∀ {n:Nat} {f:be},qQ n f->∀ i:Nat,i+1<n->E (av (dJ f QR (i+1))-av (dJ f QR i))≠0:=by
  intro n f w i hi;have hu:=w.u i hi;have r0:=w.r i K;have r1:=w.r (i+1) hi;have b:∀a:Int,-5000<=a/\a<=5000->-150000000<=a*QR/\a*QR<=150000000:=λa ha=>by have M:a*QR<=5000*QR:=Gk ha.2 K;have N:(-5000)*QR<=a*QR:=Gk ha.1 K;omega
  have b0:=b _ r0;have b1:=b _ r1;have e:∀j,av (dJ f QR j)=E (av (f j)*QR):=λj=>rfl;rw[e,e,C8 (x:=av (f i)*QR) K K,C8 (x:=av (f (i+1))*QR) K K,C8 K K];have:av (f i)*QR<av (f (i+1))*QR:=Int.mul_lt_mul_of_pos_right hu K;omega
 refine⟨⟨t.u.1,by have:=t.u.2;omega⟩,⟨t.v.1,by have:=t.v.2;omega⟩,by rw[t.n];exact D7 _,λi hi=>?_,key u,key v⟩;have:=t.row i hi;show _<=aB (aA (zE x i));omega
theorem arI {H:Nat} {G:be} {T:Nat} {O:be} {Q:Int} (h:cU H G T O Q=0) :
 (0<=bZ H G T O Q/\bZ H G T O Q<(H:Int))/\iN (D ap (D ap G)) (bZ H G T O Q).toNat=0:=by
 unfold cU at h;have e:b7 H (D ap G) T (D B4 O)=0:=by
  by_cases e:b7 H (D ap G) T (D B4 O)=0
  ·exact e
  ·have:(b7 H (D ap G) T (D B4 O)!=0)=true:=by simpa using e
   rw[this]at h;exact h
 have c:=qy H (D ap G) T (D B4 O);have v:Cy H (D ap G) T (D B4 O):=ye (by have:=congrArg (λp=>p.2.2) c;exact this.symm.trans e);have ne:(b7 H (D ap G) T (D B4 O)!=0)=false:=by rw[e];rfl
 rw[ne]at h;have hb:(!aw Q 0 (E ((T:Int)-1)))=false:=by
  cases hh:(!aw Q 0 (E ((T:Int)-1))) with
  |false=>rfl|true=>rw[hh]at h;cases h
 have l2:=v.l2;have r:=DU (Of K hb);have ybh:bZ H G T O Q=aP (O Q.toNat):=by unfold bZ;rw[ne,hb];rfl
 have lm:=(Sw (a:=Q.toNat) v.l0 (v.lm Q.toNat K)).t;have lm:0<=aP (O Q.toNat)/\aP (O Q.toNat)<(H:Int):=lm;rw[ybh];exact⟨lm,v.tb _ K⟩
def R2:bm:=(110,.con aca)::(93,.con acM)::Im
theorem f14:aZ Tryz.prog Bs C3 R2:=.con aip (.con alC (F7))
def wL:=λi=>al L (bL (aA (I (G (bZ H (D ap G) T (D B4 O) Q).toNat))) i)
def w4:=λi=>al L (bL (aA (I (I (G (bZ H (D ap G) T (D B4 O) Q).toNat)))) i)
def CC:=((2:Nat)<=aB (aA (I (G (bZ H (D ap G) T (D B4 O) Q).toNat)))/\aB (aA (I (G (bZ H (D ap G) T (D B4 O) Q).toNat)))<=(1000:Nat))/\((2:Nat)<=aB (aA (I (I (G (bZ H (D ap G) T (D B4 O) Q).toNat))))/\aB (aA (I (I (G (bZ H (D ap G) T (D B4 O) Q).toNat))))<=(1000:Nat))/\aB (aA (I (G (bZ H (D ap G) T (D B4 O) Q).toNat)))<=aB (aA (I (I (I (G (bZ H (D ap G) T (D B4 O) Q).toNat)))))/\(∀(i:Nat),i<aB (aA (I (I (I (G (bZ H (D ap G) T (D B4 O) Q).toNat)))))->aB (aA (I (I (G (bZ H (D ap G) T (D B4 O) Q).toNat))))<=aB (aA (bL (aA (I (I (I (G (bZ H (D ap G) T (D B4 O) Q).toNat))))) i)))/\(∀(i:Nat),i+(1:Nat)<aB (aA (I (G (bZ H (D ap G) T (D B4 O) Q).toNat)))->E (av (dJ (wL H G T O Q) Px (i+(1:Nat)))-av (dJ (wL H G T O Q) Px i))≠(0:Int))/\∀(i:Nat),i+(1:Nat)<aB (aA (I (I (G (bZ H (D ap G) T (D B4 O) Q).toNat))))->E (av (dJ (w4 H G T O Q) Px (i+(1:Nat)))-av (dJ (w4 H G T O Q) Px i))≠(0:Int)
def wv:RT Empty:=.obp (nz 1000) (.obt (.obp (nz 1000) (.obt (.ret (V.tup [V.agg [A (fQ (E (jF (λi=>al [Ty.sl L] (bL (aA (I (I (I (G (bZ H (D ap G) T (D B4 O) Q).toNat))))) i)) (cu (G (bZ H (D ap G) T (D B4 O) Q).toNat)) (aB (aA (I (G (bZ H (D ap G) T (D B4 O) Q).toNat)))) (D L (dJ (wL H G T O Q) Px)) (aB (aA (I (I (G (bZ H (D ap G) T (D B4 O) Q).toNat))))) (D L (dJ (w4 H G T O Q) Px)) Y x9 Ps Pr*qP (jS H (D ap G) T (D B4 O) Q) (mj H (D ap G) T (D B4 O) Q) (kh H (D ap G) T (D B4 O) Q) x5 x6 Z)) 1000),A (ir (E (jG (λi=>al [Ty.sl L] (bL (aA (I (I (I (G (bZ H (D ap G) T (D B4 O) Q).toNat))))) i)) (cu (G (bZ H (D ap G) T (D B4 O) Q).toNat)) (aB (aA (I (G (bZ H (D ap G) T (D B4 O) Q).toNat)))) (D L (dJ (wL H G T O Q) Px)) (aB (aA (I (I (G (bZ H (D ap G) T (D B4 O) Q).toNat))))) (D L (dJ (w4 H G T O Q) Px)) Y x9 Ps Pr*qN (jS H (D ap G) T (D B4 O) Q) (IL H (D ap G) T (D B4 O) Q) (mH H (D ap G) T (D B4 O) Q) x5 x6 Z)) 1000)],A 0])))))
def jR:RT Empty:=.obp (CC H G T O Q Px) (.obt (wv H G T O Q x5 x6 Z Y x9 Ps Pr Px))
def qh:=aB (aA (I (G (bZ H (D ap G) T (D B4 O) Q).toNat)))<=(1000:Nat)/\aB (aA (I (I (G (bZ H (D ap G) T (D B4 O) Q).toNat))))<=(1000:Nat)
def td:RT Empty:=.und (.obp (qh H G T O Q) (.obt (.und (jR H G T O Q x5 x6 Z Y x9 Ps Pr Px) (jR H G T O Q x5 x6 Z Y x9 Ps Pr Px)))) (.obp (qh H G T O Q) (.obt (jR H G T O Q x5 x6 Z Y x9 Ps Pr Px)))
def BD:RT Empty:=.ob (dI (bZ H (D ap G) T (D B4 O) Q) H) (.und (.cb (.und (.obp (qh H G T O Q) (.obt (.und (.obp (CC H G T O Q Px) (.obt (.und (wv H G T O Q x5 x6 Z Y x9 Ps Pr Px) (wv H G T O Q x5 x6 Z Y x9 Ps Pr Px)))) (.und (.und (jR H G T O Q x5 x6 Z Y x9 Ps Pr Px) (jR H G T O Q x5 x6 Z Y x9 Ps Pr Px)) (.und (jR H G T O Q x5 x6 Z Y x9 Ps Pr Px) (jR H G T O Q x5 x6 Z Y x9 Ps Pr Px)))))) (.und (td H G T O Q x5 x6 Z Y x9 Ps Pr Px) (td H G T O Q x5 x6 Z Y x9 Ps Pr Px)))) (.und (.und (.cb (td H G T O Q x5 x6 Z Y x9 Ps Pr Px)) (.cb (.obp (qh H G T O Q) (.obt (jR H G T O Q x5 x6 Z Y x9 Ps Pr Px))))) (.und (.cb (td H G T O Q x5 x6 Z Y x9 Ps Pr Px)) (.cb (.obp (qh H G T O Q) (.obt (jR H G T O Q x5 x6 Z Y x9 Ps Pr Px)))))))
def Cv:RT Empty:=.br (cU H (D ap G) T (D B4 O) Q==0) (.cb (.br (gL Y x9 Ps Pr Px !=0) (.ret (V.tup [V.agg Dj,A (gL Y x9 Ps Pr Px)])) (BD H G T O Q x5 x6 Z Y x9 Ps Pr Px))) (.br (cU H (D ap G) T (D B4 O) Q !=0) (.ret (V.tup [V.agg Dj,A (cU H (D ap G) T (D B4 O) Q)])) (BD H G T O Q x5 x6 Z Y x9 Ps Pr Px))
def aai:RT Empty:=.obp ((aD H G)/\aD T O) (.obt (.br (cU H (D ap G) T (D B4 O) Q==0) (.ob (cU H (D ap G) T (D B4 O) Q==0) (.cb (.br (jc x5 x6 Z) (.brf (.brt (.ret (V.tup [V.agg Dj,A 7])))) (Cv H G T O Q x5 x6 Z Y x9 Ps Pr Px)))) (Cv H G T O Q x5 x6 Z Y x9 Ps Pr Px)))
theorem m62:cY cZ (aQ JJ R2 u0 BP [V.agg [V.sl H (D ap G),V.sl T (D B4 O)],A Q,V.agg [A x5,A x6,A Z],V.agg [A Y,A x9,A Ps,A Pr],A Px]) (aai H G T O Q x5 x6 Z Y x9 Ps Pr Px):=bD
def acw (x:List V) (a c d e h:Int):Int:=jF (zE x) (cu x) (aB (aA (I x))) (D L (dJ (bL (aA (I x))) h)) (aB (aA (I (I x)))) (D L (dJ (bL (aA (I (I x)))) h)) a c d e
def abp (x:List V) (a c d e h:Int):Int:=jG (zE x) (cu x) (aB (aA (I x))) (D L (dJ (bL (aA (I x))) h)) (aB (aA (I (I x)))) (D L (dJ (bL (aA (I (I x)))) h)) a c d e
def Fq:Int:=bif cU H G T O Q==0 then bif jc x5 x6 Z then 7 else gL Y x9 Ps Pr Px else cU H G T O Q
def PW:Int:=fQ (E (acw (G (bZ H G T O Q).toNat) Y x9 Ps Pr Px*qP (jS H G T O Q) (mj H G T O Q) (kh H G T O Q) x5 x6 Z)) 1000
def PV:Int:=ir (E (abp (G (bZ H G T O Q).toNat) Y x9 Ps Pr Px*qN (jS H G T O Q) (IL H G T O Q) (mH H G T O Q) x5 x6 Z)) 1000
def gJ:Int:=bif Fq H G T O Q x5 x6 Z Y x9 Ps Pr Px==0 then PW H G T O Q x5 x6 Z Y x9 Ps Pr Px else 0
def gF:Int:=bif Fq H G T O Q x5 x6 Z Y x9 Ps Pr Px==0 then PV H G T O Q x5 x6 Z Y x9 Ps Pr Px else 0
def ik:Int:=Fq H G T O Q x5 x6 Z Y x9 Ps Pr Px
theorem aep (hp:aD H (D ap G)/\aD T (D B4 O)):aT cM (aai H G T O Q x5 x6 Z Y x9 Ps Pr Px) (.tup [.agg [A (gJ H (D ap G) T (D B4 O) Q x5 x6 Z Y x9 Ps Pr Px),A (gF H (D ap G) T (D B4 O) Q x5 x6 Z Y x9 Ps Pr Px)],A (ik H (D ap G) T (D B4 O) Q x5 x6 Z Y x9 Ps Pr Px)]):=by
 have leaf:Fq H (D ap G) T (D B4 O) Q x5 x6 Z Y x9 Ps Pr Px=0->aT cM (wv H G T O Q x5 x6 Z Y x9 Ps Pr Px) (.tup [.agg [A (gJ H (D ap G) T (D B4 O) Q x5 x6 Z Y x9 Ps Pr Px),A (gF H (D ap G) T (D B4 O) Q x5 x6 Z Y x9 Ps Pr Px)],A (ik H (D ap G) T (D B4 O) Q x5 x6 Z Y x9 Ps Pr Px)]):=λh=>aI aR (ac (aI aR (ac (B5 (by unfold gJ gF ik;rw[h];rfl)))));have bad:∀ {e:Int},Fq H (D ap G) T (D B4 O) Q x5 x6 Z Y x9 Ps Pr Px=e->e≠0->aT cM (.ret (V.tup [V.agg [A 0,A 0],A e])) (.tup [.agg [A (gJ H (D ap G) T (D B4 O) Q x5 x6 Z Y x9 Ps Pr Px),A (gF H (D ap G) T (D B4 O) Q x5 x6 Z Y x9 Ps Pr Px)],A (ik H (D ap G) T (D B4 O) Q x5 x6 Z Y x9 Ps Pr Px)]):=λh h0=>B5 (by unfold gJ gF ik;rw[h,show(_==(0:Int))=false from by simpa using h0];rfl);have L7:(cU H (D ap G) T (D B4 O) Q=0->jc x5 x6 Z=false)->aT cM (Cv H G T O Q x5 x6 Z Y x9 Ps Pr Px) (.tup [.agg [A (gJ H (D ap G) T (D B4 O) Q x5 x6 Z Y x9 Ps Pr Px),A (gF H (D ap G) T (D B4 O) Q x5 x6 Z Y x9 Ps Pr Px)],A (ik H (D ap G) T (D B4 O) Q x5 x6 Z Y x9 Ps Pr Px)]):=λhw=>by
  have L2:cU H (D ap G) T (D B4 O) Q=0->gL Y x9 Ps Pr Px=0->aT cM (BD H G T O Q x5 x6 Z Y x9 Ps Pr Px) (.tup [.agg [A (gJ H (D ap G) T (D B4 O) Q x5 x6 Z Y x9 Ps Pr Px),A (gF H (D ap G) T (D B4 O) Q x5 x6 Z Y x9 Ps Pr Px)],A (ik H (D ap G) T (D B4 O) Q x5 x6 Z Y x9 Ps Pr Px)]):=λh0 hr=>by
   have ht:Fq H (D ap G) T (D B4 O) Q x5 x6 Z Y x9 Ps Pr Px=0:=by unfold Fq;rw[h0,hw h0,hr];rfl
   have hb:=arI h0;have tb:=FK hb.2;have up:=O2 hb.2;have hH:1<=Px/\Px<=30000:=by
    unfold gL at hr;cases hh:aw Px 1 30000 with
    |true=>exact zB hh|false=>rw[hh]at hr;cases hr
   have vw:=ayn (QR:=Px) tb up.1 up.2 hH;have c4:CC H G T O Q Px:=vw;have c6:qh H G T O Q:=⟨vw.1.2,vw.2.1.2⟩;have L3:=leaf ht;have L1:aT cM (jR H G T O Q x5 x6 Z Y x9 Ps Pr Px) (.tup [.agg [A (gJ H (D ap G) T (D B4 O) Q x5 x6 Z Y x9 Ps Pr Px),A (gF H (D ap G) T (D B4 O) Q x5 x6 Z Y x9 Ps Pr Px)],A (ik H (D ap G) T (D B4 O) Q x5 x6 Z Y x9 Ps Pr Px)]):=aI c4 (ac L3);have L5:aT cM (td H G T O Q x5 x6 Z Y x9 Ps Pr Px) (.tup [.agg [A (gJ H (D ap G) T (D B4 O) Q x5 x6 Z Y x9 Ps Pr Px),A (gF H (D ap G) T (D B4 O) Q x5 x6 Z Y x9 Ps Pr Px)],A (ik H (D ap G) T (D B4 O) Q x5 x6 Z Y x9 Ps Pr Px)]):=⟨aI c6 (ac ⟨L1,L1⟩),aI c6 (ac L1)⟩;refine aF (BX hb.1) ?_
   repeat' (first|exact L3|exact L1|exact L5|refine ac ?_|refine ao ?_|refine aI c4 ?_|refine aI c6 ?_|constructor)
  refine C2 (λh=>ao (ac (C2 (λN=>?_) (λN=>L2 (EM h) (by simpa using N)))) ) (λh=>C2 (λN=>?_) (λN=>?_))
  ·exact bad (by unfold Fq;rw[h,hw (EM h)];rfl) (by simpa using N)
  ·exact bad (by unfold Fq;rw[h];rfl) (by simpa using N)
  ·exact absurd (by simpa using N:cU H (D ap G) T (D B4 O) Q=0) (by simpa using h)
 refine aI hp (ac (C2 (λh=>aF h (ao (ac (C2 (λN=>gW (ed (bad (by unfold Fq;rw[h,N];rfl) aR))) (λN=>L7 λ_=>N))))) (λh=>L7 λN=>?_)));exact absurd N (by simpa using h)
def adn:aE:=bP [.agg [.sl ap,.sl B4],tI,.agg cI,.agg gV,tI] (λ
 |[.agg [.sl H G,.sl T O],.int _ Q,.agg [.int _ x5,.int _ x6,.int _ Z],.agg [.int _ Y,.int _ x9,.int _ Ps,.int _ Pr],.int _ Px]=>aD H G/\aD T O|_=>False) λ
 |[.agg [.sl H G,.sl T O],.int _ Q,.agg [.int _ x5,.int _ x6,.int _ Z],.agg [.int _ Y,.int _ x9,.int _ Ps,.int _ Pr],.int _ Px]=>.tup [.agg [A (gJ H G T O Q x5 x6 Z Y x9 Ps Pr Px),A (gF H G T O Q x5 x6 Z Y x9 Ps Pr Px)],A (ik H G T O Q x5 x6 Z Y x9 Ps Pr Px)]|_=>.any
theorem aeS:b9 adn 55:=aU f14 λ_ hp=>da (m62 ..) (aep _ _ _ _ _ _ _ _ _ _ _ _ _ hp)
def T5:bm:=(55,.con adn)::R2
theorem ayX:aZ Tryz.prog Bs C3 T5:=.con aeS (f14)
set_option maxHeartbeats 0
set_option linter.unusedSectionVars false
def gb (h:Int):Prop:=(2<=n1/\n1<=1000)/\(2<=n3/\n3<=1000)/\n1<=n5/\(∀i:Nat,i<n5->n3<=aB (aA (q i)))/\(∀i:Nat,i+1<n1->E (E (av (f1 (i+1))-av (f1 i))*h)≠0)/\(∀i:Nat,i+1<n3->E (E (av (f3 (i+1))-av (f3 i))*h)≠0)
theorem gb.a {n1:Nat} {f1:be} {n3:Nat} {f3:be} {n5:Nat} {q:be} {h:Int} (hp:gb n1 f1 n3 f3 n5 q h):2<=n1/\n1<=1000:=hp.1
theorem gb.b {n1:Nat} {f1:be} {n3:Nat} {f3:be} {n5:Nat} {q:be} {h:Int} (hp:gb n1 f1 n3 f3 n5 q h):2<=n3/\n3<=1000:=hp.2.1
theorem fn2 (p:Nat->Bool):∀ k,Mt p k<=k-1
 |0=>D7 _
 |k+1=>by
   unfold Mt;have:=fn2 p k;cases p k
   ·show Mt p k<=k+1-1;omega
   ·exact D7 k
theorem eZ {n:Nat} (f:be) (x h:Int) (hn:2<=n/\n<=1000):0<=aS n f x h/\aS n f x h+1<(n:Int):=by have:=fn2 (λi=>decide (E (av (f i)*h)<=x)) (n-1);unfold aS;omega
section
variable {n1:Nat} {f1:be} {n3:Nat} {f3:be} {n5:Nat} {q:be} {h p Pw:Int} (hp:gb n1 f1 n3 f3 n5 q h) (a:0<=p/\p+1<(n1:Int)) (c:0<=Pw/\Pw+1<(n3:Int))
include hp a c
theorem Fe:E (p+0)=p:=by have:=hp.1;rw[Int.add_zero];exact C8 K K
theorem Ir:E (p+1)=p+1:=by have:=hp.1;exact C8 K K
theorem LZ:E (Pw+1)=Pw+1:=by have:=hp.2.1;exact C8 K K
theorem Og:E (p+E (0+1))=p+1:=Ir hp a c
theorem axr:decide (0<=E (p+0)/\E (p+0)<(n5:Int))=true:=by rw[Fe hp a c];have:=hp.2.2.1;exact BX K
theorem axh:decide (0<=E (p+E (0+1))/\E (p+E (0+1))<(n5:Int))=true:=by rw[Og hp a c];have:=hp.2.2.1;exact BX K
theorem au7:decide (0<=Pw/\Pw<(aB (aA (q (E (p+0)).toNat)):Int))=true:=by rw[Fe hp a c];have h3:=hp.2.2.1;have:=hp.2.2.2.1 p.toNat K;exact BX K
theorem auR:decide (0<=E (Pw+1)/\E (Pw+1)<(aB (aA (q (E (p+0)).toNat)):Int))=true:=by rw[Fe hp a c,LZ hp a c];have h3:=hp.2.2.1;have:=hp.2.2.2.1 p.toNat K;exact BX K
theorem ayY:decide (0<=Pw/\Pw<(aB (aA (q (E (p+E (0+1))).toNat)):Int))=true:=by rw[Og hp a c];have h3:=hp.2.2.1;have:=hp.2.2.2.1 (p+1).toNat K;exact BX K
theorem awL:decide (0<=E (Pw+1)/\E (Pw+1)<(aB (aA (q (E (p+E (0+1))).toNat)):Int))=true:=by rw[Og hp a c,LZ hp a c];have h3:=hp.2.2.1;have:=hp.2.2.2.1 (p+1).toNat K;exact BX K
theorem ayb:decide (0<=Pw/\Pw<(n3:Int))=true:=BX K
theorem ay5:decide (0<=E (Pw+1)/\E (Pw+1)<(n3:Int))=true:=by rw[LZ hp a c];exact BX K
theorem ayZ:decide (0<=p/\p<(n1:Int))=true:=BX K
theorem ans:decide (0<=E (p+1)/\E (p+1)<(n1:Int))=true:=by rw[Ir hp a c];exact BX K
theorem au5:cS (av (f3 Pw.toNat)) (av (f3 (E (Pw+1)).toNat)) h=0->False:=by rw[LZ hp a c,show(Pw+1).toNat=Pw.toNat+1 by omega];exact hp.2.2.2.2.2 _ K
theorem axW:cS (av (f1 p.toNat)) (av (f1 (E (p+1)).toNat)) h=0->False:=by rw[Ir hp a c,show(p+1).toNat=p.toNat+1 by omega];exact hp.2.2.2.2.1 _ K
theorem ap5:((1:Nat)<=n1/\n1<=1000)/\1<=n3/\n3<=1000:=by have:=hp.1;have:=hp.2.1;omega
end
def adi:RT Empty:=dm (s0,Y) (.obp (((1:Nat)<=n1/\n1<=(1000:Nat))/\(1:Nat)<=n3/\n3<=(1000:Nat)) (.obt (.br (!fR n1 (D L f1) n3 (D L f3) x9 Ps Pr) (.ret (V.agg [A 0,A Z])) (.cb (.cb (.brt (.ob (dI (E (aS n1 (D L f1) x9 Pr+0)) n5) (.ob (decide (0<=aS n3 (D L f3) Ps Pr/\aS n3 (D L f3) Ps Pr<(↑(aB (aA (q (E (aS n1 (D L f1) x9 Pr+0)).toNat))):Int))) (.ob (dI (E (aS n1 (D L f1) x9 Pr+0)) n5) (.ob (decide (0<=E (aS n3 (D L f3) Ps Pr+1)/\E (aS n3 (D L f3) Ps Pr+1)<(↑(aB (aA (q (E (aS n1 (D L f1) x9 Pr+0)).toNat))):Int))) (.ob (dI (aS n3 (D L f3) Ps Pr) n3) (.ob (dI (E (aS n3 (D L f3) Ps Pr+1)) n3) (.cb (.obp (cS (av (f3 (aS n3 (D L f3) Ps Pr).toNat)) (av (f3 (E (aS n3 (D L f3) Ps Pr+(1:Int))).toNat)) Pr=(0:Int)->False) (.obt (.obp (cS (av (f3 (aS n3 (D L f3) Ps Pr).toNat)) (av (f3 (E (aS n3 (D L f3) Ps Pr+(1:Int))).toNat)) Pr=(0:Int)->False) (.obt (.obt (.brt (.ob (dI (E (aS n1 (D L f1) x9 Pr+E (0+1))) n5) (.ob (decide (0<=aS n3 (D L f3) Ps Pr/\aS n3 (D L f3) Ps Pr<(↑(aB (aA (q (E (aS n1 (D L f1) x9 Pr+E (0+1))).toNat))):Int))) (.ob (dI (E (aS n1 (D L f1) x9 Pr+E (0+1))) n5) (.ob (decide (0<=E (aS n3 (D L f3) Ps Pr+1)/\E (aS n3 (D L f3) Ps Pr+1)<(↑(aB (aA (q (E (aS n1 (D L f1) x9 Pr+E (0+1))).toNat))):Int))) (.ob (dI (aS n3 (D L f3) Ps Pr) n3) (.ob (dI (E (aS n3 (D L f3) Ps Pr+1)) n3) (.cb (.obp (cS (av (f3 (aS n3 (D L f3) Ps Pr).toNat)) (av (f3 (E (aS n3 (D L f3) Ps Pr+(1:Int))).toNat)) Pr=(0:Int)->False) (.obt (.obp (cS (av (f3 (aS n3 (D L f3) Ps Pr).toNat)) (av (f3 (E (aS n3 (D L f3) Ps Pr+(1:Int))).toNat)) Pr=(0:Int)->False) (.obt (.obt (.brf (.obt (.obt (.ob (dI (aS n1 (D L f1) x9 Pr) n1) (.ob (dI (E (aS n1 (D L f1) x9 Pr+1)) n1) (.cb (.obt (.obt (.ob (dI (aS n1 (D L f1) x9 Pr) n1) (.ob (dI (E (aS n1 (D L f1) x9 Pr+1)) n1) (.cb (.obp (cS (av (f1 (aS n1 (D L f1) x9 Pr).toNat)) (av (f1 (E (aS n1 (D L f1) x9 Pr+(1:Int))).toNat)) Pr=(0:Int)->False) (.obt (.obp (cS (av (f1 (aS n1 (D L f1) x9 Pr).toNat)) (av (f1 (E (aS n1 (D L f1) x9 Pr+(1:Int))).toNat)) Pr=(0:Int)->False) (.obt (.ret (V.agg [A (dU (d4 (dU (d4 (av (bL (aA (q (E (aS n1 (D L f1) x9 Pr+0)).toNat)) (aS n3 (D L f3) Ps Pr).toNat)) (av (bL (aA (q (E (aS n1 (D L f1) x9 Pr+0)).toNat)) (E (aS n3 (D L f3) Ps Pr+1)).toNat)) (av (f3 (aS n3 (D L f3) Ps Pr).toNat)) (av (f3 (E (aS n3 (D L f3) Ps Pr+1)).toNat)) Ps Pr) (cS (av (f3 (aS n3 (D L f3) Ps Pr).toNat)) (av (f3 (E (aS n3 (D L f3) Ps Pr+1)).toNat)) Pr)) (dU (d4 (av (bL (aA (q (E (aS n1 (D L f1) x9 Pr+E (0+1))).toNat)) (aS n3 (D L f3) Ps Pr).toNat)) (av (bL (aA (q (E (aS n1 (D L f1) x9 Pr+E (0+1))).toNat)) (E (aS n3 (D L f3) Ps Pr+1)).toNat)) (av (f3 (aS n3 (D L f3) Ps Pr).toNat)) (av (f3 (E (aS n3 (D L f3) Ps Pr+1)).toNat)) Ps Pr) (cS (av (f3 (aS n3 (D L f3) Ps Pr).toNat)) (av (f3 (E (aS n3 (D L f3) Ps Pr+1)).toNat)) Pr)) (av (f1 (aS n1 (D L f1) x9 Pr).toNat)) (av (f1 (E (aS n1 (D L f1) x9 Pr+1)).toNat)) x9 Pr) (cS (av (f1 (aS n1 (D L f1) x9 Pr).toNat)) (av (f1 (E (aS n1 (D L f1) x9 Pr+1)).toNat)) Pr)),A (eP (d4 (eP (d4 (av (bL (aA (q (E (aS n1 (D L f1) x9 Pr+0)).toNat)) (aS n3 (D L f3) Ps Pr).toNat)) (av (bL (aA (q (E (aS n1 (D L f1) x9 Pr+0)).toNat)) (E (aS n3 (D L f3) Ps Pr+1)).toNat)) (av (f3 (aS n3 (D L f3) Ps Pr).toNat)) (av (f3 (E (aS n3 (D L f3) Ps Pr+1)).toNat)) Ps Pr) (cS (av (f3 (aS n3 (D L f3) Ps Pr).toNat)) (av (f3 (E (aS n3 (D L f3) Ps Pr+1)).toNat)) Pr)) (eP (d4 (av (bL (aA (q (E (aS n1 (D L f1) x9 Pr+E (0+1))).toNat)) (aS n3 (D L f3) Ps Pr).toNat)) (av (bL (aA (q (E (aS n1 (D L f1) x9 Pr+E (0+1))).toNat)) (E (aS n3 (D L f3) Ps Pr+1)).toNat)) (av (f3 (aS n3 (D L f3) Ps Pr).toNat)) (av (f3 (E (aS n3 (D L f3) Ps Pr+1)).toNat)) Ps Pr) (cS (av (f3 (aS n3 (D L f3) Ps Pr).toNat)) (av (f3 (E (aS n3 (D L f3) Ps Pr+1)).toNat)) Pr)) (av (f1 (aS n1 (D L f1) x9 Pr).toNat)) (av (f1 (E (aS n1 (D L f1) x9 Pr+1)).toNat)) x9 Pr) (cS (av (f1 (aS n1 (D L f1) x9 Pr).toNat)) (av (f1 (E (aS n1 (D L f1) x9 Pr+1)).toNat)) Pr))]))))))))))))))))))))))))))))))))))))))))))))))))
theorem ng6:cY cZ (aQ JJ T5 uB ahe [V.agg [V.str s0,V.sl n1 (D L f1),V.sl n3 (D L f3),V.sl n5 (D [Ty.sl L] q),A Z,A Y],A x9,A Ps,A Pr]) (adi s0 n1 f1 n3 f3 n5 q Z Y x9 Ps Pr):=bD
def ij:Int:=bif !fR n1 (D L f1) n3 (D L f3) x9 Ps Pr then 0 else dU (d4 (dU (d4 (av (bL (aA (q (E (aS n1 (D L f1) x9 Pr+0)).toNat)) (aS n3 (D L f3) Ps Pr).toNat)) (av (bL (aA (q (E (aS n1 (D L f1) x9 Pr+0)).toNat)) (E (aS n3 (D L f3) Ps Pr+1)).toNat)) (av (f3 (aS n3 (D L f3) Ps Pr).toNat)) (av (f3 (E (aS n3 (D L f3) Ps Pr+1)).toNat)) Ps Pr) (cS (av (f3 (aS n3 (D L f3) Ps Pr).toNat)) (av (f3 (E (aS n3 (D L f3) Ps Pr+1)).toNat)) Pr)) (dU (d4 (av (bL (aA (q (E (aS n1 (D L f1) x9 Pr+E (0+1))).toNat)) (aS n3 (D L f3) Ps Pr).toNat)) (av (bL (aA (q (E (aS n1 (D L f1) x9 Pr+E (0+1))).toNat)) (E (aS n3 (D L f3) Ps Pr+1)).toNat)) (av (f3 (aS n3 (D L f3) Ps Pr).toNat)) (av (f3 (E (aS n3 (D L f3) Ps Pr+1)).toNat)) Ps Pr) (cS (av (f3 (aS n3 (D L f3) Ps Pr).toNat)) (av (f3 (E (aS n3 (D L f3) Ps Pr+1)).toNat)) Pr)) (av (f1 (aS n1 (D L f1) x9 Pr).toNat)) (av (f1 (E (aS n1 (D L f1) x9 Pr+1)).toNat)) x9 Pr) (cS (av (f1 (aS n1 (D L f1) x9 Pr).toNat)) (av (f1 (E (aS n1 (D L f1) x9 Pr+1)).toNat)) Pr)
def hU:Int:=bif !fR n1 (D L f1) n3 (D L f3) x9 Ps Pr then Z else eP (d4 (eP (d4 (av (bL (aA (q (E (aS n1 (D L f1) x9 Pr+0)).toNat)) (aS n3 (D L f3) Ps Pr).toNat)) (av (bL (aA (q (E (aS n1 (D L f1) x9 Pr+0)).toNat)) (E (aS n3 (D L f3) Ps Pr+1)).toNat)) (av (f3 (aS n3 (D L f3) Ps Pr).toNat)) (av (f3 (E (aS n3 (D L f3) Ps Pr+1)).toNat)) Ps Pr) (cS (av (f3 (aS n3 (D L f3) Ps Pr).toNat)) (av (f3 (E (aS n3 (D L f3) Ps Pr+1)).toNat)) Pr)) (eP (d4 (av (bL (aA (q (E (aS n1 (D L f1) x9 Pr+E (0+1))).toNat)) (aS n3 (D L f3) Ps Pr).toNat)) (av (bL (aA (q (E (aS n1 (D L f1) x9 Pr+E (0+1))).toNat)) (E (aS n3 (D L f3) Ps Pr+1)).toNat)) (av (f3 (aS n3 (D L f3) Ps Pr).toNat)) (av (f3 (E (aS n3 (D L f3) Ps Pr+1)).toNat)) Ps Pr) (cS (av (f3 (aS n3 (D L f3) Ps Pr).toNat)) (av (f3 (E (aS n3 (D L f3) Ps Pr+1)).toNat)) Pr)) (av (f1 (aS n1 (D L f1) x9 Pr).toNat)) (av (f1 (E (aS n1 (D L f1) x9 Pr+1)).toNat)) x9 Pr) (cS (av (f1 (aS n1 (D L f1) x9 Pr).toNat)) (av (f1 (E (aS n1 (D L f1) x9 Pr+1)).toNat)) Pr)
def ID:V:=dm (s0,n5,Y) (.agg [A (ij n1 f1 n3 f3 q x9 Ps Pr),A (hU n1 f1 n3 f3 q Z x9 Ps Pr)])
theorem ag2 (hp:gb n1 f1 n3 f3 n5 q Pr):aT cM (adi s0 n1 f1 n3 f3 n5 q Z Y x9 Ps Pr) (ID s0 n1 f1 n3 f3 n5 q Z Y x9 Ps Pr):=by have a0:=ap5 hp (eZ (D L f1) x9 Pr (gb.a hp)) (eZ (D L f3) Ps Pr (gb.b hp));have a1:=axr hp (eZ (D L f1) x9 Pr (gb.a hp)) (eZ (D L f3) Ps Pr (gb.b hp));have a2:=axh hp (eZ (D L f1) x9 Pr (gb.a hp)) (eZ (D L f3) Ps Pr (gb.b hp));have a3:=au7 hp (eZ (D L f1) x9 Pr (gb.a hp)) (eZ (D L f3) Ps Pr (gb.b hp));have a4:=auR hp (eZ (D L f1) x9 Pr (gb.a hp)) (eZ (D L f3) Ps Pr (gb.b hp));have a5:=ayY hp (eZ (D L f1) x9 Pr (gb.a hp)) (eZ (D L f3) Ps Pr (gb.b hp));have iza24:=awL hp (eZ (D L f1) x9 Pr (gb.a hp)) (eZ (D L f3) Ps Pr (gb.b hp));have id3:=ayb hp (eZ (D L f1) x9 Pr (gb.a hp)) (eZ (D L f3) Ps Pr (gb.b hp));have id4:=ay5 hp (eZ (D L f1) x9 Pr (gb.a hp)) (eZ (D L f3) Ps Pr (gb.b hp));have a9:=ayZ hp (eZ (D L f1) x9 Pr (gb.a hp)) (eZ (D L f3) Ps Pr (gb.b hp));have a10:=ans hp (eZ (D L f1) x9 Pr (gb.a hp)) (eZ (D L f3) Ps Pr (gb.b hp));have a11:=au5 hp (eZ (D L f1) x9 Pr (gb.a hp)) (eZ (D L f3) Ps Pr (gb.b hp));have a12:=axW hp (eZ (D L f1) x9 Pr (gb.a hp)) (eZ (D L f3) Ps Pr (gb.b hp));exact aI (by first|with_reducible assumption|exact a11|exact a12) (ac (C2 (λh0=>B5 (by unfold ID ij hU;try rw[h0];rfl)) (λh0=>ao (ac (ao (ac (ed (aF (by with_reducible assumption) (aF (by with_reducible assumption) (aF (by with_reducible assumption) (aF (by with_reducible assumption) (aF (by with_reducible assumption) (aF (by with_reducible assumption) (ao (ac (aI (by first|with_reducible assumption|exact a11|exact a12) (ac (aI (by first|with_reducible assumption|exact a11|exact a12) (ac (ac (ed (aF (by with_reducible assumption) (aF (by with_reducible assumption) (aF (by with_reducible assumption) (aF (by with_reducible assumption) (aF (by with_reducible assumption) (aF (by with_reducible assumption) (ao (ac (aI (by first|with_reducible assumption|exact a11|exact a12) (ac (aI (by first|with_reducible assumption|exact a11|exact a12) (ac (ac (gW (ac (ac (aF (by with_reducible assumption) (aF (by with_reducible assumption) (ao (ac (ac (ac (aF (by with_reducible assumption) (aF (by with_reducible assumption) (ao (ac (aI (by first|with_reducible assumption|exact a11|exact a12) (ac (aI (by first|with_reducible assumption|exact a11|exact a12) (ac (B5 (by unfold ID ij hU;try rw[h0];rfl)))))))))))))))))))))))))))))))))))))))))))))))))))))
def ada:aE:=bP [.agg ap,tI,tI,tI] (λ
 |[.agg [.str s0,.sl n1 f1,.sl n3 f3,.sl n5 q,.int _ Z,.int _ Y],.int _ x9,.int _ Ps,.int _ Pr]=>gb n1 f1 n3 f3 n5 q Pr|_=>False) λ
 |[.agg [.str s0,.sl n1 f1,.sl n3 f3,.sl n5 q,.int _ Z,.int _ Y],.int _ x9,.int _ Ps,.int _ Pr]=>ID s0 n1 f1 n3 f3 n5 q Z Y x9 Ps Pr|_=>.any
theorem aeB:b9 ada 170:=aU ayX λ_ hp=>da (ng6 ..) (ag2 _ _ _ _ _ _ _ _ _ _ _ _ hp)
def Fh:bm:=(170,.con ada)::T5
theorem ff5:aZ Tryz.prog Bs C3 Fh:=.con aeB (ayX)
inductive oS where|L0 (_:Int) (_:Bool) (_ _:Int)|L1 (_ _:Int) (_:Bool) (_ _:Int)
def af6:oS->bS×List Ax×Option Ex
 |.L0 Pt UE RL SY=>([(11,A Pt),(10,V.pl 0 0),(9,V.bool UE),(8,V.sl (ba n3 (D L f3) Pr Px Q8).length (D L (je (ba n3 (D L f3) Pr Px Q8)))),(7,V.sl (ba n1 (D L f1) x9 Ps Q8).length (D L (je (ba n1 (D L f1) x9 Ps Q8)))),(29,V.sl (ba n3 (D L f3) Pr Px Q8).length (D L (je (ba n3 (D L f3) Pr Px Q8)))),(21,V.sl (ba n1 (D L f1) x9 Ps Q8).length (D L (je (ba n1 (D L f1) x9 Ps Q8)))),(28,A Q8),(27,A Px),(26,V.pl 1 3),(25,A Pr),(24,V.pl 1 2),(23,V.sl n3 (D L f3)),(22,V.pl 2 2),(20,A Q8),(19,A Ps),(18,V.pl 1 1),(17,A x9),(16,V.pl 1 0),(15,V.sl n1 (D L f1)),(14,V.pl 2 1),(6,V.pl 3 0),(4,V.pl 1 0),(3,V.pl 2 0),(0,V.agg [V.str s0,V.sl n1 (D L f1),V.sl n3 (D L f3),V.sl n5 (D [Ty.sl L] q),A Z,A Y]),(1,V.agg [A x9,A Ps,A Pr,A Px]),(2,A Q8)],[Ax.cells [A RL,A SY] 39,Ax.cells [A x9,A Ps,A Pr,A Px] 97,Ax.cells [V.str s0,V.sl n1 (D L f1),V.sl n3 (D L f3),V.sl n5 (D [Ty.sl L] q),A Z,A Y] 88,Ax.cells Dj 39],none)|.L1 QV Qz Ww YZ Ya=>([(12,A QV),(33,V.kb true),(32,A (↑(ba n1 (D L f1) x9 Ps Q8).length:Int)),(31,V.sl (ba n1 (D L f1) x9 Ps Q8).length (D L (je (ba n1 (D L f1) x9 Ps Q8)))),(30,A Qz),(11,A Qz),(10,V.pl 0 0),(9,V.bool Ww),(8,V.sl (ba n3 (D L f3) Pr Px Q8).length (D L (je (ba n3 (D L f3) Pr Px Q8)))),(7,V.sl (ba n1 (D L f1) x9 Ps Q8).length (D L (je (ba n1 (D L f1) x9 Ps Q8)))),(29,V.sl (ba n3 (D L f3) Pr Px Q8).length (D L (je (ba n3 (D L f3) Pr Px Q8)))),(21,V.sl (ba n1 (D L f1) x9 Ps Q8).length (D L (je (ba n1 (D L f1) x9 Ps Q8)))),(28,A Q8),(27,A Px),(26,V.pl 1 3),(25,A Pr),(24,V.pl 1 2),(23,V.sl n3 (D L f3)),(22,V.pl 2 2),(20,A Q8),(19,A Ps),(18,V.pl 1 1),(17,A x9),(16,V.pl 1 0),(15,V.sl n1 (D L f1)),(14,V.pl 2 1),(6,V.pl 3 0),(4,V.pl 1 0),(3,V.pl 2 0),(0,V.agg [V.str s0,V.sl n1 (D L f1),V.sl n3 (D L f3),V.sl n5 (D [Ty.sl L] q),A Z,A Y]),(1,V.agg [A x9,A Ps,A Pr,A Px]),(2,A Q8)],[Ax.cells [A YZ,A Ya] 39,Ax.cells [A x9,A Ps,A Pr,A Px] 97,Ax.cells [V.str s0,V.sl n1 (D L f1),V.sl n3 (D L f3),V.sl n5 (D [Ty.sl L] q),A Z,A Y] 88,Ax.cells Dj 39],none)
def alx:oS->JJ
 |.L0 ..=>(0,[])|.L1 ..=>(1,[])
def fc5:Bh (cq JJ):=aQ JJ Fh u0 agl [V.agg [V.str s0,V.sl n1 (D L f1),V.sl n3 (D L f3),V.sl n5 (D [Ty.sl L] q),A Z,A Y],V.agg [A x9,A Ps,A Pr,A Px],A Q8]
def xI (cx:List Cx):Lp JJ:=eX (eJ (fc5 s0 n1 f1 n3 f3 n5 q Z Y x9 Ps Pr Px Q8) [])
def hs' (cx:List Cx):Lp JJ:=eX (eJ (oV Fh u0 (0,[]) (xI s0 n1 f1 n3 f3 n5 q Z Y x9 Ps Pr Px Q8 []) (af6 s0 n1 f1 n3 f3 n5 q Z Y x9 Ps Pr Px Q8 (.L0 (0:Int) false (0:Int) (0:Int)))) [true])
def akH:JJ->Lp JJ
 |(0,cx)=>xI s0 n1 f1 n3 f3 n5 q Z Y x9 Ps Pr Px Q8 cx|(1,cx)=>hs' s0 n1 f1 n3 f3 n5 q Z Y x9 Ps Pr Px Q8 cx|(_,cx)=>xI s0 n1 f1 n3 f3 n5 q Z Y x9 Ps Pr Px Q8 cx
def ao1:LD JJ oS:=⟨alx,akH s0 n1 f1 n3 f3 n5 q Z Y x9 Ps Pr Px Q8,af6 s0 n1 f1 n3 f3 n5 q Z Y x9 Ps Pr Px Q8⟩
def Bj (Z x9 Ps Pr Px Q8 QV Qz:Int):=hU n1 (D L f1) n3 (D L f3) (D [Ty.sl L] q) Z (av (je (ba n1 (D L f1) x9 Ps Q8) Qz.toNat)) (av (je (ba n3 (D L f3) Pr Px Q8) QV.toNat)) Q8
def A8 (x9 Ps Pr Px Q8 QV Qz:Int):=ij n1 (D L f1) n3 (D L f3) (D [Ty.sl L] q) (av (je (ba n1 (D L f1) x9 Ps Q8) Qz.toNat)) (av (je (ba n3 (D L f3) Pr Px Q8) QV.toNat)) Q8
def yg (s0:ByteArray) (n1:Nat) (f1:be) (n3:Nat) (f3:be) (n5:Nat) (q:be) (Z Y x9 Ps Pr Px Q8:Int):oS->RT oS
 |.L0 Pt UE RL SY=>.am (ba n1 (D L f1) x9 Ps Q8).length (.br (decide (Pt<(↑(ba n1 (D L f1) x9 Ps Q8).length:Int))) (.enter (iR 0 4 []) (oS.L1 0 Pt (UE) RL SY) []) (.ret (V.agg [A RL,A SY])))|.L1 QV Qz Ww YZ Ya=>.am (ba n3 (D L f3) Pr Px Q8).length (.br (decide (QV<(↑(ba n3 (D L f3) Pr Px Q8).length:Int))) (.ob (decide (0<=Qz/\Qz<(↑(ba n1 (D L f1) x9 Ps Q8).length:Int))) (.ob (decide (0<=QV/\QV<(↑(ba n3 (D L f3) Pr Px Q8).length:Int))) (.obp (((1:Nat)<=n1/\n1<=(1000:Nat))/\(1:Nat)<=n3/\n3<=(1000:Nat)) (.obt (.iv (.ii (.br (bif !fR n1 (D L f1) n3 (D L f3) (av (je (ba n1 (D L f1) x9 Ps Q8) Qz.toNat)) (av (je (ba n3 (D L f3) Pr Px Q8) QV.toNat)) Q8 then bif decide (1<Qz) then true else decide (1<QV) else false) (.next (iR 0 4 []) (oS.L1 (E (QV+1)) Qz (Ww) YZ Ya) []) (.ob (decide (0<=Qz/\Qz<(↑(ba n1 (D L f1) x9 Ps Q8).length:Int))) (.ob (decide (0<=QV/\QV<(↑(ba n3 (D L f3) Pr Px Q8).length:Int))) (.obp (((2:Nat)<=n1/\n1<=(1000:Nat))/\((2:Nat)<=n3/\n3<=(1000:Nat))/\n1<=n5/\(∀(i:Nat),i<n5->n3<=aB (aA (q i)))/\(∀(i:Nat),i+(1:Nat)<n1->E (E (av (f1 (i+(1:Nat)))-av (f1 i))*Q8)≠(0:Int))/\∀(i:Nat),i+(1:Nat)<n3->E (E (av (f3 (i+(1:Nat)))-av (f3 i))*Q8)≠(0:Int)) (.obt (.br (Ww) (.next (iR 0 4 []) (oS.L1 (E (QV+1)) Qz (false) (min (A8 n1 f1 n3 f3 q x9 Ps Pr Px Q8 QV Qz) (A8 n1 f1 n3 f3 q x9 Ps Pr Px Q8 QV Qz)) (max (Bj n1 f1 n3 f3 q Z x9 Ps Pr Px Q8 QV Qz) (Bj n1 f1 n3 f3 q Z x9 Ps Pr Px Q8 QV Qz))) []) (.next (iR 0 4 []) (oS.L1 (E (QV+1)) Qz (Ww) (min YZ (A8 n1 f1 n3 f3 q x9 Ps Pr Px Q8 QV Qz)) (max Ya (Bj n1 f1 n3 f3 q Z x9 Ps Pr Px Q8 QV Qz))) []))))))))))))) (.next (iR 0 4 []) (oS.L0 (E (Qz+1)) (Ww) YZ Ya) []))
def adO:RT oS:=dm (s0,f1,f3,n5,q,Z,Y,x9,Ps,Pr,Px,Q8) (.obp (n1<=(1000:Nat)) (.obt (.obp (n3<=(1000:Nat)) (.obt (.enter [some (some 3),some (some 1),some (some 0),some (some 2)] (oS.L0 0 (true) 0 0) [])))))
theorem nh1:dZ Fh u0 (ao1 s0 n1 f1 n3 f3 n5 q Z Y x9 Ps Pr Px Q8) (fc5 s0 n1 f1 n3 f3 n5 q Z Y x9 Ps Pr Px Q8) (adO s0 n1 f1 n3 f3 n5 q Z Y x9 Ps Pr Px Q8) (yg s0 n1 f1 n3 f3 n5 q Z Y x9 Ps Pr Px Q8):=⟨bD,λs=>by cases s<;>exact bD⟩
def EY (i k:Nat):Bool:=dm (q,Z) (bif !fR n1 f1 n3 f3 (av (je (ba n1 f1 x9 Ps Q8) i)) (av (je (ba n3 f3 Pr Px Q8) k)) Q8 then bif decide (1<(i:Int)) then true else decide (1<(k:Int)) else false)
def OX (i k:Nat):Int:=dm Z (ij n1 f1 n3 f3 q (av (je (ba n1 f1 x9 Ps Q8) i)) (av (je (ba n3 f3 Pr Px Q8) k)) Q8)
def OY (i k:Nat):Int:=hU n1 f1 n3 f3 q Z (av (je (ba n1 f1 x9 Ps Q8) i)) (av (je (ba n3 f3 Pr Px Q8) k)) Q8
def T6 (i k:Nat) (o:Bool×Int×Int):Bool×Int×Int:=bif EY n1 f1 n3 f3 q Z x9 Ps Pr Px Q8 i k then o else bif o.1 then(false,min (OX n1 f1 n3 f3 q Z x9 Ps Pr Px Q8 i k) (OX n1 f1 n3 f3 q Z x9 Ps Pr Px Q8 i k),max (OY n1 f1 n3 f3 q Z x9 Ps Pr Px Q8 i k) (OY n1 f1 n3 f3 q Z x9 Ps Pr Px Q8 i k)) else(o.1,min o.2.1 (OX n1 f1 n3 f3 q Z x9 Ps Pr Px Q8 i k),max o.2.2 (OY n1 f1 n3 f3 q Z x9 Ps Pr Px Q8 i k))
def Mf (n1:Nat) (f1:be) (n3:Nat) (f3 q:be) (Z x9 Ps Pr Px Q8:Int) (i:Nat) (o:Bool×Int×Int):Nat->Bool×Int×Int
 |0=>o|k+1=>T6 n1 f1 n3 f3 q Z x9 Ps Pr Px Q8 i k (Mf n1 f1 n3 f3 q Z x9 Ps Pr Px Q8 i o k)
def YE (n1:Nat) (f1:be) (n3:Nat) (f3 q:be) (Z x9 Ps Pr Px Q8:Int):Nat->Bool×Int×Int
 |0=>(true,0,0)|i+1=>Mf n1 f1 n3 f3 q Z x9 Ps Pr Px Q8 i (YE n1 f1 n3 f3 q Z x9 Ps Pr Px Q8 i) (ba n3 f3 Pr Px Q8).length
def jK:Int:=(YE n1 f1 n3 f3 q Z x9 Ps Pr Px Q8 (ba n1 f1 x9 Ps Q8).length).2.1
def jP:Int:=(YE n1 f1 n3 f3 q Z x9 Ps Pr Px Q8 (ba n1 f1 x9 Ps Q8).length).2.2
section
variable (s0:ByteArray) (n1:Nat) (f1:be) (n3:Nat) (f3:be) (n5:Nat) (q:be) (Z:Int) (Y:Int) (x9:Int) (Ps:Int) (Pr:Int) (Px:Int) (Q8:Int) (hp:gb n1 (D L f1) n3 (D L f3) n5 (D [Ty.sl L] q) Q8)
include hp
theorem ih0 (i:Nat) (hi:i<(ba n1 (D L f1) x9 Ps Q8).length) (o:Bool×Int×Int) (nx:Ev (yg s0 n1 f1 n3 f3 n5 q Z Y x9 Ps Pr Px Q8) (.L0 (E ((i:Int)+1)) (Mf n1 (D L f1) n3 (D L f3) (D [Ty.sl L] q) Z x9 Ps Pr Px Q8 i o (ba n3 (D L f3) Pr Px Q8).length).1 (Mf n1 (D L f1) n3 (D L f3) (D [Ty.sl L] q) Z x9 Ps Pr Px Q8 i o (ba n3 (D L f3) Pr Px Q8).length).2.1 (Mf n1 (D L f1) n3 (D L f3) (D [Ty.sl L] q) Z x9 Ps Pr Px Q8 i o (ba n3 (D L f3) Pr Px Q8).length).2.2) (.agg [A (jK n1 (D L f1) n3 (D L f3) (D [Ty.sl L] q) Z x9 Ps Pr Px Q8),A (jP n1 (D L f1) n3 (D L f3) (D [Ty.sl L] q) Z x9 Ps Pr Px Q8)])) :
 ∀k,k<=(ba n3 (D L f3) Pr Px Q8).length->Ev (yg s0 n1 f1 n3 f3 n5 q Z Y x9 Ps Pr Px Q8) (.L1 (k:Int) (i:Int) (Mf n1 (D L f1) n3 (D L f3) (D [Ty.sl L] q) Z x9 Ps Pr Px Q8 i o k).1 (Mf n1 (D L f1) n3 (D L f3) (D [Ty.sl L] q) Z x9 Ps Pr Px Q8 i o k).2.1 (Mf n1 (D L f1) n3 (D L f3) (D [Ty.sl L] q) Z x9 Ps Pr Px Q8 i o k).2.2) (.agg [A (jK n1 (D L f1) n3 (D L f3) (D [Ty.sl L] q) Z x9 Ps Pr Px Q8),A (jP n1 (D L f1) n3 (D L f3) (D [Ty.sl L] q) Z x9 Ps Pr Px Q8)]):=by
 refine dB λk hk ih=>Ev.of rfl (bC λhn=>?_);by_cases Q7:k<(ba n3 (D L f3) Pr Px Q8).length
 ·have hw:E ((k:Int)+1)=((k+1:Nat):Int):=by rw[C8 K K];omega
  have ih:=ih Q7;rw[← hw]at ih;have e:Mf n1 (D L f1) n3 (D L f3) (D [Ty.sl L] q) Z x9 Ps Pr Px Q8 i o (k+1)=T6 n1 (D L f1) n3 (D L f3) (D [Ty.sl L] q) Z x9 Ps Pr Px Q8 i k (Mf n1 (D L f1) n3 (D L f3) (D [Ty.sl L] q) Z x9 Ps Pr Px Q8 i o k):=rfl;rw[e]at ih;have di:=BX (p:=(0:Int)<=(i:Int)/\(i:Int)<((ba n1 (D L f1) x9 Ps Q8).length:Int)) K;have dk:=BX (p:=(0:Int)<=(k:Int)/\(k:Int)<((ba n3 (D L f3) Pr Px Q8).length:Int)) K;refine cP (BX K) (aF di (aF dk (aI (ap5 hp (eZ (D L f1) 0 0 hp.1) (eZ (D L f3) 0 0 hp.2.1)) (ac (B1 (B1 (B1 (B1 (B1 (B1 (C2 (λa=>aL ?_) (λa=>aF di (aF dk (aI hp (ac (C2 (λc=>aL ?_) (λc=>aL ?_)))))))))))))))))
  ·have a:EY n1 (D L f1) n3 (D L f3) (D [Ty.sl L] q) Z x9 Ps Pr Px Q8 i k=true:=a;unfold T6 at ih;rw[a]at ih;exact ih
  ·have a:EY n1 (D L f1) n3 (D L f3) (D [Ty.sl L] q) Z x9 Ps Pr Px Q8 i k=false:=a;unfold T6 at ih;rw[a,c]at ih;exact ih
  ·have a:EY n1 (D L f1) n3 (D L f3) (D [Ty.sl L] q) Z x9 Ps Pr Px Q8 i k=false:=a;unfold T6 at ih;rw[a,c]at ih;rw[c];exact ih
 ·have e:k=(ba n3 (D L f3) Pr Px Q8).length:=by omega
  refine cW (eQ K) ?_;rw[e];exact aL nx
theorem yaf:∀ i,i<=(ba n1 (D L f1) x9 Ps Q8).length->Ev (yg s0 n1 f1 n3 f3 n5 q Z Y x9 Ps Pr Px Q8) (.L0 (i:Int) (YE n1 (D L f1) n3 (D L f3) (D [Ty.sl L] q) Z x9 Ps Pr Px Q8 i).1 (YE n1 (D L f1) n3 (D L f3) (D [Ty.sl L] q) Z x9 Ps Pr Px Q8 i).2.1 (YE n1 (D L f1) n3 (D L f3) (D [Ty.sl L] q) Z x9 Ps Pr Px Q8 i).2.2) (.agg [A (jK n1 (D L f1) n3 (D L f3) (D [Ty.sl L] q) Z x9 Ps Pr Px Q8),A (jP n1 (D L f1) n3 (D L f3) (D [Ty.sl L] q) Z x9 Ps Pr Px Q8)]):=by
 refine dB λi hi ih=>Ev.of rfl (bC λhn=>?_);by_cases Q7:i<(ba n1 (D L f1) x9 Ps Q8).length
 ·have hw:E ((i:Int)+1)=((i+1:Nat):Int):=by rw[C8 K K];omega
  have ih:=ih Q7;rw[← hw]at ih;exact cP (BX K) (aH (ih0 s0 n1 f1 n3 f3 n5 q Z Y x9 Ps Pr Px Q8 hp i Q7 (YE n1 (D L f1) n3 (D L f3) (D [Ty.sl L] q) Z x9 Ps Pr Px Q8 i) ih 0 (Da _)))
 ·have e:i=(ba n1 (D L f1) x9 Ps Q8).length:=by omega
  refine cW (eQ K) ?_;rw[e];exact B5 rfl
end
theorem aeI (hp:gb n1 (D L f1) n3 (D L f3) n5 (D [.sl L] q) Q8):aT (Ev (yg s0 n1 f1 n3 f3 n5 q Z Y x9 Ps Pr Px Q8)) (adO s0 n1 f1 n3 f3 n5 q Z Y x9 Ps Pr Px Q8) (.agg [A (jK n1 (D L f1) n3 (D L f3) (D [.sl L] q) Z x9 Ps Pr Px Q8),A (jP n1 (D L f1) n3 (D L f3) (D [.sl L] q) Z x9 Ps Pr Px Q8)]):=by have ha:=hp.1;have hb:=hp.2.1;exact aI ha.2 (ac (aI hb.2 (ac (aH (yaf s0 n1 f1 n3 f3 n5 q Z Y x9 Ps Pr Px Q8 hp 0 (Da _))))))
def ace:aE:=bP [.agg ap,.agg gV,tI] (λ
 |[.agg [.str s0,.sl n1 f1,.sl n3 f3,.sl n5 q,.int _ Z,.int _ Y],.agg [.int _ x9,.int _ Ps,.int _ Pr,.int _ Px],.int _ Q8]=>gb n1 f1 n3 f3 n5 q Q8|_=>False) λ
 |[.agg [.str s0,.sl n1 f1,.sl n3 f3,.sl n5 q,.int _ Z,.int _ Y],.agg [.int _ x9,.int _ Ps,.int _ Pr,.int _ Px],.int _ Q8]=>.agg [A (jK n1 f1 n3 f3 q Z x9 Ps Pr Px Q8),A (jP n1 f1 n3 f3 q Z x9 Ps Pr Px Q8)]|_=>.any
theorem ajJ:b9 ace 114:=aU ff5 λ_ hp=>kr (nh1 ..) (aeI _ _ _ _ _ _ _ _ _ _ _ _ _ _ hp)
theorem au4 {x:List V} {QR:Int} (t:qU x) (u:qQ (aB (aA (I x))) (bL (aA (I x)))) (v:qQ (aB (aA (I (I x)))) (bL (aA (I (I x))))) (h:1<=QR/\QR<=30000) :
 gb (aB (aA (I x))) (bL (aA (I x))) (aB (aA (I (I x)))) (bL (aA (I (I x)))) (Mu x) (zE x) QR:=by
 have key:∀{n:Nat} {f:be},qQ n f->∀i:Nat,i+1<n->E (E (av (f (i+1))-av (f i))*QR)≠0:=by intro n f w i hi;have hu:=w.u i hi;have r0:=w.r i K;have r1:=w.r (i+1) hi;rw[C8 (x:=av (f (i+1))-av (f i)) K K];have M:(av (f (i+1))-av (f i))*QR<=10000*QR:=Gk K K;have N:0<(av (f (i+1))-av (f i))*QR:=I6 K K;rw[C8 K K];omega
 refine⟨⟨t.u.1,by have:=t.u.2;omega⟩,⟨t.v.1,by have:=t.v.2;omega⟩,by rw[t.n];exact D7 _,λi hi=>?_,key u,key v⟩;have:=t.row i hi;show _<=aB (aA (zE x i));omega
theorem axi {H:Nat} {G:be} {T:Nat} {O:be} {Q:Int} (h:fv H G T O Q=0) :
 (0<=Q/\Q<(T:Int))/\(0<=aP (O Q.toNat)/\aP (O Q.toNat)<(H:Int))/\iN (D ap (D ap G)) (aP (O Q.toNat)).toNat=0:=by
 unfold fv at h;have e:dh H (D ap G) T (D B4 O)=0:=by
  by_cases e:dh H (D ap G) T (D B4 O)=0
  ·exact e
  ·have:(dh H (D ap G) T (D B4 O)==0)=false:=by simpa using e
   rw[this]at h;exact h
 have v:Cy H (D ap G) T (D B4 O):=ye e;rw[e]at h;have hb:(!aG Q 0 (E ((T:Int)-1)))=false:=by
  cases hh:(!aG Q 0 (E ((T:Int)-1))) with
  |false=>rfl|true=>rw[hh]at h;cases h
 have l2:=v.l2;have r:=DU (Of K hb);have lm:=(Sw (a:=Q.toNat) v.l0 (v.lm Q.toNat K)).t;have lm:0<=aP (O Q.toNat)/\aP (O Q.toNat)<(H:Int):=lm;exact⟨r,lm,v.tb _ K⟩
def PU:bm:=(114,.con ace)::Fh
theorem cvB:aZ Tryz.prog Bs C3 PU:=.con ajJ (ff5)
def Lv:RT Empty:=.ob (dI Q T) (.cb (.ob (dI (aP (O Q.toNat)) H) (.obp (((2:Nat)<=aB (aA (I (G (aP (O Q.toNat)).toNat)))/\aB (aA (I (G (aP (O Q.toNat)).toNat)))<=(1000:Nat))/\((2:Nat)<=aB (aA (I (I (G (aP (O Q.toNat)).toNat))))/\aB (aA (I (I (G (aP (O Q.toNat)).toNat))))<=(1000:Nat))/\aB (aA (I (G (aP (O Q.toNat)).toNat)))<=aB (aA (I (I (I (G (aP (O Q.toNat)).toNat)))))/\(∀(i:Nat),i<aB (aA (I (I (I (G (aP (O Q.toNat)).toNat)))))->aB (aA (I (I (G (aP (O Q.toNat)).toNat))))<=aB (aA (bL (aA (I (I (I (G (aP (O Q.toNat)).toNat))))) i)))/\(∀(i:Nat),i+(1:Nat)<aB (aA (I (G (aP (O Q.toNat)).toNat)))->E (E (av (bL (aA (I (G (aP (O Q.toNat)).toNat))) (i+(1:Nat)))-av (bL (aA (I (G (aP (O Q.toNat)).toNat))) i))*Px)≠(0:Int))/\∀(i:Nat),i+(1:Nat)<aB (aA (I (I (G (aP (O Q.toNat)).toNat))))->E (E (av (bL (aA (I (I (G (aP (O Q.toNat)).toNat)))) (i+(1:Nat)))-av (bL (aA (I (I (G (aP (O Q.toNat)).toNat)))) i))*Px)≠(0:Int)) (.obt (.obp (nz 1000) (.obt (.obp (nz 1000) (.obt (.ret (V.tup [V.agg [A (dU (E (jK (aB (aA (I (G (aP (O Q.toNat)).toNat)))) (λi=>al L (bL (aA (I (G (aP (O Q.toNat)).toNat))) i)) (aB (aA (I (I (G (aP (O Q.toNat)).toNat))))) (λi=>al L (bL (aA (I (I (G (aP (O Q.toNat)).toNat)))) i)) (λi=>al [Ty.sl L] (bL (aA (I (I (I (G (aP (O Q.toNat)).toNat))))) i)) (cu (G (aP (O Q.toNat)).toNat)) Y x9 Ps Pr Px*qm (bf (O Q.toNat)) (bE (I (I (I (O Q.toNat))))) (bE (I (I (I (I (I (O Q.toNat))))))) x5 x6 Z)) 1000),A (eP (E (jP (aB (aA (I (G (aP (O Q.toNat)).toNat)))) (λi=>al L (bL (aA (I (G (aP (O Q.toNat)).toNat))) i)) (aB (aA (I (I (G (aP (O Q.toNat)).toNat))))) (λi=>al L (bL (aA (I (I (G (aP (O Q.toNat)).toNat)))) i)) (λi=>al [Ty.sl L] (bL (aA (I (I (I (G (aP (O Q.toNat)).toNat))))) i)) (cu (G (aP (O Q.toNat)).toNat)) Y x9 Ps Pr Px*qE (bf (O Q.toNat)) (bE (I (I (O Q.toNat)))) (bE (I (I (I (I (O Q.toNat)))))) x5 x6 Z)) 1000)],A 0]))))))))))
def awe:RT Empty:=.cb (.br (fi Y x9 Ps Pr Px !=0) (.ret (V.tup [V.agg Dj,A (fi Y x9 Ps Pr Px)])) (Lv H G T O Q x5 x6 Z Y x9 Ps Pr Px))
def acO:RT Empty:=.obp ((aD H G)/\aD T O) (.obt (.br (fv H (D ap G) T (D B4 O) Q==0) (.cb (.br (gi x5 x6 Z==0) (awe H G T O Q x5 x6 Z Y x9 Ps Pr Px) (.br (gi x5 x6 Z !=0) (.ret (V.tup [V.agg Dj,A (gi x5 x6 Z)])) (Lv H G T O Q x5 x6 Z Y x9 Ps Pr Px)))) (.br (fv H (D ap G) T (D B4 O) Q==0) (awe H G T O Q x5 x6 Z Y x9 Ps Pr Px) (.br (fv H (D ap G) T (D B4 O) Q !=0) (.ret (V.tup [V.agg Dj,A (fv H (D ap G) T (D B4 O) Q)])) (Lv H G T O Q x5 x6 Z Y x9 Ps Pr Px)))))
theorem uu5:cY cZ (aQ JJ PU u0 alp [V.agg [V.sl H (D ap G),V.sl T (D B4 O)],A Q,V.agg [A x5,A x6,A Z],V.agg [A Y,A x9,A Ps,A Pr],A Px]) (acO H G T O Q x5 x6 Z Y x9 Ps Pr Px):=bD
def ack (x:List V) (a c d e h:Int):Int:=jK (aB (aA (I x))) (bL (aA (I x))) (aB (aA (I (I x)))) (bL (aA (I (I x)))) (zE x) (cu x) a c d e h
def adW (x:List V) (a c d e h:Int):Int:=jP (aB (aA (I x))) (bL (aA (I x))) (aB (aA (I (I x)))) (bL (aA (I (I x)))) (zE x) (cu x) a c d e h
def Oy:Int:=bif fv H G T O Q==0 then bif gi x5 x6 Z==0 then fi Y x9 Ps Pr Px else gi x5 x6 Z else fv H G T O Q
def Ob:Int:=dm (H,T) (dU (E (ack (G (aP (O Q.toNat)).toNat) Y x9 Ps Pr Px*qm (bf (O Q.toNat)) (bE (I (I (I (O Q.toNat))))) (bE (I (I (I (I (I (O Q.toNat))))))) x5 x6 Z)) 1000)
def OZ:Int:=dm (H,T) (eP (E (adW (G (aP (O Q.toNat)).toNat) Y x9 Ps Pr Px*qE (bf (O Q.toNat)) (bE (I (I (O Q.toNat)))) (bE (I (I (I (I (O Q.toNat)))))) x5 x6 Z)) 1000)
def jE:Int:=bif Oy H G T O Q x5 x6 Z Y x9 Ps Pr Px==0 then Ob H G T O Q x5 x6 Z Y x9 Ps Pr Px else 0
def jQ:Int:=bif Oy H G T O Q x5 x6 Z Y x9 Ps Pr Px==0 then OZ H G T O Q x5 x6 Z Y x9 Ps Pr Px else 0
def mN:Int:=Oy H G T O Q x5 x6 Z Y x9 Ps Pr Px
theorem ajn (hp:aD H (D ap G)/\aD T (D B4 O)):aT cM (acO H G T O Q x5 x6 Z Y x9 Ps Pr Px) (.tup [.agg [A (jE H (D ap G) T (D B4 O) Q x5 x6 Z Y x9 Ps Pr Px),A (jQ H (D ap G) T (D B4 O) Q x5 x6 Z Y x9 Ps Pr Px)],A (mN H (D ap G) T (D B4 O) Q x5 x6 Z Y x9 Ps Pr Px)]):=by
 have bad:∀ {e:Int},Oy H (D ap G) T (D B4 O) Q x5 x6 Z Y x9 Ps Pr Px=e->e≠0->aT cM (.ret (V.tup [V.agg [A 0,A 0],A e])) (.tup [.agg [A (jE H (D ap G) T (D B4 O) Q x5 x6 Z Y x9 Ps Pr Px),A (jQ H (D ap G) T (D B4 O) Q x5 x6 Z Y x9 Ps Pr Px)],A (mN H (D ap G) T (D B4 O) Q x5 x6 Z Y x9 Ps Pr Px)]):=λh h0=>B5 (by unfold jE jQ mN;rw[h,show(_==(0:Int))=false from by simpa using h0];rfl);have L1:fv H (D ap G) T (D B4 O) Q=0->gi x5 x6 Z=0->fi Y x9 Ps Pr Px=0->aT cM (Lv H G T O Q x5 x6 Z Y x9 Ps Pr Px) (.tup [.agg [A (jE H (D ap G) T (D B4 O) Q x5 x6 Z Y x9 Ps Pr Px),A (jQ H (D ap G) T (D B4 O) Q x5 x6 Z Y x9 Ps Pr Px)],A (mN H (D ap G) T (D B4 O) Q x5 x6 Z Y x9 Ps Pr Px)]):=λh0 hw hr=>by
  have ht:Oy H (D ap G) T (D B4 O) Q x5 x6 Z Y x9 Ps Pr Px=0:=by unfold Oy;rw[h0,hw,hr];rfl
  have hb:=axi h0;have tb:=FK hb.2.2;have up:=O2 hb.2.2;have hH:1<=Px/\Px<=30000:=by
   unfold fi at hr;cases hh:aG Px 1 30000 with
   |true=>exact zB hh|false=>rw[hh]at hr;cases hr
  have vw:=au4 (QR:=Px) tb up.1 up.2 hH;exact aF (BX hb.1) (ao (ac (aF (BX hb.2.1) (aI vw (ac (aI aR (ac (aI aR (ac (B5 (by unfold jE jQ mN;rw[ht];rfl)))))))))))
 refine aI hp (ac (C2 (λh=>ao (ac (C2 (λN=>ao (ac (C2 (λh3=>?_) (λh3=>L1 (EM h) (EM N) (by simpa using h3))))) (λN=>C2 (λh3=>?_) (λh3=>?_))))) (λh=>C2 (λN=>?_) (λN=>C2 (λh3=>?_) (λh3=>?_)))))
 ·exact bad (by unfold Oy;rw[h,N];rfl) (by simpa using h3)
 ·exact bad (by unfold Oy;rw[h,N];rfl) (by simpa using h3)
 ·exact absurd (by simpa using h3:gi x5 x6 Z=0) (by simpa using N)
 ·exact absurd N (by rw[h];decide)
 ·exact bad (by unfold Oy;rw[h];rfl) (by simpa using h3)
 ·exact absurd (by simpa using h3:fv H (D ap G) T (D B4 O) Q=0) (by simpa using h)
def aa2:aE:=bP [.agg [.sl ap,.sl B4],tI,.agg cI,.agg gV,tI] (λ
 |[.agg [.sl H G,.sl T O],.int _ Q,.agg [.int _ x5,.int _ x6,.int _ Z],.agg [.int _ Y,.int _ x9,.int _ Ps,.int _ Pr],.int _ Px]=>aD H G/\aD T O|_=>False) λ
 |[.agg [.sl H G,.sl T O],.int _ Q,.agg [.int _ x5,.int _ x6,.int _ Z],.agg [.int _ Y,.int _ x9,.int _ Ps,.int _ Pr],.int _ Px]=>.tup [.agg [A (jE H G T O Q x5 x6 Z Y x9 Ps Pr Px),A (jQ H G T O Q x5 x6 Z Y x9 Ps Pr Px)],A (mN H G T O Q x5 x6 Z Y x9 Ps Pr Px)]|_=>.any
theorem ajF:b9 aa2 60:=aU cvB λ_ hp=>da (uu5 ..) (ajn _ _ _ _ _ _ _ _ _ _ _ _ _ hp)
theorem ic5 (x:Int):cU H G T O x=fv H G T O x:=by
 have c:b7 H (D ap G) T (D B4 O)=dh H (D ap G) T (D B4 O):=congrArg (λp=>p.2.2) (qy H (D ap G) T (D B4 O));unfold cU fv;rw[c];generalize dh H (D ap G) T (D B4 O)=e;by_cases he:e=0
 ·subst he;rfl
 ·rw[show(e !=0)=true from by simpa using he,show(e==0)=false from by simpa using he];rfl
theorem ne1 (a b c:Int):(bif jc a b c then(7:Int) else 0)=gi a b c:=by unfold jc gi;have h:∀x l u,aw x l u=aG x l u:=λ_ _ _=>rfl;rw[h,h,h];cases aG a 0 200000<;>cases aG b 0 600<;>cases aG c 0 1000<;>rfl
def EV (Q1:Int->Int->Prop) (g0 g1:Int->Int->Int) (o:Int×Int):Prop:=(∃u v,Q1 u v/\g0 u v=o.1)/\∃u v,Q1 u v/\g1 u v=o.2
def uA (g0 g1:Int->Int->Int) (u v:Int) (o:Int×Int):Prop:=o.1<=g0 u v/\g1 u v<=o.2
def Ct (a b:Int×Int):Prop:=a.1<=b.1/\b.2<=a.2
theorem Ct.refl (a:Int×Int):Ct a a:=⟨Int.le_refl _,Int.le_refl _⟩
theorem Ct.trans {a b c:Int×Int} (h:Ct a b) (k:Ct b c):Ct a c:=⟨Int.le_trans h.1 k.1,Int.le_trans k.2 h.2⟩
theorem uA.le {g0 g1:Int->Int->Int} {u v:Int} {o p:Int×Int} (h:uA g0 g1 u v o) (k:Ct p o):uA g0 g1 u v p:=⟨Int.le_trans k.1 h.1,Int.le_trans h.2 k.2⟩
theorem as6 {Q1:Int->Int->Prop} {g0 g1:Int->Int->Int} {a b:Int×Int} (h:EV Q1 g0 g1 a) (c:∀ u v,Q1 u v->uA g0 g1 u v a) (k:EV Q1 g0 g1 b) (d:∀ u v,Q1 u v->uA g0 g1 u v b):a=b:=by
 obtain⟨⟨u,v,s,e⟩,⟨p,Pw,t,f⟩⟩:=h;obtain⟨⟨u',v',s',e'⟩,⟨p',q',t',f'⟩⟩:=k;have M:=(d u v s).1;have N:=(c u' v' s').1;have h3:=(d p Pw t).2;have h4:=(c p' q' t').2;have R:a.1=b.1:=by omega
 have W:a.2=b.2:=by omega
 exact Prod.ext R W
theorem sD {Q1:Int->Int->Prop} {g0 g1:Int->Int->Int} {o:Int×Int} {u v:Int} (h:EV Q1 g0 g1 o) (s:Q1 u v):EV Q1 g0 g1 (min o.1 (g0 u v),max o.2 (g1 u v)):=by
 obtain⟨⟨a,b,s1,e1⟩,⟨c,d,s2,e2⟩⟩:=h;refine⟨?_,?_⟩
 ·show ∃ u' v',Q1 u' v'/\g0 u' v'=min o.1 (g0 u v)
  rw[Int.min_def];split
  ·exact⟨a,b,s1,e1⟩
  ·exact⟨u,v,s,rfl⟩
 ·show ∃ u' v',Q1 u' v'/\g1 u' v'=max o.2 (g1 u v)
  rw[Int.max_def];split
  ·exact⟨u,v,s,rfl⟩
  ·exact⟨c,d,s2,e2⟩
theorem amC {g0 g1:Int->Int->Int} {o:Int×Int} {u v:Int}:Ct (min o.1 (g0 u v),max o.2 (g1 u v)) o/\uA g0 g1 u v (min o.1 (g0 u v),max o.2 (g1 u v)) :=
 ⟨⟨Int.min_le_left _ _,Int.le_max_left _ _⟩,⟨Int.min_le_right _ _,Int.le_max_right _ _⟩⟩
section
variable (q:be) (Z:Int) (n9:Nat) (f9:be) (Pq:Nat) (Pp:be)
def Mz (n:Nat) (f:be) (a b u:Int):Prop:=u=a∨u=b∨∃j,j<n/\C1 a b (av (f j))=true/\u=av (f j)
theorem Gr {Q1:Int->Int->Prop} {u v:Int} {o:Int×Int} (h:EV Q1 (bn q n9 f9 Pq Pp) (bo q Z n9 f9 Pq Pp) o) (s:bz n9 f9 Pq Pp u v=true->Q1 u v):EV Q1 (bn q n9 f9 Pq Pp) (bo q Z n9 f9 Pq Pp) (Oh q Z n9 f9 Pq Pp u v o):=by
 cases hb:bz n9 f9 Pq Pp u v with
 |true=>rw[q8 hb];exact sD h (s hb)|false=>rw[tG hb];exact h
theorem xn (u v:Int) (o:Int×Int):Ct (Oh q Z n9 f9 Pq Pp u v o) o:=by
 cases hb:bz n9 f9 Pq Pp u v with
 |true=>rw[q8 hb];exact(amC (g0:=bn q n9 f9 Pq Pp) (g1:=bo q Z n9 f9 Pq Pp)).1|false=>rw[tG hb];exact Ct.refl o
theorem Gf (u v:Int) (o:Int×Int) (hb:bz n9 f9 Pq Pp u v=true):uA (bn q n9 f9 Pq Pp) (bo q Z n9 f9 Pq Pp) u v (Oh q Z n9 f9 Pq Pp u v o):=by rw[q8 hb];exact(amC (g0:=bn q n9 f9 Pq Pp) (g1:=bo q Z n9 f9 Pq Pp)).2
theorem wM {y0 y1 u:Int} {o:Int×Int}:∀ k,k<=Pq ->
 (∀Q1:Int->Int->Prop,EV Q1 (bn q n9 f9 Pq Pp) (bo q Z n9 f9 Pq Pp) o->(∀v,Mz Pq Pp y0 y1 v->bz n9 f9 Pq Pp u v=true->Q1 u v)->EV Q1 (bn q n9 f9 Pq Pp) (bo q Z n9 f9 Pq Pp) (C0 q Z n9 f9 Pq Pp y0 y1 u o k)) /\
 Ct (C0 q Z n9 f9 Pq Pp y0 y1 u o k) o /\
 ∀j,j<k->C1 y0 y1 (av (Pp j))=true->bz n9 f9 Pq Pp u (av (Pp j))=true->uA (bn q n9 f9 Pq Pp) (bo q Z n9 f9 Pq Pp) u (av (Pp j)) (C0 q Z n9 f9 Pq Pp y0 y1 u o k)
 |0,_=>⟨λQ1 h _=>h,Ct.refl o,λj hj=>absurd hj (HG j)⟩
 |k+1,hk=>by
   obtain⟨M,N,h3⟩:=wM (y0:=y0) (y1:=y1) (u:=u) (o:=o) k K;cases hb:C1 y0 y1 (av (Pp k)) with
   |false=>
     rw[JR hb];refine⟨M,N,λj hj a b=>?_⟩;rcases Nat.lt_succ_iff_lt_or_eq.1 hj with h|h
     ·exact h3 j h a b
     ·subst h;rw[hb]at a;cases a
   |true=>
     rw[xD hb];refine⟨λQ1 h s=>Gr q Z n9 f9 Pq Pp (M Q1 h s) (s _ (.inr (.inr ⟨k,K,hb,rfl⟩))),Ct.trans (xn ..) N,λj hj a b=>?_⟩;rcases Nat.lt_succ_iff_lt_or_eq.1 hj with h|h
     ·exact uA.le (h3 j h a b) (xn ..)
     ·subst h;exact Gf _ _ _ _ _ _ _ _ _ b
theorem yU {y0 y1 u:Int} {o:Int×Int} {Q1:Int->Int->Prop} (h:EV Q1 (bn q n9 f9 Pq Pp) (bo q Z n9 f9 Pq Pp) o) (s:∀ v,Mz Pq Pp y0 y1 v->bz n9 f9 Pq Pp u v=true->Q1 u v):EV Q1 (bn q n9 f9 Pq Pp) (bo q Z n9 f9 Pq Pp) (Xc q Z n9 f9 Pq Pp y0 y1 u o) :=
 (wM q Z n9 f9 Pq Pp Pq (D7 _)).1 Q1 (Gr _ _ _ _ _ _ (Gr _ _ _ _ _ _ h (s _ (.inl rfl))) (s _ (.inr (.inl rfl)))) s
theorem xx (y0 y1 u:Int) (o:Int×Int):Ct (Xc q Z n9 f9 Pq Pp y0 y1 u o) o :=
 Ct.trans (wM q Z n9 f9 Pq Pp Pq (D7 _)).2.1 (Ct.trans (xn ..) (xn ..))
theorem Gc {y0 y1 u v:Int} {o:Int×Int} (hv:Mz Pq Pp y0 y1 v) (hb:bz n9 f9 Pq Pp u v=true):uA (bn q n9 f9 Pq Pp) (bo q Z n9 f9 Pq Pp) u v (Xc q Z n9 f9 Pq Pp y0 y1 u o):=by
 have k:=wM q Z n9 f9 Pq Pp (y0:=y0) (y1:=y1) (u:=u) (o:=Gh q Z n9 f9 Pq Pp y0 y1 u o) Pq (D7 _);rcases hv with h|h|⟨j,hj,a,e⟩
 ·subst h;exact uA.le (uA.le (Gf _ _ _ _ _ _ _ _ _ hb) (xn ..)) k.2.1
 ·subst h;exact uA.le (Gf _ _ _ _ _ _ _ _ _ hb) k.2.1
 ·subst e;exact k.2.2 j hj a hb
def zb (S R y0 y1 u v:Int):Prop:=((u=S∨u=R)/\(v=y0∨v=y1))∨(Mz n9 f9 S R u/\Mz Pq Pp y0 y1 v/\bz n9 f9 Pq Pp u v=true)
theorem BI {S R y0 y1:Int} {o:Int×Int} (ho:EV (zb n9 f9 Pq Pp S R y0 y1) (bn q n9 f9 Pq Pp) (bo q Z n9 f9 Pq Pp) o):∀ k,k<=n9 ->
 EV (zb n9 f9 Pq Pp S R y0 y1) (bn q n9 f9 Pq Pp) (bo q Z n9 f9 Pq Pp) (FV q Z n9 f9 Pq Pp S R y0 y1 o k) /\
 Ct (FV q Z n9 f9 Pq Pp S R y0 y1 o k) o /\
 ∀j,j<k->C1 S R (av (f9 j))=true->∀v,Mz Pq Pp y0 y1 v->bz n9 f9 Pq Pp (av (f9 j)) v=true->uA (bn q n9 f9 Pq Pp) (bo q Z n9 f9 Pq Pp) (av (f9 j)) v (FV q Z n9 f9 Pq Pp S R y0 y1 o k)
 |0,_=>⟨ho,Ct.refl o,λj hj=>absurd hj (HG j)⟩
 |k+1,hk=>by
   obtain⟨M,N,h3⟩:=BI ho k K;cases hb:C1 S R (av (f9 k)) with
   |false=>
     rw[hdS hb];refine⟨M,N,λj hj a v hv b=>?_⟩;rcases Nat.lt_succ_iff_lt_or_eq.1 hj with h|h
     ·exact h3 j h a v hv b
     ·subst h;rw[hb]at a;cases a
   |true=>
     rw[adN hb];refine⟨yU _ _ _ _ _ _ M (λv hv hh=>.inr ⟨.inr (.inr ⟨k,K,hb,rfl⟩),hv,hh⟩),Ct.trans (xx ..) N,λj hj a v hv b=>?_⟩;rcases Nat.lt_succ_iff_lt_or_eq.1 hj with h|h
     ·exact uA.le (h3 j h a v hv b) (xx ..)
     ·subst h;exact Gc _ _ _ _ _ _ hv b
theorem yaU (S R y0 y1:Int):EV (zb n9 f9 Pq Pp S R y0 y1) (bn q n9 f9 Pq Pp) (bo q Z n9 f9 Pq Pp) (KL q Z n9 f9 Pq Pp S R y0 y1) :=
 have a:EV (zb n9 f9 Pq Pp S R y0 y1) (bn q n9 f9 Pq Pp) (bo q Z n9 f9 Pq Pp) (bn q n9 f9 Pq Pp S y0,bo q Z n9 f9 Pq Pp S y0):=⟨⟨S,y0,.inl ⟨.inl rfl,.inl rfl⟩,rfl⟩,⟨S,y0,.inl ⟨.inl rfl,.inl rfl⟩,rfl⟩⟩
 sD (sD (sD a (.inl ⟨.inl rfl,.inr rfl⟩)) (.inl ⟨.inr rfl,.inl rfl⟩)) (.inl ⟨.inr rfl,.inr rfl⟩)
theorem ajE {S R y0 y1 u v:Int} (hu:u=S∨u=R) (hv:v=y0∨v=y1):uA (bn q n9 f9 Pq Pp) (bo q Z n9 f9 Pq Pp) u v (KL q Z n9 f9 Pq Pp S R y0 y1):=by unfold uA KL;rcases hu with rfl|rfl<;>rcases hv with rfl|rfl<;>dsimp only<;>omega
theorem ahK (S R y0 y1:Int):EV (zb n9 f9 Pq Pp S R y0 y1) (bn q n9 f9 Pq Pp) (bo q Z n9 f9 Pq Pp) (Ld q Z n9 f9 Pq Pp S R y0 y1) :=
 (BI q Z n9 f9 Pq Pp (yU _ _ _ _ _ _ (yU _ _ _ _ _ _ (yaU ..) (λv hv hh=>.inr ⟨.inl rfl,hv,hh⟩)) (λv hv hh=>.inr ⟨.inr (.inl rfl),hv,hh⟩)) n9 (D7 _)).1
theorem aiu {S R y0 y1 u v:Int} (h:zb n9 f9 Pq Pp S R y0 y1 u v):uA (bn q n9 f9 Pq Pp) (bo q Z n9 f9 Pq Pp) u v (Ld q Z n9 f9 Pq Pp S R y0 y1):=by
 have k:=BI q Z n9 f9 Pq Pp (yU _ _ _ _ _ _ (yU _ _ _ _ _ _ (yaU q Z n9 f9 Pq Pp S R y0 y1) (λv hv hh=>.inr ⟨.inl rfl,hv,hh⟩)) (λv hv hh=>.inr ⟨.inr (.inl rfl),hv,hh⟩)) n9 (D7 _);rcases h with ⟨hu,hv⟩|⟨hu,hv,hb⟩
 ·exact uA.le (uA.le (uA.le (ajE _ _ _ _ _ _ hu hv) (xx ..)) (xx ..)) k.2.1
 ·rcases hu with h|h|⟨j,hj,a,e⟩
  ·subst h;exact uA.le (uA.le (Gc _ _ _ _ _ _ hv hb) (xx ..)) k.2.1
  ·subst h;exact uA.le (Gc _ _ _ _ _ _ hv hb) k.2.1
  ·subst e;exact k.2.2 j hj a v hv hb
end
section
variable (n1:Nat) (f1:be) (n3:Nat) (f3:be) (q:be) (Z x9 Ps Pr Px Q8:Int)
def vD (u v:Int):Prop:=∃i k,i<(ba n1 f1 x9 Ps Q8).length/\k<(ba n3 f3 Pr Px Q8).length/\EY n1 f1 n3 f3 q Z x9 Ps Pr Px Q8 i k=false/\u=av (je (ba n1 f1 x9 Ps Q8) i)/\v=av (je (ba n3 f3 Pr Px Q8) k)
def KG (Q1:Int->Int->Prop) (o:Bool×Int×Int):Prop:=o.1=true∨EV Q1 (λu v=>ij n1 f1 n3 f3 q u v Q8) (λu v=>hU n1 f1 n3 f3 q Z u v Q8) o.2
def Ik (u v:Int) (o:Bool×Int×Int):Prop:=o.1=false/\uA (λu v=>ij n1 f1 n3 f3 q u v Q8) (λu v=>hU n1 f1 n3 f3 q Z u v Q8) u v o.2
theorem ajr {Q1:Int->Int->Prop} {i k:Nat} {o:Bool×Int×Int} (h:KG n1 f1 n3 f3 q Z Q8 Q1 o) (s:EY n1 f1 n3 f3 q Z x9 Ps Pr Px Q8 i k=false->Q1 (av (je (ba n1 f1 x9 Ps Q8) i)) (av (je (ba n3 f3 Pr Px Q8) k))):KG n1 f1 n3 f3 q Z Q8 Q1 (T6 n1 f1 n3 f3 q Z x9 Ps Pr Px Q8 i k o):=by
 unfold T6;cases hk:EY n1 f1 n3 f3 q Z x9 Ps Pr Px Q8 i k with
 |true=>exact h
 |false=>
   have s:=s hk;cases hb:o.1 with
   |true=>exact .inr ⟨⟨_,_,s,(Int.min_self _).symm⟩,⟨_,_,s,(Int.max_self _).symm⟩⟩
   |false=>
     rcases h with h|h
     ·rw[hb]at h;cases h
     ·exact .inr (sD h s)
theorem yau {u v:Int} {i k:Nat} {o:Bool×Int×Int} (h:Ik n1 f1 n3 f3 q Z Q8 u v o):Ik n1 f1 n3 f3 q Z Q8 u v (T6 n1 f1 n3 f3 q Z x9 Ps Pr Px Q8 i k o):=by
 unfold T6;cases hk:EY n1 f1 n3 f3 q Z x9 Ps Pr Px Q8 i k with
 |true=>exact h
 |false=>rw[h.1];exact⟨rfl,uA.le h.2 ⟨Int.min_le_left _ _,Int.le_max_left _ _⟩⟩
theorem akA {i k:Nat} {o:Bool×Int×Int} (hk:EY n1 f1 n3 f3 q Z x9 Ps Pr Px Q8 i k=false):Ik n1 f1 n3 f3 q Z Q8 (av (je (ba n1 f1 x9 Ps Q8) i)) (av (je (ba n3 f3 Pr Px Q8) k)) (T6 n1 f1 n3 f3 q Z x9 Ps Pr Px Q8 i k o):=by
 unfold T6;rw[hk];cases hb:o.1 with
 |true=>exact⟨rfl,⟨Int.min_le_right _ _,Int.le_max_right _ _⟩⟩|false=>exact⟨rfl,⟨Int.min_le_right _ _,Int.le_max_right _ _⟩⟩
theorem auN {i:Nat} (hi:i<(ba n1 f1 x9 Ps Q8).length) {o:Bool×Int×Int} (ho:KG n1 f1 n3 f3 q Z Q8 (vD n1 f1 n3 f3 q Z x9 Ps Pr Px Q8) o):∀ k,k<=(ba n3 f3 Pr Px Q8).length ->
 KG n1 f1 n3 f3 q Z Q8 (vD n1 f1 n3 f3 q Z x9 Ps Pr Px Q8) (Mf n1 f1 n3 f3 q Z x9 Ps Pr Px Q8 i o k) /\
 (∀u v,Ik n1 f1 n3 f3 q Z Q8 u v o->Ik n1 f1 n3 f3 q Z Q8 u v (Mf n1 f1 n3 f3 q Z x9 Ps Pr Px Q8 i o k)) /\
 ∀j,j<k->EY n1 f1 n3 f3 q Z x9 Ps Pr Px Q8 i j=false->Ik n1 f1 n3 f3 q Z Q8 (av (je (ba n1 f1 x9 Ps Q8) i)) (av (je (ba n3 f3 Pr Px Q8) j)) (Mf n1 f1 n3 f3 q Z x9 Ps Pr Px Q8 i o k)
 |0,_=>⟨ho,λ_ _ h=>h,λj hj=>absurd hj (HG j)⟩
 |k+1,hk=>by
   obtain⟨M,N,h3⟩:=auN hi ho k K;refine⟨ajr _ _ _ _ _ _ _ _ _ _ _ M (λs=>⟨i,k,hi,K,s,rfl,rfl⟩),λu v h=>yau _ _ _ _ _ _ _ _ _ _ _ (N u v h),λj hj a=>?_⟩;rcases Nat.lt_succ_iff_lt_or_eq.1 hj with h|h
   ·exact yau _ _ _ _ _ _ _ _ _ _ _ (h3 j h a)
   ·subst h;exact akA _ _ _ _ _ _ _ _ _ _ _ a
theorem amT:∀ i,i<=(ba n1 f1 x9 Ps Q8).length ->
 KG n1 f1 n3 f3 q Z Q8 (vD n1 f1 n3 f3 q Z x9 Ps Pr Px Q8) (YE n1 f1 n3 f3 q Z x9 Ps Pr Px Q8 i) /\
 ∀j k,j<i->k<(ba n3 f3 Pr Px Q8).length->EY n1 f1 n3 f3 q Z x9 Ps Pr Px Q8 j k=false->Ik n1 f1 n3 f3 q Z Q8 (av (je (ba n1 f1 x9 Ps Q8) j)) (av (je (ba n3 f3 Pr Px Q8) k)) (YE n1 f1 n3 f3 q Z x9 Ps Pr Px Q8 i)
 |0,_=>⟨.inl rfl,λj k hj=>absurd hj (HG j)⟩
 |i+1,hi=>by
   obtain⟨M,N⟩:=amT i K;obtain⟨k1,k2,k3⟩:=auN n1 f1 n3 f3 q Z x9 Ps Pr Px Q8 (i:=i) K M _ (D7 _);refine⟨k1,λj k hj hk a=>?_⟩;rcases Nat.lt_succ_iff_lt_or_eq.1 hj with h|h
   ·exact k2 _ _ (N j k h hk a)
   ·subst h;exact k3 k hk a
theorem aup {i k:Nat} (hi:i<=1) (hk:k<=1):EY n1 f1 n3 f3 q Z x9 Ps Pr Px Q8 i k=false:=by unfold EY;rw[show decide (1<(i:Int))=false from eQ K,show decide (1<(k:Int))=false from eQ K];generalize fR n1 f1 n3 f3 _ _ Q8=b;cases b<;>rfl
theorem ahW {i k:Nat} (h:fR n1 f1 n3 f3 (av (je (ba n1 f1 x9 Ps Q8) i)) (av (je (ba n3 f3 Pr Px Q8) k)) Q8=true):EY n1 f1 n3 f3 q Z x9 Ps Pr Px Q8 i k=false:=by unfold EY;rw[h];rfl
theorem iu6 {i k:Nat} (h:EY n1 f1 n3 f3 q Z x9 Ps Pr Px Q8 i k=false):fR n1 f1 n3 f3 (av (je (ba n1 f1 x9 Ps Q8) i)) (av (je (ba n3 f3 Pr Px Q8) k)) Q8=true∨(i<=1/\k<=1):=by
 unfold EY at h;cases hb:fR n1 f1 n3 f3 (av (je (ba n1 f1 x9 Ps Q8) i)) (av (je (ba n3 f3 Pr Px Q8) k)) Q8 with
 |true=>exact .inl rfl
 |false=>
   rw[hb]at h;cases hi:decide (1<(i:Int)) with
   |true=>rw[hi]at h;cases h
   |false=>rw[hi]at h;have h:decide (1<(k:Int))=false:=h;have a:=Dp hi;have b:=Dp h;exact .inr ⟨K,K⟩
theorem sl0:EV (vD n1 f1 n3 f3 q Z x9 Ps Pr Px Q8) (λu v=>ij n1 f1 n3 f3 q u v Q8) (λu v=>hU n1 f1 n3 f3 q Z u v Q8) (jK n1 f1 n3 f3 q Z x9 Ps Pr Px Q8,jP n1 f1 n3 f3 q Z x9 Ps Pr Px Q8) /\
 ∀u v,vD n1 f1 n3 f3 q Z x9 Ps Pr Px Q8 u v->uA (λu v=>ij n1 f1 n3 f3 q u v Q8) (λu v=>hU n1 f1 n3 f3 q Z u v Q8) u v (jK n1 f1 n3 f3 q Z x9 Ps Pr Px Q8,jP n1 f1 n3 f3 q Z x9 Ps Pr Px Q8):=by
 have k:=amT n1 f1 n3 f3 q Z x9 Ps Pr Px Q8 _ (D7 _);have l1:=(qB (Fo f1 (E (1000*x9)) (E (1000*Ps)) Q8) (λi=>E (av (f1 i)*Q8)) (E (1000*x9)) (E (1000*Ps)) n1).1;have l3:=(qB (Fo f3 (E (1000*Pr)) (E (1000*Px)) Q8) (λi=>E (av (f3 i)*Q8)) (E (1000*Pr)) (E (1000*Px)) n3).1;have c:=k.2 0 0 (by unfold ba;omega) (by unfold ba;omega) (aup _ _ _ _ _ _ _ _ _ _ _ K K);refine⟨?_,λu v=>?_⟩
 ·rcases k.1 with h|h
  ·rw[c.1]at h;cases h
  ·exact h
 ·rintro⟨i,j,hi,hj,s,rfl,rfl⟩;exact(k.2 i j hi hj s).2
end
theorem afd (p:Nat->Bool) (w:Nat->Int) (a b x:Int):∀ n,x∈RY p w a b n↔x=a∨x=b∨∃ j,j<n/\p j=true/\x=w j
 |0=>by unfold RY;simp
 |n+1=>by
   have ih:=afd p w a b x n;unfold RY;cases hp:p n with
   |true=>
     simp only[cond_true,Ih,Ib,ih];constructor
     ·rintro ((h|h|⟨j,hj,h⟩)|h)
      ·exact .inl h
      ·exact .inr (.inl h)
      ·exact .inr (.inr ⟨j,K,h⟩)
      ·exact .inr (.inr ⟨n,K,hp,h⟩)
     ·rintro (h|h|⟨j,hj,M,N⟩)
      ·exact .inl (.inl h)
      ·exact .inl (.inr (.inl h))
      ·rcases Nat.lt_succ_iff_lt_or_eq.1 hj with h|h
       ·exact .inl (.inr (.inr ⟨j,h,M,N⟩))
       ·subst h;exact .inr N
   |false=>
     simp only[cond_false,ih];constructor
     ·rintro (h|h|⟨j,hj,h⟩)
      ·exact .inl h
      ·exact .inr (.inl h)
      ·exact .inr (.inr ⟨j,K,h⟩)
     ·rintro (h|h|⟨j,hj,M,N⟩)
      ·exact .inl h
      ·exact .inr (.inl h)
      ·rcases Nat.lt_succ_iff_lt_or_eq.1 hj with h|h
       ·exact .inr (.inr ⟨j,h,M,N⟩)
       ·subst h;rw[hp]at M;cases M
theorem Gs (p:Nat->Bool) (w:Nat->Int) (a b:Int):∀ n,∃ t,RY p w a b n=a::b::t
 |0=>⟨[],rfl⟩
 |n+1=>by
   obtain⟨t,e⟩:=Gs p w a b n;unfold RY;rw[e];cases p n with
   |true=>exact⟨t++[w n],rfl⟩|false=>exact⟨t,rfl⟩
theorem wJ {Qu:List Int} {x:Int}:x∈Qu↔∃ i,i<Qu.length/\x=av (je Qu i):=by
 have e:∀i,av (je Qu i)=Qu.getD i 0:=λi=>rfl;simp only[e];constructor
 ·intro h;obtain⟨i,hi,rfl⟩:=List.getElem_of_mem h;exact⟨i,hi,by rw[I3,EZ hi];rfl⟩
 ·rintro⟨i,hi,rfl⟩;rw[I3,EZ hi];exact List.getElem_mem hi
end
end Go.Dx
