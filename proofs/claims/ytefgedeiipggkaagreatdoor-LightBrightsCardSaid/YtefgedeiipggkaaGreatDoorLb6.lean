/- Part 6 of a proof. No conditions. -/
import Derived.Test.YtefgedeiipggkaaGreatDoorLb5
set_option maxRecDepth 100000
set_option linter.unusedVariables false
set_option linter.unusedSimpArgs false
namespace Go.Dx
open Go.IntKind (i64 u64 u8)
open Go.Sx Go.Proofs
variable (H:Nat) (G:be) (T:Int) (s0:ByteArray) (S:Int) (R:Nat) (N:be) (W U O:Int) (n5:Nat) (q:be) (x5 x6:Int) (n7:Nat) (f7:be) (Z Y:Int) (n9:Nat) (f9:be) (x9:Int) (PS:Nat) (At:be) (Pi:Nat) (Pf:be) (Pm:Nat) (Ph:be) (Pb Pw Ps Pr:Int)
noncomputable section
def ES:bo:=(59,.con ac2)::(23,.con adu)::AV
theorem Co:ba Tryz.prog AQ AS ES:=.con akN (.con fm5 (FO))
def ju:Int:=ji H (A al G) R (A ao N) O n5 (A aZ q) n7 (A bj f7) n9 (A bm f9) PS (A aV At) Pi (A L Pf) Pm (A cg Ph)
def Un:RT Empty:=.obp ((aC H G)/\(aC R N)/\(aC n5 q)/\aC PS At) (.obt (.ret (D (ji H (A al G) R (A ao N) O n5 (A aZ q) n7 (A bj f7) n9 (A bm f9) PS (A aV At) Pi (A L Pf) Pm (A cg Ph)))))
theorem ih4:cV cX (aQ JJ ES u0 hgr [V.agg [V.sl H (A al G),V.sl R (A ao N),D O,V.sl n5 (A aZ q),V.sl n7 (A bj f7),V.sl n9 (A bm f9),V.sl PS (A aV At),V.sl Pi (A L Pf),V.sl Pm (A cg Ph)]]) (Un H G R N O n5 q n7 f7 n9 f9 PS At Pi Pf Pm Ph):=bF
def fza26:Int:=ji H (A al G) R (A ao N) O n5 (A aZ q) n7 (A bj f7) n9 (A bm f9) PS (A aV At) Pi (A L Pf) Pm (A cg Ph)
theorem hz0 (hp:aC H G/\aC R N/\aC n5 q/\aC PS At):aU cN (Un H G R N O n5 q n7 f7 n9 f9 PS At Pi Pf Pm Ph) (D (ju H G R N O n5 q n7 f7 n9 f9 PS At Pi Pf Pm Ph)):=aI hp (ac (AF rfl))
theorem ajL (hp:aC H (A al G)/\aC R (A ao N)/\aC n5 (A aZ q)/\aC PS (A aV At)):aU cN (Un H G R N O n5 q n7 f7 n9 f9 PS At Pi Pf Pm Ph) (D (ju H (A al G) R (A ao N) O n5 (A aZ q) n7 (A bj f7) n9 (A bm f9) PS (A aV At) Pi (A L Pf) Pm (A cg Ph))):=hz0 H G R N O n5 q n7 f7 n9 f9 PS At Pi Pf Pm Ph hp
def ab2:aD:=bP [.agg [.sl al,.sl ao,tI,.sl aZ,.sl bj,.sl bm,.sl aV,.sl L,.sl cg]] (λ
 |[.agg [.sl H G,.sl R N,.int _ O,.sl n5 q,.sl n7 f7,.sl n9 f9,.sl PS At,.sl Pi Pf,.sl Pm Ph]]=>aC H G/\aC R N/\aC n5 q/\aC PS At|_=>False) λ
 |[.agg [.sl H G,.sl R N,.int _ O,.sl n5 q,.sl n7 f7,.sl n9 f9,.sl PS At,.sl Pi Pf,.sl Pm Ph]]=>D (ju H G R N O n5 q n7 f7 n9 f9 PS At Pi Pf Pm Ph)|_=>.any
theorem anL:b7 ab2 10:=aT Co λ_ hp=>c7 (ih4 ..) (ajL _ _ _ _ _ _ _ _ _ _ _ _ _ _ _ _ _ hp)
def P9:RT Empty:=.obp ((aC H G)/\(aC R N)/\(aC n5 q)/\aC PS At) (.obt (.ret (D (ji H (A al G) R (A ao N) O n5 (A aZ q) n7 (A bj f7) n9 (A bm f9) PS (A aV At) Pi (A L Pf) Pm (A cg Ph)))))
theorem m18:cV cX (aQ JJ ES u0 agk [V.agg [V.sl H (A al G),V.sl R (A ao N),D O,V.sl n5 (A aZ q),V.sl n7 (A bj f7),V.sl n9 (A bm f9),V.sl PS (A aV At),V.sl Pi (A L Pf),V.sl Pm (A cg Ph)]]) (P9 H G R N O n5 q n7 f7 n9 f9 PS At Pi Pf Pm Ph):=bF
def evRet:Int:=ji H (A al G) R (A ao N) O n5 (A aZ q) n7 (A bj f7) n9 (A bm f9) PS (A aV At) Pi (A L Pf) Pm (A cg Ph)
theorem hzv (hp:aC H G/\aC R N/\aC n5 q/\aC PS At):aU cN (P9 H G R N O n5 q n7 f7 n9 f9 PS At Pi Pf Pm Ph) (D (ju H G R N O n5 q n7 f7 n9 f9 PS At Pi Pf Pm Ph)):=aI hp (ac (AF rfl))
theorem anI (hp:aC H (A al G)/\aC R (A ao N)/\aC n5 (A aZ q)/\aC PS (A aV At)):aU cN (P9 H G R N O n5 q n7 f7 n9 f9 PS At Pi Pf Pm Ph) (D (ju H (A al G) R (A ao N) O n5 (A aZ q) n7 (A bj f7) n9 (A bm f9) PS (A aV At) Pi (A L Pf) Pm (A cg Ph))):=hzv H G R N O n5 q n7 f7 n9 f9 PS At Pi Pf Pm Ph hp
def adb:aD:=bP [.agg [.sl al,.sl ao,tI,.sl aZ,.sl bj,.sl bm,.sl aV,.sl L,.sl cg]] (λ
 |[.agg [.sl H G,.sl R N,.int _ O,.sl n5 q,.sl n7 f7,.sl n9 f9,.sl PS At,.sl Pi Pf,.sl Pm Ph]]=>aC H G/\aC R N/\aC n5 q/\aC PS At|_=>False) λ
 |[.agg [.sl H G,.sl R N,.int _ O,.sl n5 q,.sl n7 f7,.sl n9 f9,.sl PS At,.sl Pi Pf,.sl Pm Ph]]=>D (ju H G R N O n5 q n7 f7 n9 f9 PS At Pi Pf Pm Ph)|_=>.any
theorem afQ:b7 adb 34:=aT Co λ_ hp=>c7 (m18 ..) (anI _ _ _ _ _ _ _ _ _ _ _ _ _ _ _ _ _ hp)
def abz:RT Empty:=.cb (.iv (.iv (.ii (.ret (V.bool (bif bif tF 4 (A L (b9 [D T,D W,D S,D U] 0 1)) then decide (T<=W) else false then decide (S<=U) else false))))))
theorem np3:cV cX (aQ JJ ES u0 fy6 [V.agg [D T,D S,D W,D U]]) (abz T S W U):=bF
def jb:Bool:=bif bif tF 4 (A L (b9 [D T,D W,D S,D U] 0 1)) then decide (T<=W) else false then decide (S<=U) else false
def R0:V:=.bool (jb T S W U)
theorem agv:aU cN (abz T S W U) (R0 T S W U):=AM (ac (AE (AE (AE (AE (AE (AE (AE (AE (AE (AE (AF (by unfold R0 jb;rfl)))))))))))))
def aaw:aD:=bP [.agg gP] (λ_=>True) λ|[.agg [.int _ T,.int _ S,.int _ W,.int _ U]]=>R0 T S W U|_=>.any
theorem ana:b7 aaw 11:=aT Co λ_ hp=>c7 (np3 ..) (agv _ _ _ _)
def Dn:bo:=(10,.con ab2)::(34,.con adb)::(11,.con aaw)::ES
theorem BU:ba Tryz.prog AQ AS Dn:=.con anL (.con afQ (.con ana (Co)))
def aec:RT Empty:=dm (s0,U) (.obp ((dE (E ((1000000:Int)*E (E (O*O)+E (x5*x5))))=(0:Int)->False)/\(dW (E ((1000000:Int)*E (E (O*O)+E (x5*x5))))=(0:Int)->False)) (.obt (.ret (V.agg [D (iU (E (x6-S)) (E (Y-S)) (E (Z-W)) (E (x9-W)) O x5),D (jp (E (x6-S)) (E (Y-S)) (E (Z-W)) (E (x9-W)) O x5),D (iV (E (x6-S)) (E (Y-S)) (E (Z-W)) (E (x9-W)) O x5),D (jd (E (x6-S)) (E (Y-S)) (E (Z-W)) (E (x9-W)) O x5)]))))
theorem aan:cV cX (aQ JJ Dn u0 alz [V.agg [V.str s0,D S,D W,D U,D O,D x5],V.agg [D x6,D Z,D Y,D x9]]) (aec s0 S W U O x5 x6 Z Y x9):=bF
def jM:Int:=iU (E (x6-S)) (E (Y-S)) (E (Z-W)) (E (x9-W)) O x5
def jP:Int:=jp (E (x6-S)) (E (Y-S)) (E (Z-W)) (E (x9-W)) O x5
def jS:Int:=iV (E (x6-S)) (E (Y-S)) (E (Z-W)) (E (x9-W)) O x5
def jT:Int:=jd (E (x6-S)) (E (Y-S)) (E (Z-W)) (E (x9-W)) O x5
def Si:V:=dm (s0,U) (.agg [D (jM S W O x5 x6 Z Y x9),D (jP S W O x5 x6 Z Y x9),D (jS S W O x5 x6 Z Y x9),D (jT S W O x5 x6 Z Y x9)])
theorem agy (hp:Kz (E (E (O*O)+E (x5*x5)))):aU cN (aec s0 S W U O x5 x6 Z Y x9) (Si s0 S W U O x5 x6 Z Y x9):=aI (by first|assumption|(exact hp)) (ac (AF (by unfold Si jM jP jS jT;rfl)))
def adg:aD:=bP [.agg aV,.agg gP] (λ
 |[.agg [.str s0,.int _ S,.int _ W,.int _ U,.int _ O,.int _ x5],.agg [.int _ x6,.int _ Z,.int _ Y,.int _ x9]]=>Kz (E (E (O*O)+E (x5*x5)))|_=>False) λ
 |[.agg [.str s0,.int _ S,.int _ W,.int _ U,.int _ O,.int _ x5],.agg [.int _ x6,.int _ Z,.int _ Y,.int _ x9]]=>Si s0 S W U O x5 x6 Z Y x9|_=>.any
theorem ajJ:b7 adg 61:=aT BU λ_ hp=>c7 (aan ..) (agy _ _ _ _ _ _ _ _ _ _ hp)
def aa6:RT Empty:=dm (s0,U) (.obp ((((-1000:Int)<=O/\O<=(1000:Int))/\((-1000:Int)<=x5/\x5<=(1000:Int))/\(O≠(0:Int)∨x5≠(0:Int)))/\((-1000000000:Int)<=E (x6-S)/\E (x6-S)<=(1000000000:Int))/\((-1000000000:Int)<=E (Y-S)/\E (Y-S)<=(1000000000:Int))/\((-1000000000:Int)<=E (Z-W)/\E (Z-W)<=(1000000000:Int))/\(-1000000000:Int)<=E (x9-W)/\E (x9-W)<=(1000000000:Int)) (.obt (.ret (V.agg [D (iU (E (x6-S)) (E (Y-S)) (E (Z-W)) (E (x9-W)) O x5),D (jp (E (x6-S)) (E (Y-S)) (E (Z-W)) (E (x9-W)) O x5),D (iV (E (x6-S)) (E (Y-S)) (E (Z-W)) (E (x9-W)) O x5),D (jd (E (x6-S)) (E (Y-S)) (E (Z-W)) (E (x9-W)) O x5)]))))
theorem if5:cV cX (aQ JJ Dn u0 C4 [V.agg [V.str s0,D S,D W,D U,D O,D x5],V.agg [D x6,D Z,D Y,D x9]]) (aa6 s0 S W U O x5 x6 Z Y x9):=bF
def fzb17:Int:=iU (E (x6-S)) (E (Y-S)) (E (Z-W)) (E (x9-W)) O x5
def fza13:Int:=jp (E (x6-S)) (E (Y-S)) (E (Z-W)) (E (x9-W)) O x5
def fzb27:Int:=iV (E (x6-S)) (E (Y-S)) (E (Z-W)) (E (x9-W)) O x5
def iza17:Int:=jd (E (x6-S)) (E (Y-S)) (E (Z-W)) (E (x9-W)) O x5
def jV (x:Int):Prop:=-400000000<=x/\x<=400000000
theorem E6 {a b:Int} (h:jV a) (h':jV b):Bd (E (a-b)):=by
 unfold jV at *
 unfold Bd;rw[AX K K];omega
theorem afU (hp:Hd O x5/\jV S/\jV W/\jV x6/\jV Z/\jV Y/\jV x9):aU cN (aa6 s0 S W U O x5 x6 Z Y x9) (.agg [D (jM S W O x5 x6 Z Y x9),D (jP S W O x5 x6 Z Y x9),D (jS S W O x5 x6 Z Y x9),D (jT S W O x5 x6 Z Y x9)]):=by obtain⟨hd,M,Q,h6,h7,h8,h9⟩:=hp;exact aI ⟨hd,E6 h6 M,E6 h8 M,E6 h7 Q,E6 h9 Q⟩ (ac (AF rfl))
def acJ:aD:=bP [.agg aV,.agg gP] (λ
 |[.agg [.str s0,.int _ S,.int _ W,.int _ U,.int _ O,.int _ x5],.agg [.int _ x6,.int _ Z,.int _ Y,.int _ x9]]=>Hd O x5/\jV S/\jV W/\jV x6/\jV Z/\jV Y/\jV x9|_=>False) λ
 |[.agg [.str s0,.int _ S,.int _ W,.int _ U,.int _ O,.int _ x5],.agg [.int _ x6,.int _ Z,.int _ Y,.int _ x9]]=>.agg [D (jM S W O x5 x6 Z Y x9),D (jP S W O x5 x6 Z Y x9),D (jS S W O x5 x6 Z Y x9),D (jT S W O x5 x6 Z Y x9)]|_=>.any
theorem agN:b7 acJ 56:=aT BU λ_ hp=>c7 (if5 ..) (afU _ _ _ _ _ _ _ _ _ _ hp)
def OC:RT Empty:=.obp ((aC H G)/\(aC R N)/\(aC n5 q)/\aC PS At) (.obt (.obi (.br (ju H (A al G) R (A ao N) O n5 (A aZ q) n7 (A bj f7) n9 (A bm f9) PS (A aV At) Pi (A L Pf) Pm (A cg Ph)==0) (.ob (ju H (A al G) R (A ao N) O n5 (A aZ q) n7 (A bj f7) n9 (A bm f9) PS (A aV At) Pi (A L Pf) Pm (A cg Ph)==0) (.cb (.obi (.br (!!fA Pb) (.ob (!!fA Pb) (.cb (.obi (.br (!!fA Ps) (.ob (!!fA Ps) (.cb (.obi (.br (!!fA Pw) (.ob (!!fA Pw) (.cb (.iv (.iv (.ii (.br (bif bif !fA Pr then true else decide (Ps<Pb) then true else decide (Pr<Pw)) (.ret (D 7)) (.ret (D (ju H (A al G) R (A ao N) O n5 (A aZ q) n7 (A bj f7) n9 (A bm f9) PS (A aV At) Pi (A L Pf) Pm (A cg Ph)))))))))) (.ret (D 7)))))) (.ret (D 7)))))) (.ret (D 7)))))) (.ret (D (ju H (A al G) R (A ao N) O n5 (A aZ q) n7 (A bj f7) n9 (A bm f9) PS (A aV At) Pi (A L Pf) Pm (A cg Ph)))))))
theorem x12:cV cX (aQ JJ Dn u0 agW [V.agg [V.sl H (A al G),V.sl R (A ao N),D O,V.sl n5 (A aZ q),V.sl n7 (A bj f7),V.sl n9 (A bm f9),V.sl PS (A aV At),V.sl Pi (A L Pf),V.sl Pm (A cg Ph)],V.agg [D Pb,D Pw,D Ps,D Pr]]) (OC H G R N O n5 q n7 f7 n9 f9 PS At Pi Pf Pm Ph Pb Pw Ps Pr):=bF
def fza16:Int:=bif ju H (A al G) R (A ao N) O n5 (A aZ q) n7 (A bj f7) n9 (A bm f9) PS (A aV At) Pi (A L Pf) Pm (A cg Ph)==0 then bif !!fA Pb then bif !!fA Ps then bif !!fA Pw then bif bif bif !fA Pr then true else decide (Ps<Pb) then true else decide (Pr<Pw) then 7 else ju H (A al G) R (A ao N) O n5 (A aZ q) n7 (A bj f7) n9 (A bm f9) PS (A aV At) Pi (A L Pf) Pm (A cg Ph) else 7 else 7 else 7 else ju H (A al G) R (A ao N) O n5 (A aZ q) n7 (A bj f7) n9 (A bm f9) PS (A aV At) Pi (A L Pf) Pm (A cg Ph)
theorem abA (a b c d:Int):jb a b c d=(bg a (-100000) 100000&&(bg c (-100000) 100000&&(bg b (-100000) 100000&&(bg d (-100000) 100000&&(decide (a<=c)&&decide (b<=d)))))):=by
 have h:tF 4 (A L (b9 [D a,D c,D b,D d] 0 1))=(bg a (-100000) 100000&&(bg c (-100000) 100000&&(bg b (-100000) 100000&&bg d (-100000) 100000))):=by
  show(!(decide (0<=zO 4 λii=>om (aA (A L (A L (b9 [D a,D c,D b,D d] 0 1)) ii)))))=_;rw[mz];show(!(!(dz 4 λii=>!om (aA (A L (A L (b9 [D a,D c,D b,D d] 0 1)) ii)))))=_;rw[Ez,Fl,uG];simp only[Ae];have PX:∀x,(!om x)=bg x (-100000) 100000:=λx=>Ez _;constructor
  ·intro Pu;exact⟨(PX a).symm.trans (Pu 0 aO),(PX c).symm.trans (Pu 1 aO),(PX b).symm.trans (Pu 2 aO),(PX d).symm.trans (Pu 3 aO)⟩
  ·rintro⟨h0,M,Q,h3⟩ i hi
   match i,hi with
   |0,_=>exact(PX a).trans h0|1,_=>exact(PX c).trans M|2,_=>exact(PX b).trans Q|3,_=>exact(PX d).trans h3
 unfold jb;rw[h];cases bg a (-100000) 100000<;>cases bg c (-100000) 100000<;>cases bg b (-100000) 100000<;>cases bg d (-100000) 100000<;>cases decide (a<=c)<;>cases decide (b<=d)<;>rfl
def eY (e a b c d:Int):Int:=bif e==0 then bif jb a b c d then 0 else 7 else e
theorem i13 (hp:aC H G/\aC R N/\aC n5 q/\aC PS At):aU cN (OC H G R N O n5 q n7 f7 n9 f9 PS At Pi Pf Pm Ph Pb Pw Ps Pr) (D (eY (ju H G R N O n5 q n7 f7 n9 f9 PS At Pi Pf Pm Ph) Pb Pw Ps Pr)):=by
 unfold eY;rw[abA];refine aI hp (ac (AE (AP (λh=>aF h (AM (ac (AE ?_)))) (λh=>AF (by rw[show(ju H G R N O n5 q n7 f7 n9 f9 PS At Pi Pf Pm Ph==0)=false from h];rfl)))));rw[show(ju H G R N O n5 q n7 f7 n9 f9 PS At Pi Pf Pm Ph==0)=true from h];have he:ju H G R N O n5 q n7 f7 n9 f9 PS At Pi Pf Pm Ph=0:=DU h;refine AP (λM=>aF M (AM (ac (AE ?_)))) (λM=>AF (by rw[show bg Pb (-100000) 100000=false from RR M];rfl));rw[show bg Pb (-100000) 100000=true from we M];refine AP (λQ=>aF Q (AM (ac (AE ?_)))) (λQ=>AF (by rw[show bg Ps (-100000) 100000=false from RR Q];rfl));rw[show bg Ps (-100000) 100000=true from we Q];refine AP (λh3=>aF h3 (AM (ac (AE ?_)))) (λh3=>AF (by rw[show bg Pw (-100000) 100000=false from RR h3];rfl));rw[show bg Pw (-100000) 100000=true from we h3];refine AE (AE (AE (AE (AE (AE (AE (AE (AE ?_))))))));have e1:decide (Pb<=Ps)=!decide (Ps<Pb):=by rw[Fl];simp
 have e2:decide (Pw<=Pr)=!decide (Pr<Pw):=by rw[Fl];simp
 have e3:bg Pr (-100000) 100000=fA Pr:=rfl;rw[e1,e2,e3];refine AP (λh4=>AF ?_) (λh4=>AF ?_)
 ·cases h5:fA Pr<;>cases h6:decide (Ps<Pb)<;>cases h7:decide (Pr<Pw)<;>first|rfl|(rw[h5,h6,h7]at h4;cases h4)
 ·refine congrArg (λe=>dj (D e)) (he.trans ?_);cases h5:fA Pr<;>cases h6:decide (Ps<Pb)<;>cases h7:decide (Pr<Pw)<;>first|rfl|(rw[h5,h6,h7]at h4;cases h4)
theorem amh (hp:aC H (A al G)/\aC R (A ao N)/\aC n5 (A aZ q)/\aC PS (A aV At)):aU cN (OC H G R N O n5 q n7 f7 n9 f9 PS At Pi Pf Pm Ph Pb Pw Ps Pr) (D (eY (ju H (A al G) R (A ao N) O n5 (A aZ q) n7 (A bj f7) n9 (A bm f9) PS (A aV At) Pi (A L Pf) Pm (A cg Ph)) Pb Pw Ps Pr)):=i13 H G R N O n5 q n7 f7 n9 f9 PS At Pi Pf Pm Ph Pb Pw Ps Pr hp
def ab7:aD:=bP [.agg [.sl al,.sl ao,tI,.sl aZ,.sl bj,.sl bm,.sl aV,.sl L,.sl cg],.agg gP] (λ
 |[.agg [.sl H G,.sl R N,.int _ O,.sl n5 q,.sl n7 f7,.sl n9 f9,.sl PS At,.sl Pi Pf,.sl Pm Ph],.agg [.int _ Pb,.int _ Pw,.int _ Ps,.int _ Pr]]=>aC H G/\aC R N/\aC n5 q/\aC PS At|_=>False) λ
 |[.agg [.sl H G,.sl R N,.int _ O,.sl n5 q,.sl n7 f7,.sl n9 f9,.sl PS At,.sl Pi Pf,.sl Pm Ph],.agg [.int _ Pb,.int _ Pw,.int _ Ps,.int _ Pr]]=>D (eY (ju H G R N O n5 q n7 f7 n9 f9 PS At Pi Pf Pm Ph) Pb Pw Ps Pr)|_=>.any
theorem alY:b7 ab7 15:=aT BU λ_ hp=>c7 (x12 ..) (amh _ _ _ _ _ _ _ _ _ _ _ _ _ _ _ _ _ _ _ _ _ hp)
theorem Mi {x k:Int} {z:Int×Int×Int} (h:(bif x != 0 then(k,(0:Int),x) else z).2.2=0):x=0/\z.2.2=0:=by
 cases hb:x !=0 with
 |true=>rw[hb]at h;rw[show x=0 from h]at hb;cases hb|false=>rw[hb]at h;exact⟨pU hb,h⟩
structure N6 (x:List V):Prop where
 px:-100000<=aR x/\aR x<=100000
 py:-100000<=bX x/\bX x<=100000
 ph:1<=bf x/\bf x<=200
 hd:Hd (cq x) (bG x)
theorem OJ {v a b:Int} (h:dC v a b=true):a<=v/\v<=b:=by
 unfold dC at h;cases M:decide (a<=v) with
 |false=>rw[M]at h;cases h|true=>rw[M]at h;exact⟨As M,As h⟩
theorem O9 {a b:Bool} (h:(bif a then true else b)=false):a=false/\b=false:=by cases a<;>cases b<;>first|exact⟨rfl,rfl⟩|cases h
theorem ayT {n:Nat} {f:be} {i:Nat} (h:cC n (A aV f) i=0):N6 (f i):=by
 unfold cC R8 at h;obtain⟨_,h⟩:=lP h aO;obtain⟨_,h⟩:=lP h aO;unfold MD at h;obtain⟨M,h⟩:=lP h aO;obtain⟨Q,_⟩:=lP h aO;obtain⟨M,io16⟩:=O9 M;obtain⟨M,io14⟩:=O9 M;obtain⟨M,hh⟩:=O9 M;have M:=Ck M;unfold wj at M;have hx:dC (aR (f i)) (-100000) 100000=true:=dB M 0 aO;have hy:dC (bX (f i)) (-100000) 100000=true:=dB M 1 aO;refine⟨OJ hx,OJ hy,OJ (Ck hh),OJ (Ck io14),OJ (Ck io16),?_⟩;have Q:(bif cq ((f i))==0 then bG ((f i))==0 else false)=false:=Q;cases hb:(cq ((f i))==0) with
 |false=>exact .inl λh=>by rw[h]at hb;cases hb
 |true=>rw[hb]at Q;exact .inr λh=>by have Q:(bG ((f i))==0)=false:=Q;rw[h]at Q;cases Q
structure aoM (H:Nat) (G:be) (R:Nat) (N:be) (O:Int) (n5:Nat) (q:be) (n7:Nat) (f7:be) (n9:Nat) (f9:be) (PS:Nat) (At:be) (Pi:Nat) (Pf:be) (Pm:Nat) (Ph:be):Prop where
 v2:zi H G R N
 v3:ad4 n5 (A aZ q) n7 (A bj f7) n9 (A bm f9) PS (A aV At)
 sf:Bg H G O=0
 ll:Pi=PS
 lu:Pm=PS
 tb:∀i,i<H->qR (G i)
 lm:∀i,i<R->asQ H (N i)
 cl:∀i,i<PS->N6 (At i)
 co:∀i,i<PS->u7 G R N Pf Ph i=0
theorem abn {H:Nat} {G:be} {R:Nat} {N:be} {O:Int} {n5:Nat} {q:be} {n7:Nat} {f7:be} {n9:Nat} {f9:be} {PS:Nat} {At:be} {Pi:Nat} {Pf:be} {Pm:Nat} {Ph:be} (h:ju H G R N O n5 q n7 f7 n9 f9 PS At Pi Pf Pm Ph=0):aoM H G R N O n5 q n7 f7 n9 f9 PS At Pi Pf Pm Ph:=by
 have h:(Wp H G R N O n5 q n7 f7 n9 f9 PS At Pi Pf Pm Ph).2.2=0:=h;unfold Wp at h;obtain⟨M,h⟩:=Mi h;obtain⟨Q,h⟩:=Mi h;obtain⟨h3,h⟩:=Mi h;have M:bW H G R N=0:=M;have V2:=uE M;have V3:=Fx Q;cases hl:E2 PS Pi Pm with
 |true=>rw[hl]at h;cases h
 |false=>rw[hl]at h;obtain⟨e1,e2⟩:=xx hl;exact⟨V2,V3,h3,e1,e2,λi hi=>BE (V2.tb i hi),λi hi=>S2 V2.l0 (V2.lm i hi),λi hi=>ayT (n:=PS) (V3.cl i hi),(lD h).1⟩
def zJ (e z:Int):Int:=bif e==0 then z else 0
theorem aup {a b c d:Int} (h:jb a b c d=true):jV a/\jV b/\jV c/\jV d:=by rw[abA]at h;obtain⟨M,h⟩:=FK h;obtain⟨Q,h⟩:=FK h;obtain⟨h3,h⟩:=FK h;obtain⟨h4,_⟩:=FK h;have M:=wZ (x:=a) M;have Q:=wZ (x:=c) Q;have h3:=wZ (x:=b) h3;have h4:=wZ (x:=d) h4;unfold jV;omega
theorem fn0 {dx dy:Int} (h:Hd dx dy):Kz (E (E (dx*dx)+E (dy*dy))):=rts (JF h)
end
end Go.Dx
namespace Go.Dx
open Go.Sx
section
variable {J:Type}
def Oe:V->cr J->cr J
 |.bool b,.res (.kb _)=>.res (.kb b)|r,_=>.res r
theorem ig5 (r:V) (a:cr J):rz r (Oe r a):=by unfold Oe;split<;>rfl
def rM (r:V):AN (cr J)->AN (cr J)
 |.ret a=>.ret (Oe r a)
 |.br b x y=>match b with|true=>.br true (rM r x) y|false=>.br false x (rM r y)
 |.ob _ x=>.ob true (rM r x)
 |.obi c d x=>match c with|true=>.obi true true (rM r x)|false=>.obi false d (rM r x)
 |.obp _ x=>.obp True (rM r x)|.obq a _ x=>.obq a a (rM r x)|.fail _=>.ret (.res r)|.loop ..=>.ret (.res r)|.all f=>.all λl=>rM r (f l)
 |.und x y=>.und (rM r x) (rM r y)|.asm p x=>.asm p (rM r x)
theorem ib2 {LP:fE} (r:V):∀ t:AN (cr J),bU LP (rM r t) (rz r):=by
 intro t;induction t with
 |ret a=>exact ig5 r a
 |br b x y hx hy=>
   cases b with
   |true=>exact⟨λ_=>hx,(λe=>by cases e)⟩|false=>exact⟨(λe=>by cases e),λ_=>hy⟩
 |ob b x hx=>exact⟨rfl,hx⟩
 |obi c d x hx=>
   cases c with
   |true=>exact⟨λ_=>rfl,hx⟩|false=>exact⟨(λe=>by cases e),hx⟩
 |obp p x hx=>exact⟨trivial,hx⟩|obq a b x hx=>exact⟨rfl,hx⟩|fail n=>exact(rfl:dj r=dj r)|loop fr b e h g k hk=>exact(rfl:dj r=dj r)|all f hf=>exact λl=>hf l
 |und x y hx hy=>exact⟨hx,hy⟩|asm p x hx=>exact λ_=>hx
theorem zG {ct:bo} {un:l7} {w0:World} {sf:aJ} {ds:List V} {r:V} (h:rM r (aQ J ct un sf ds)=aQ J ct un sf ds):bU (dM w0 (SV ct)) (aQ J ct un sf ds) (rz r):=by rw[← h];exact ib2 r _
end
def sj (ts:List Ty) (pre:List V->Bool) (r:List V->V):aD:=λds=>cond (pre (lQ ts ds)) (some ((l9 ts ds [],ma ts ds []),True,r (lQ ts ds))) none
theorem mO {P:Program} {f:FuncId} {ts:List Ty} {pre:List V->Prop} {preB:List V->Bool} {r:List V->V} (h:∀ ds,preB ds=true->pre ds) (hO:(vP (bP ts pre r)).Ok P f):(vP (sj ts preB r)).Ok P f:=by
 refine⟨λB m lh w args vs PR hrel hargs Rh=>?_,λ_ _ _ _ _ hk ⟨ds,d,p,r,M,Q,h3,h4,h5⟩=>⟨ds,d,p,r,M,Q,h3,h4,hk _ _ h5⟩,λ_ _ _ _ ⟨_,_,_,_,_,_,_,_,h⟩=>h⟩;refine hO.sound B m lh w args vs PR hrel hargs ?_
 let ⟨ds,d,p,r',M,Q,⟨SK,h3⟩,h4,h5⟩:=Rh
 unfold sj at Q;cases hb:preB (lQ ts ds) with
 |false=>rw[hb]at Q;cases Q
 |true=>
   rw[hb]at Q;simp only[cond_true,Ak,Prod.mk.injEq]at Q
   let ⟨rfl,rfl,rfl⟩:=Q
   exact⟨ds,_,_,_,M,rfl,⟨SK,h _ hb⟩,h4,h5⟩
def Mj (p:V->V->Bool):List V->List V->Bool
 |[],[]=>true|v::vs,x::xs=>p v x&&Mj p vs xs|_,_=>false
def Sj:Nat->V->V->Bool
 |0,_,_=>false
 |fu+1,v,x=>match v,x with
   |.int k a,.int k' b=>decide (k=k')&&decide (a=b)|.bool a,.bool b=>a==b|.kb a,.bool b=>a==b|.str a,.str b=>decide (a.data.toList=b.data.toList)|.agg xs,.agg ys=>Mj (Sj fu) xs ys|.sl n f,.sl m g=>Nat.beq n m&&dz n λi=>Mj (Sj fu) (f i) (g i)&&(g i).all V.fc
   |.sq n _ f,.sl m g=>Nat.beq n m&&dz n λi=>Mj (Sj fu) (f i) (g i)&&(g i).all V.fc
   |.pd xs,.pd ys=>Nat.beq (cj xs) (cj ys)&&(Mj (Sj fu) xs ys&&ys.all V.fc)|.fn f xs ys,.fn g us ws=>Nat.beq f g&&(Mj (Sj fu) xs us&&Mj (Sj fu) ys ws)|_,_=>false
theorem p8 {w0:World} {lh:List ar} {p:V->V->Bool} (hp:∀ v x a,p v x=true->vr w0 lh Nu.nil v a->vr w0 lh Nu.nil x a):∀ (vs xs:List V) (qs:List ak),Mj p vs xs=true->bK w0 lh Nu.nil vs qs->bK w0 lh Nu.nil xs qs
 |[],[],qs,_,h=>h
 |v::vs,x::xs,qs,h,M=>by simp[Mj,Ae]at h;simp[bK]at M ⊢;obtain⟨y,ys,rfl,Q,h3⟩:=M;exact⟨y,ys,rfl,hp _ _ _ h.1 Q,p8 hp vs xs ys h.2 h3⟩
 |[],_::_,_,h,_=>by simp[Mj]at h
 |_::_,[],_,h,_=>by simp[Mj]at h
theorem rH {w0:World} {lh:List ar}:∀ (fu:Nat) (v x:V) (a:ak),Sj fu v x=true->vr w0 lh Nu.nil v a->vr w0 lh Nu.nil x a
 |0,v,x,a,h,_=>by simp[Sj]at h
 |fu+1,v,x,a,h,hv=>by
   simp only[Sj]at h;split at h
   ·simp only[Ae,DJ]at h;let ⟨rfl,rfl⟩:=h;exact hv
   ·have:=DU h;subst this;exact hv
   ·have:=DU h;subst this;simp only[vr]at hv ⊢;exact hv
   ·rename_i s t
    have h0:=As h;have:s=t:=by
     cases s with|mk d=>
     cases t with|mk e=>
     have:d=e:=Array.toList_inj.1 h0;rw[this]
    subst this;exact hv
   ·simp only[vr]at hv ⊢;obtain⟨qs,rfl,Q⟩:=hv;exact⟨qs,rfl,p8 (λv x a=>rH fu v x a) _ _ _ h Q⟩
   ·simp only[Ae]at h
    have hn:=Ap h.1;subst hn;simp only[vr]at hv ⊢
    let ⟨p,c,esz,M,Q,h3,h4,h5⟩:=hv
    refine⟨p,c,esz,M,Q,h3,h4,λi hi=>?_⟩
    let ⟨PX,qs,g1,g2,g3,g4⟩:=h5 i hi
    have hh:=dB h.2 i hi;simp only[Ae]at hh;exact⟨PX,qs,g1,g2,p8 (λv x a=>rH fu v x a) _ _ _ hh.1 g3,hh.2⟩
   ·simp only[Ae]at h
    have hn:=Ap h.1;subst hn;simp only[vr]at hv ⊢
    let ⟨p,c,esz,M,Q,h3,h4,h5⟩:=hv
    refine⟨p,c,esz,M,Q.1,h3,h4,λi hi=>?_⟩
    let ⟨PX,qs,g1,g2,g3,g4⟩:=h5 i hi
    have hh:=dB h.2 i hi;simp only[Ae]at hh;exact⟨PX,qs,g1,g2,p8 (λv x a=>rH fu v x a) _ _ _ hh.1 g3,hh.2⟩
   ·simp only[Ae]at h
    have hn:=Ap h.1;rw[ca,ca]at hn;simp only[vr]at hv ⊢
    let ⟨p,qs,M,Q,h3,h4,h5⟩:=hv
    exact⟨p,qs,M,Q,by rw[← hn];exact h3,p8 (λv x a=>rH fu v x a) _ _ _ h.2.1 h4,h.2.2⟩
   ·simp only[Ae]at h
    have hn:=Ap h.1;subst hn;simp only[vr]at hv ⊢
    let ⟨us,vs,M,Q,h3⟩:=hv
    exact⟨us,vs,M,p8 (λv x a=>rH fu v x a) _ _ _ h.2.1 Q,p8 (λv x a=>rH fu v x a) _ _ _ h.2.2 h3⟩
   ·cases h
def gO:List (List V×V)->aD
 |[],_=>none|(ex,r)::l,ds=>cond (Mj (Sj 8) ds ex) (some (([],[]),True,r)) (gO l ds)
theorem BY {P:Program} {f:FuncId} {C:aD} (hO:(vP C).Ok P f):∀ (l:List (List V×V)),(∀ e∈l,∃ d p,C e.1=some (d,p,e.2)/\d.1=d.2/\p)->(vP (gO l)).Ok P f:=by
 intro l hl;refine⟨λB m lh w args vs PR hrel hargs Rh=>?_,λ_ _ _ _ _ hk ⟨ds,d,p,r,M,Q,h3,h4,h5⟩=>⟨ds,d,p,r,M,Q,h3,h4,hk _ _ h5⟩,λ_ _ _ _ ⟨_,_,_,_,_,_,_,_,h⟩=>h⟩;refine hO.sound B m lh w args vs PR hrel hargs ?_;obtain⟨ds,d,p,r',M,Q,_,h4,h5⟩:=Rh;induction l with
 |nil=>simp[gO]at Q
 |cons e l ih=>
   simp[gO]at Q;cases hb:Mj (Sj 8) ds e.1 with
   |true=>rw[hb]at Q;simp[cond_true,Ak,Prod.mk.injEq]at Q;obtain⟨_,_,rfl⟩:=Q;obtain⟨d',p',e1,e2,e3⟩:=hl e (Eh ..);exact⟨e.1,d',p',_,p8 (λv x a=>rH 8 v x a) _ _ _ hb M,e1,⟨e2,e3⟩,h4,h5⟩
   |false=>rw[hb]at Q;exact ih (λe he=>hl e (Do _ he)) Q
theorem Ke {ts:List Ty} {pre:List V->Prop} {r:List V->V} {raw:List V} {res:V} (hp:pre (lQ ts (ap ts raw))) (hr:r (lQ ts (ap ts raw))=res):∃ d p,bP ts pre r (ap ts raw)=some (d,p,res)/\d.1=d.2/\p :=
 ⟨_,_,by rw[bP,hr],gI ts raw [],hp⟩
theorem Wt {α:Type} {a:α} {l:List α} {Pg:α->Prop} (h:Pg a) (hl:∀ e∈l,Pg e):∀ e∈a::l,Pg e:=λe he=>by
 rcases List.mem_cons.1 he with rfl|he
 ·exact h
 ·exact hl e he
theorem VO {α:Type} {Pg:α->Prop}:∀e∈([]:List α),Pg e:=λe he=>by cases he
end Go.Dx
namespace Go.Dx
open Go.IntKind (i64 u64 u8)
open Go.Sx Go.Proofs
variable (H:Nat) (G:be) (T S:Int) (R:Nat) (N:be) (W U O:Int) (n5:Nat) (q:be) (x5 x6:Int) (n7:Nat) (f7:be) (n9:Nat) (f9:be) (PS:Nat) (At:be) (Pi:Nat) (Pf:be) (Pm:Nat) (Ph:be) (Pb:Int) (RL:ByteArray) (Ps Pr Py Pz QQ:Int)
noncomputable section
def uB:l7:=λ_=>1000
def fz13 (n:Nat) (f:be):Bool:=dz n λi=>Nat.ble (sv (av (f i))).size 9223372036854775807
theorem po {n:Nat} {f:be} (h:fz13 n f=true):aC n f:=λi hi=>Bf (dB h i hi)
def P6:Nat->List V
 |0=>[.str ⟨#[119,105,100,101]⟩,.sl 3 (λ|0=>[D (-1000)]|1=>[D 0]|_=>[D 2000]),.sl 2 (λ|0=>[D (-1000)]|_=>[D 1000]),.sl 3 (λ|0=>[.sl 2 (λ|0=>[D 100]|_=>[D 300])]|1=>[.sl 2 (λ|0=>[D 200]|_=>[D 600])]|_=>[.sl 2 (λ|0=>[D 0]|_=>[D 100])]),D 50,D 5]|_=>[.str ⟨#[97,115,112,104,97,108,116]⟩,.sl 2 (λ|0=>[D (-5000)]|_=>[D 5000]),.sl 2 (λ|0=>[D (-5000)]|_=>[D 5000]),.sl 2 (λ|0=>[.sl 2 (λ|0=>[D 700]|_=>[D 700])]|_=>[.sl 2 (λ|0=>[D 700]|_=>[D 700])]),D 0,D 0]
def P5:Nat->List V:=λ_=>[.str ⟨#[104,101,97,100]⟩,D 0,D 1,D 8000,D 60000,D 500,D 50,D 2,D 4,D 3,D 5,D 100000,D 200,D 0]
def U2:Nat->List V:=λ_=>[.str ⟨#[104,105,103,104]⟩,D 0,.sl 3 (λ|0=>Au|1=>[D 10000,D 0]|_=>[D 10000,D 10000]),D 4000]
def Oz:Nat->List V:=λ_=>[.str ⟨#[99]⟩,D 0,D 0,D 80,D 0,D 1]
abbrev Ir:=[D 0,D 0,D 1000]
def smS:V:=.agg [.sl 2 P6,.sl 1 P5,D 1,.sl 1 U2,.sl 0 U2,.sl 0 U2,.sl 1 Oz,.sl 1 (λ_=>[D 0]),.sl 1 λ_=>Ir]
def f16:List Ty:=[.agg [.sl al,.sl ao,tI,.sl aZ,.sl bj,.sl bm,.sl aV,.sl L,.sl cg]]
def azL:aD:=gO [(ap f16 [smS],.tup Fb)]
theorem iu0:(vP azL).Ok Tryz.prog 23:=BY fm5 _ (Wt (Ke (ts:=f16) (raw:=[smS]) (⟨po bD,po bD,po bD,po bD⟩) bD) (VO))
def hag:List Ty:=[.agg [.sl al,.sl ao]]
def yaU:aD:=gO [(ap hag [.agg [.sl 2 P6,.sl 1 P5]],.tup Fb)]
theorem aak:(vP yaU).Ok Tryz.prog 49:=BY hdd _ (Wt (Ke (ts:=hag) (raw:=[.agg [.sl 2 P6,.sl 1 P5]]) (⟨po bD,po bD⟩) bD) (VO))
def aqj:List Ty:=[.agg [.sl aZ,.sl bj,.sl bm,.sl aV]]
def as8:aD:=gO [(ap aqj [.agg [.sl 1 U2,.sl 0 U2,.sl 0 U2,.sl 1 Oz]],.tup Fb)]
theorem aue:(vP as8).Ok Tryz.prog 50:=BY auV _ (Wt (Ke (ts:=aqj) (raw:=[.agg [.sl 1 U2,.sl 0 U2,.sl 0 U2,.sl 1 Oz]]) (⟨po bD,po bD⟩) bD) (VO))
def rX:bo:=(61,.con adg)::(56,.con acJ)::(15,.con ab7)::Dn
theorem qi:ba Tryz.prog AQ AS rX:=.con ajJ (.con agN (.con alY (BU)))
def ade:RT Empty:=dm (H,G,R,N,O,n5,q,n7,f7,n9,f9,PS,At,Pi,Pf,Pm,Ph,Pb,RL,Ps,Pr,Pz,QQ) (.ret (D (E (100*Py))))
theorem ix4:cV cX (aQ JJ rX u0 yaT [V.agg [V.sl H (A al G),V.sl R (A ao N),D O,V.sl n5 (A aZ q),V.sl n7 (A bj f7),V.sl n9 (A bm f9),V.sl PS (A aV At),V.sl Pi (A L Pf),V.sl Pm (A cg Ph),D Pb,V.str RL,D Ps,D Pr,D Py,D Pz,D QQ]]) (ade H G R N O n5 q n7 f7 n9 f9 PS At Pi Pf Pm Ph Pb RL Ps Pr Py Pz QQ):=bF
def im:Int:=E (100*Py)
def O3:V:=dm (H,G,R,N,O,n5,q,n7,f7,n9,f9,PS,At,Pi,Pf,Pm,Ph,Pb,RL,Ps,Pr,Pz,QQ) (D (im Py))
theorem alE:aU cN (ade H G R N O n5 q n7 f7 n9 f9 PS At Pi Pf Pm Ph Pb RL Ps Pr Py Pz QQ) (O3 H G R N O n5 q n7 f7 n9 f9 PS At Pi Pf Pm Ph Pb RL Ps Pr Py Pz QQ):=AF (by unfold O3 im;rfl)
def acf:aD:=bP [.agg [.sl al,.sl ao,tI,.sl aZ,.sl bj,.sl bm,.sl aV,.sl L,.sl cg,tI,.str,tI,tI,tI,tI,tI]] (λ_=>True) λ|[.agg [.sl H G,.sl R N,.int _ O,.sl n5 q,.sl n7 f7,.sl n9 f9,.sl PS At,.sl Pi Pf,.sl Pm Ph,.int _ Pb,.str RL,.int _ Ps,.int _ Pr,.int _ Py,.int _ Pz,.int _ QQ]]=>O3 H G R N O n5 q n7 f7 n9 f9 PS At Pi Pf Pm Ph Pb RL Ps Pr Py Pz QQ|_=>.any
theorem afO:b7 acf 26:=aT qi λ_ hp=>c7 (ix4 ..) (alE _ _ _ _ _ _ _ _ _ _ _ _ _ _ _ _ _ _ _ _ _ _ _ _)
def abG:RT Empty:=.ret (V.agg [D T,D T])
theorem rdL:cV cX (aQ JJ rX u0 alJ [D T]) (abG T):=bF
def NA:V:=.agg [D T,D T]
theorem ag9:aU cN (abG T) (NA T):=AF (by unfold NA ; rfl)
def M4:aD:=bP L (λ_=>True) λ|[.int _ T]=>NA T|_=>.any
theorem hW':b7 M4 181:=aT qi λ_ hp=>c7 (rdL ..) (ag9 _)
def acS:RT Empty:=.obp (nz (E (x5-O))) (.obt (.obp (nz (E (x5-O))) (.obt (.ret (V.agg [D (fS (E (E (T*E (x5-x6))+E (W*E (x6-O)))) (E (x5-O))),D (iA (E (E (S*E (x5-x6))+E (U*E (x6-O)))) (E (x5-O)))])))))
theorem rkB:cV cX (aQ JJ rX u0 ald [V.agg [D T,D S],V.agg [D W,D U],D O,D x5,D x6]) (acS T S W U O x5 x6):=bF
def ml:Int:=fS (E (E (T*E (x5-x6))+E (W*E (x6-O)))) (E (x5-O))
def mn:Int:=iA (E (E (S*E (x5-x6))+E (U*E (x6-O)))) (E (x5-O))
def Ip:V:=.agg [D (ml T W O x5 x6),D (mn S U O x5 x6)]
theorem am7 (hp:E (x5-O)≠0):aU cN (acS T S W U O x5 x6) (Ip T S W U O x5 x6):=aI (by first|assumption|(exact hp)) (ac (aI (by first|assumption|(exact hp)) (ac (AF (by unfold Ip ml mn;rfl)))))
def abR:aD:=bP [.agg aM,.agg aM,tI,tI,tI] (λ
 |[.agg [.int _ T,.int _ S],.agg [.int _ W,.int _ U],.int _ O,.int _ x5,.int _ x6]=>E (x5-O)≠0|_=>False) λ
 |[.agg [.int _ T,.int _ S],.agg [.int _ W,.int _ U],.int _ O,.int _ x5,.int _ x6]=>Ip T S W U O x5 x6|_=>.any
theorem hfn:b7 abR 180:=aT qi λ_ hp=>c7 (rkB ..) (am7 _ _ _ _ _ _ _ hp)
def fh1:RT Empty:=.obp (nz 1000000) (.obt (.obp (nz 1000) (.obt (.obp (nz 1000) (.obt (.ret (D (fS (E (fS (E (fS (E (T*max (E (1000000-E (S*U))) 0)) 1000000*max (E (1000-E (W*O))) 0)) 1000*x5)) 1000))))))))
theorem ic2:cV cX (aQ JJ rX u0 hfr [D T,D S,D W,V.agg [D U,D O,D x5],V.fn 96 [] []]) (fh1 T S W U O x5):=bF
def pM:Int:=fS (E (fS (E (fS (E (T*max (E (1000000-E (S*U))) 0)) 1000000*max (E (1000-E (W*O))) 0)) 1000*x5)) 1000
def GD:V:=D (pM T S W U O x5)
theorem ih3:aU cN (fh1 T S W U O x5) (GD T S W U O x5):=aI (by first|assumption|(decide)) (ac (aI (by first|assumption|(decide)) (ac (aI (by first|assumption|(decide)) (ac (AF (by unfold GD pM;rfl)))))))
def hc2:aD:=bP [tI,tI,tI,.agg cg,.fn 96 [] []] (λ_=>True) λ|[.int _ T,.int _ S,.int _ W,.agg [.int _ U,.int _ O,.int _ x5],.fn _ [] []]=>GD T S W U O x5|_=>.any
theorem ix9:b7 hc2 152:=aT qi λ_ hp=>c7 (ic2 ..) (ih3 _ _ _ _ _ _)
def hel:RT Empty:=.obp (nz 1000000) (.obt (.obp (nz 1000) (.obt (.obp (nz 1000) (.obt (.ret (D (iA (E (iA (E (iA (E (T*max (E (1000000-E (S*U))) 0)) 1000000*max (E (1000-E (W*O))) 0)) 1000*x5)) 1000))))))))
theorem hvj:cV cX (aQ JJ rX u0 hfr [D T,D S,D W,V.agg [D U,D O,D x5],V.fn 97 [] []]) (hel T S W U O x5):=bF
def pP:Int:=iA (E (iA (E (iA (E (T*max (E (1000000-E (S*U))) 0)) 1000000*max (E (1000-E (W*O))) 0)) 1000*x5)) 1000
def FY:V:=D (pP T S W U O x5)
theorem smC:aU cN (hel T S W U O x5) (FY T S W U O x5):=aI (by first|assumption|(decide)) (ac (aI (by first|assumption|(decide)) (ac (aI (by first|assumption|(decide)) (ac (AF (by unfold FY pP;rfl)))))))
def hfa:aD:=bP [tI,tI,tI,.agg cg,.fn 97 [] []] (λ_=>True) λ|[.int _ T,.int _ S,.int _ W,.agg [.int _ U,.int _ O,.int _ x5],.fn _ [] []]=>FY T S W U O x5|_=>.any
theorem nc1:b7 hfa 152:=aT qi λ_ hp=>c7 (hvj ..) (smC _ _ _ _ _ _)
def amZ:List V->Bool
 |[_,_,_,_,.fn n _ _]=>Nat.beq n (match (.fn 96 [] []:V) with|.fn k _ _=>k|_=>0)|_=>false
def SA:aD:=JI amZ hc2 hfa
theorem hbm:(vP SA).Ok Tryz.prog 152:=HD _ _ _ ix9 nc1
theorem yR {b:Int} (h:(b !=0)=true):b≠0:=by simpa using h
def hci:List V->Bool
 |[.int _ T,.int _ S]=>S !=0|_=>false
def fe5:aD:=sj aM hci λ|[.int _ T,.int _ S]=>Fo T S|_=>.any
theorem aao:(vP fe5).Ok Tryz.prog 96:=mO (λds h=>by
 unfold hci at h;split at h
 ·exact yR h
 ·cases h) he'
def fh8:List V->Bool
 |[.agg [.int _ T,.int _ S]]=>S !=0|_=>false
def hap:aD:=sj [.agg aM] fh8 λ|[.agg [.int _ T,.int _ S]]=>DW T S|_=>.any
theorem nc6:(vP hap).Ok Tryz.prog 29:=mO (λds h=>by
 unfold fh8 at h;split at h
 ·exact yR h
 ·cases h) yaO
def fw6:List V->Bool
 |[.int _ T,.int _ S]=>S !=0|_=>false
def hge:aD:=sj aM fw6 λ|[.int _ T,.int _ S]=>J5 T S|_=>.any
theorem ih2:(vP hge).Ok Tryz.prog 97:=mO (λds h=>by
 unfold fw6 at h;split at h
 ·exact yR h
 ·cases h) hbv
def hfo:List V->Bool
 |[.agg [.int _ T,.int _ S]]=>S !=0|_=>false
def f26:aD:=sj [.agg aM] hfo λ|[.agg [.int _ T,.int _ S]]=>Jq T S|_=>.any
theorem np6:(vP f26).Ok Tryz.prog 31:=mO (λds h=>by
 unfold hfo at h;split at h
 ·exact yR h
 ·cases h) azK
def hb1:List V->Bool
 |[.sl H G]=>Nat.ble 1 H|_=>false
def fp7:aD:=sj [.sl L] hb1 λ|[.sl H G]=>D (ga H G)|_=>.any
theorem iy8:(vP fp7).Ok Tryz.prog 70:=mO (λds h=>by
 unfold hb1 at h;split at h
 ·exact Bf h
 ·cases h) fd9
def azX:List V->Bool
 |[.sl H G]=>Nat.ble 1 H|_=>false
def fp4:aD:=sj [.sl L] azX λ|[.sl H G]=>D (g9 H G)|_=>.any
theorem okP:(vP fp4).Ok Tryz.prog 69:=mO (λds h=>by
 unfold azX at h;split at h
 ·exact Bf h
 ·cases h) hC'
def ybc:List V->Bool
 |[.agg [.int _ T,.int _ S],.agg [.int _ W,.int _ U],.int _ O,.int _ x5,.int _ x6]=>E (x5-O)!=0|_=>false
def evM:aD:=sj [.agg aM,.agg aM,tI,tI,tI] ybc λ|[.agg [.int _ T,.int _ S],.agg [.int _ W,.int _ U],.int _ O,.int _ x5,.int _ x6]=>Ip T S W U O x5 x6|_=>.any
theorem m73:(vP evM).Ok Tryz.prog 180:=mO (λds h=>by
 unfold ybc at h;split at h
 ·exact yR h
 ·cases h) hfn
end
end Go.Dx
namespace Go.Dx
open Go.Sx
theorem bk.unhideG {B:dN} {m m':aN} {lh new:List ar} {w w':World} {X:List Nat} (h:bk B m lh w)
 (h':bk ⟨B.w0,w,λb=>∃k cs ty,k∉X/\lh[k]? = some (.cells cs ty)/\m k=some b,B.ds⟩ m' (hide X lh++new) w') (he:jI (hide X lh) m (hide X lh++new) m') :
 bk B m' (lh++new) w'/\jI lh m (lh++new) m':=by
 have hent:∀ k o,(lh++new)[k]? = some o->((hide X lh++new)[k]? = some o)∨(k∈X/\lh[k]? = some o/\(hide X lh++new)[k]? = some .hid):=λk o hk=>by
  rw[E1]at hk;split at hk
  ·rename_i Pj
   rw[BF (by rw[Go.Sx.hide_length];exact Pj),Go.Sx.hide_get];by_cases hX:k∈X
   ·rw[Ad hX,hk];exact .inr ⟨hX,rfl,rfl⟩
   ·rw[AU hX];exact .inl hk
  ·rename_i Sf;left;rw[DD (by rw[Go.Sx.hide_length];omega),Go.Sx.hide_length];exact hk
 have hnoown:∀k cs ty b,k∈X->lh[k]? = some (.cells cs ty)->m k=some b->¬ ∃j cs ty,j∉X/\lh[j]? = some (ar.cells cs ty)/\m j=some b:=λk cs ty b hX hk hb ⟨j,cs',ty',hj,hl,QX⟩=>by exact hj (h.inj j k b cs' cs ty' ty hl hk QX hb▸hX)
 refine⟨⟨h'.os.trans h.os,h'.tape.trans h.tape,h'.output.trans h.output,h'.size,h'.old,E0 h.fsize h'.fsize,λb hb ho=>?_,λk cs ty hk=>?_,λk k' b cs cs' ty ty' M Q hb QX=>?_,λk hk=>?_,λk hk=>?_,h'.rng⟩,he.1,λk hk=>?_⟩
 ·rw [h'.kept b (ET hb h.fsize) (λ⟨k,cs,ty,_,hl,hm⟩=>?_)]
  ·exact h.kept b hb ho
  ·let ⟨b',_,QX,_,_,_,h3⟩:=h.loc k cs ty hl
   rw[hm]at QX;cases QX;rcases h3 with h3|h3
   ·omega
   ·exact ho h3
 ·rcases hent k _ hk with hl|⟨hX,hl,_⟩
  ·let ⟨b,vs,hb,Qh,hh,M,Q⟩:=h'.loc k cs ty hl
   refine⟨b,vs,hb,Qh,hh,M,?_⟩;rcases Q with Q|⟨j,cs',ty',hj,Vd,rj⟩
   ·exact .inl (E0 h.fsize Q)
   ·let ⟨b',_,QX,_,_,_,h3⟩:=h.loc j cs' ty' Vd
    rw[rj]at QX;cases QX;exact h3
  ·let ⟨b,vs,hb,Qh,hh,M,Q⟩:=h.loc k cs ty hl
   refine⟨b,vs,he.1 _ _ hb,dc he.1 _ _ Qh,?_,M,Q⟩;rw[h'.kept b (h.rng k b hb) (hnoown k cs ty b hX hl hb)];exact hh
 ·have mixed:∀ k k' b cs cs' ty ty',(hide X lh++new)[k]? = some (.cells cs ty)->k'∈X->lh[k']? = some (.cells cs' ty')->m' k=some b->m' k'=some b->False:=λk k' b cs cs' ty ty' hl hX RO hb QX=>by
   let ⟨b0,_,RZ,_⟩:=h.loc k' cs' ty' RO
   have e:=he.1 _ _ RZ;rw[QX]at e;cases e
   let ⟨b1,_,Rq,_,_,_,Q⟩:=h'.loc k cs ty hl
   rw[hb]at Rq;cases Rq;rcases Q with Q|Q
   ·have h3:=h.rng k' b RZ;have h4:w.heap.size<=b:=Q;omega
   ·exact hnoown k' cs' ty' b hX RO RZ Q
  rcases hent k _ M with hl|⟨hX,hl,_⟩<;>rcases hent k' _ Q with RO|⟨Ww,RO,_⟩
  ·exact h'.inj k k' b cs cs' ty ty' hl RO hb QX
  ·exact(mixed k k' b cs cs' ty ty' hl Ww RO hb QX).elim
  ·exact(mixed k' k b cs' cs ty' ty RO hX hl QX hb).elim
  ·let ⟨b0,_,RZ,_⟩:=h.loc k cs ty hl
   let ⟨b1,_,Rq,_⟩:=h.loc k' cs' ty' RO
   have e:=he.1 _ _ RZ;rw[hb]at e;cases e;have e:=he.1 _ _ Rq;rw[QX]at e;cases e;exact h.inj k k' b cs cs' ty ty' hl RO RZ Rq
 ·exact h'.dom k (by rw[Du]at hk ⊢;rw[Go.Sx.hide_length];exact hk)
 ·rcases hent k _ hk with hl|⟨hX,hl,RO⟩
  ·exact h'.dead k hl
  ·have hd:=h.dead k hl
   have hh:(hide X lh)[k]? = some .hid:=by rw[Go.Sx.hide_get,Ad hX,hl];rfl
   rw[(he.2 k hh).2];exact hd
 ·have hh:(hide X lh)[k]? = some .hid:=by
   rw[Go.Sx.hide_get];split
   ·rw[hk];rfl
   ·exact hk
  let ⟨M,Q⟩:=he.2 k hh
  exact⟨by rw[BF (List.getElem?_eq_some_iff.1 hk).1];exact hk,Q⟩
mutual
def eH:V->Prop
 |.int ..|.bool _|.kb _|.str _|.any=>True|.agg cs|.tup cs=>iP cs|.sl n f=>∀i,i<n->iP (f i)|_=>False
def iP:List V->Prop
 |[]=>True|v::vs=>eH v/\iP vs
end
theorem ie4:∀ (r v:V),eH r->dj v=dj r->v.fc=true->r.fc=true
 |.int ..,_,_,_,_=>rfl|.bool _,_,_,_,_=>rfl|.kb _,_,_,_,_=>rfl|.str _,_,_,_,_=>rfl|.any,_,_,_,_=>rfl|.sl ..,_,_,_,_=>rfl|.agg _,v,_,h,hf=>by cases v<;>first|(simp[dj]at h;done)|(cases hf;done)
 |.tup _,v,_,h,hf=>by cases v<;>first|(simp[dj]at h;done)|(cases hf;done)
 |.fn ..,_,hg,_,_=>by simp[eH]at hg
 |.pd ..,_,hg,_,_=>rfl|.pl ..,_,hg,_,_=>rfl|.pe ..,_,hg,_,_=>rfl|.ss ..,_,hg,_,_=>rfl|.gs ..,_,hg,_,_=>rfl|.ns,_,hg,_,_=>rfl|.np,_,hg,_,_=>rfl|.gd ..,_,hg,_,_=>by simp[eH]at hg
 |.yl ..,_,hg,_,_=>by simp[eH]at hg
 |.go ..,_,hg,_,_=>rfl|.sq ..,_,hg,_,_=>rfl
theorem aAn:∀ (rs vs:List V),iP rs->dl vs=dl rs->vs.all V.fc=true->rs.all V.fc=true
 |[],_,_,_,_=>rfl|r::rs,[],_,h,_=>by simp[dl]at h
 |r::rs,v::vs,hg,h,hf=>by simp[dl,Cc]at h;simp[iP]at hg;simp only[Dj,Ae]at hf ⊢;exact⟨ie4 r v hg.1 h.1 hf.1,aAn rs vs hg.2 h.2 hf.2⟩
section
variable {w0:World} {lh:List ar}
mutual
theorem eqA:∀ (r v:V) (a:ak),eH r->dj v=dj r->vr w0 lh Nu.nil v a->vr w0 lh Nu.nil r a
 |.int k n,v,a,_,h,hv=>by cases v<;>simp only[dj]at h<;>cases h;exact hv
 |.bool b,v,a,_,h,hv=>by cases v<;>simp[dj]at h<;>cases h<;>(simp[vr]at hv ⊢;exact hv)
 |.kb b,v,a,_,h,hv=>by cases v<;>simp[dj]at h<;>cases h<;>(simp[vr]at hv ⊢;exact hv)
 |.str s,v,a,_,h,hv=>by cases v<;>simp[dj]at h<;>cases h;exact hv
 |.any,v,a,_,_,_=>by simp[vr]
 |.agg cs,v,a,hg,h,hv=>by
   cases v<;>simp[dj,ak.agg.injEq]at h<;>first|(cases h;done)|skip
   simp[eH]at hg;simp[vr]at hv ⊢
   let ⟨az,e,hv⟩:=hv
   exact⟨az,e,W8 cs _ az hg h hv⟩
 |.tup cs,v,a,hg,h,hv=>by
   cases v<;>simp[dj,ak.tup.injEq]at h<;>first|(cases h;done)|skip
   simp[eH]at hg;simp[vr]at hv ⊢
   let ⟨az,e,hv⟩:=hv
   exact⟨az,e,W8 cs _ az hg h hv⟩
 |.sl n f,v,a,hg,h,hv=>by
   cases v<;>first|(simp[dj]at h;done)|skip
   let ⟨rfl,Qo⟩:=HL h
   simp[eH]at hg;simp only[vr]at hv ⊢
   let ⟨p,c,esz,M,Q,h3,h4,h5⟩:=hv
   refine⟨p,c,esz,M,Q,h3,h4,λi hi=>?_⟩
   let ⟨PX,az,g1,g2,g3,g4⟩:=h5 i hi
   exact⟨PX,az,g1,g2,W8 (f i) _ az (hg i hi) (Qo i hi) g3,aAn _ _ (hg i hi) (Qo i hi) g4⟩
 |.fn ..,_,_,hg,_,_=>by simp[eH]at hg
 |.pd ..,_,_,hg,_,_=>by simp[eH]at hg
 |.pl ..,_,_,hg,_,_=>by simp[eH]at hg
 |.pe ..,_,_,hg,_,_=>by simp[eH]at hg
 |.ss ..,_,_,hg,_,_=>by simp[eH]at hg
 |.gs ..,_,_,hg,_,_=>by simp[eH]at hg
 |.ns,_,_,hg,_,_=>by simp[eH]at hg
 |.np,_,_,hg,_,_=>by simp[eH]at hg
 |.gd ..,_,_,hg,_,_=>by simp[eH]at hg
 |.yl ..,_,_,hg,_,_=>by simp[eH]at hg
 |.go ..,_,_,hg,_,_=>by simp[eH]at hg
 |.sq ..,_,_,hg,_,_=>by simp[eH]at hg
theorem W8:∀ (rs vs:List V) (az:List ak),iP rs->dl vs=dl rs->bK w0 lh Nu.nil vs az->bK w0 lh Nu.nil rs az
 |[],vs,az,_,h,hv=>by
   cases vs with
   |nil=>exact hv|cons v vs=>simp[dl]at h
 |r::rs,vs,az,hg,h,hv=>by
   cases vs with
   |nil=>simp[dl]at h
   |cons v vs=>
     simp[dl,Cc]at h;simp[iP]at hg;simp[bK]at hv ⊢
     let ⟨x,xs,e,M,Q⟩:=hv
     exact⟨x,xs,e,eqA r v x hg.1 h.1 M,W8 rs vs xs hg.2 h.2 Q⟩
end
end
def MF:V->V
 |.sq n _ f=>.sl n f|v=>v
def K5:V->V
 |.agg cs=>.agg (cs.map MF)|.tup cs=>.tup (cs.map MF)|v=>MF v
theorem anU {w0:World} {lh:List ar} {ν:Nu} {v:V} {a:ak} (h:vr w0 lh ν v a):vr w0 lh ν (MF v) a:=by
 unfold MF;split
 ·simp only[vr]at h ⊢
  let ⟨p,c,esz,M,Q,h3,h4,h5⟩:=h
  exact⟨p,c,esz,M,Q.1,h3,h4,h5⟩
 ·exact h
theorem yu {w0:World} {lh:List ar} {ν:Nu}:∀ {vs:List V} {qs:List ak},bK w0 lh ν vs qs->bK w0 lh ν (vs.map MF) qs
 |[],qs,h=>by simp[bK,Ft]at h ⊢;exact h
 |v::vs,qs,h=>by
   simp[bK,DX]at h ⊢
   let ⟨x,xs,e,M,Q⟩:=h
   exact⟨x,xs,e,anU M,yu Q⟩
theorem akl {w0:World} {lh:List ar} {ν:Nu} {v:V} {a:ak} (h:vr w0 lh ν v a):vr w0 lh ν (K5 v) a:=by
 unfold K5;split
 ·simp[vr]at h ⊢
  let ⟨qs,e,h⟩:=h
  exact⟨qs,e,yu h⟩
 ·simp[vr]at h ⊢
  let ⟨qs,e,h⟩:=h
  exact⟨qs,e,yu h⟩
 ·exact anU h
theorem HR.fz (w0:World) (l:List ar):HR w0 ⟨λ_=>Option.none,l⟩ 0 0 [] l:=⟨λk o h=>by simp at h,λk k' x x' _ _ h=>by(cases h),λ_ _=>rfl,λ_ _ h=>by(cases h),ni _,λ_ _ _ h=>by(cases h)⟩
theorem hzs {l l1:List ar} {m m1:aN} (hz:w6 l l1) (he:jI l m l1 m1) (hl:∀ (k:Nat) (o:ar),l[k]? = some o->o=.hid∨∃ az ty,o=.cells az ty):l1=l++l1.drop l.length:=by
 have hp:∀ k o,l[k]? = some o->l1[k]? = some o:=λk o hk=>by
  rcases hl k o hk with rfl|⟨az,ty,rfl⟩
  ·exact(he.2 k hk).1
  ·exact hz k az ty hk
 apply ED;intro k;rw[E1];split
 ·rename_i Pj;have:l[k]? = some l[k]:=Ds Pj;rw[hp k _ this,this]
 ·rename_i Sf;rw[EU];congr 1;omega
theorem afq {α:Type} {P:Program} {AQ:List TypeId} {AS:List jc} {ct:bo} {f:FuncId} {fn:Func} {sf:aJ} {un:l7} {C:aD} {K0:V->List AD->AN α} {Q0:V->α->Prop} (hK0:∀ w0 r v h,bU (dM w0 (SV ct)) (K0 v h) (Q0 r)->UJ (rQ h [v])/\dj (K5 (tK h v))=dj r) (hT:ba P AQ AS ct) (hE:∀ t∈AQ,dL P t) (hI:mD P AQ AS) (hf:P.funcs[f]? = some fn)
 (hn : (fn.name == "runtime.NumGoroutine") = false) (hc : eS P AQ AS fn = some sf) (hd : gp sf.ntmps sf.body = true) (hg : ∀ ds d p r, C ds = some (d, p, r) -> d.1 = d.2 -> p -> eH r)
 (h:∀w0 ds d p r,C ds=some (d,p,r)->d.1=d.2->p->bU (dM w0 (SV ct)) (oZ (oQ ct LV) (ot ct) un LV sf ds [] K0) (Q0 r)):(vZ C).Ok P f:=by
 refine⟨λB m lh w args vs PR hrel hargs Rh=>?_,λ_ _ _ _ _ hk ⟨ds,d,p,r,X,M,Q,h3,h4,h5,h6⟩=>⟨ds,d,p,r,X,M,Q,h3,h4,h5,λx new hx=>hk _ _ (h6 x new hx)⟩,λ_ _ _ _ ⟨_,_,_,_,_,_,_,_,_,⟨x,new,hx⟩,h6⟩=>h6 x new hx⟩
 let ⟨ds,d,p,r,X,M,hX,Q,⟨SK,h3⟩,_,h6⟩:=Rh
 have hs:=LO (Sp:=λw0 args l PR=>∃ ds d p r,bK w0 l Nu.nil ds args/\C ds=some (d,p,r)/\(d.1=d.2/\p)/\∀ x l',w6 l l'->vr w0 l' Nu.nil r x->PR x l') (hT.ok hE hI LV) hE hI hf hn hc (λw0 args l PR hw ha ⟨ds,d,p,r,k1,k2,⟨k30,k3⟩,k4⟩=>by
  refine sM (ν:=⟨λ_=>none,l⟩) (nV:=0) (nS:=0) (qn w0 ct hT.dst LV) (qD w0 ct _ LV) hd (iM (λk x h=>by cases h) ds args k1) (HR.fz w0 l) (h w0 ds d p r k2 k30 k3) λv h' ν' a lh' q0 q1 q2 q3=>?_
  let ⟨b1,b2⟩:=hK0 _ _ _ _ q3
  have hh:=q1 0 0
  have hv:bK w0 lh' Nu.nil [tK h' v] [a]:=tc hh b1 (by simp only[bK];exact⟨_,_,rfl,q2,rfl⟩)
  simp only[bK]at hv
  let ⟨x,xs,e,hv,_⟩:=hv
  cases e
  exact⟨a,lh',.inl ⟨rfl,(⟨.inr rfl,trivial⟩:nq [_] [_])⟩,k4 a lh' (qq q0.2 hh.zl) (eqA _ _ _ (hg _ _ _ _ k2 k30 k3) b2 (akl hv))⟩)
 let ⟨e1,e2⟩:=hs _ m (hide X lh) w args vs (λr' l'=>w6 (hide X lh) l'/\vr B.w0 l' Nu.nil r r') (hrel.hide X) hargs ⟨ds,d,p,r,M,Q,⟨SK,h3⟩,λx l' hz hx=>⟨hz,hx⟩⟩
 refine⟨e1,e2.mono λybe w' ⟨v,r',m1,l1,he,hv,hext,hr,hz,hx⟩=>?_⟩
 have hfull:=hzs hz hext λk o hk=>by
  rw[Go.Sx.hide_get]at hk
  split at hk
  ·cases hg:lh[k]? with
   |none=>rw[hg]at hk;cases hk
   |some o'=>rw[hg]at hk;cases hk;exact .inl rfl
  ·rename_i iz10
   rcases hX k iz10 with hc|hc
   ·right
    rw[hk]at hc
    cases o with
    |cells az ty=>exact⟨az,ty,rfl⟩
    |_=>cases hc
   ·rw[D1 hc]at hk;cases hk
 generalize l1.drop (hide X lh).length=new at hfull
 subst hfull
 let ⟨g1,g2⟩:=bk.unhideG hrel hr hext
 exact⟨v,r',m1,lh++new,he,hv,g2,g1,h6 r' new hx⟩
theorem apq {P:Program} {f:FuncId} {e:Nat} {ty:TypeId} {C:aD} (h:(vL e ty C).Ok P f) (hL:∀ ds d p r,C ds=some (d,p,r)->d.1=d.2->p->Yr e r/\∃ n f,r=.sl n f/\∀ i,i<n->(f i).all V.fc=true):(vN C).Ok P f:=by
 refine⟨λB m lh w args vs PR hrel hargs ⟨ds,d,p,r,M,Q,h3,h5,h6⟩=>?_,λ_ _ _ _ _ hk ⟨ds,d,p,r,M,Q,h3,h4,h5⟩=>⟨ds,d,p,r,M,Q,h3,h4,λx new hx=>hk _ _ (h5 x new hx)⟩,λw0 _ lh _ ⟨_,_,_,_,_,_,_,h4,h5⟩=>let ⟨x,new,hx⟩:=h4 w0 lh;h5 x new hx⟩;obtain⟨ho,n,f,rfl,Xv⟩:=hL _ _ _ _ Q h3.1 h3.2;have UM:=ho
 let ⟨n',f',hl,hmax,Qo,_⟩:=UM
 simp[rn,Ak,Prod.mk.injEq]at hl
 let ⟨rfl,rfl⟩:=hl
 refine h.sound B m lh w args vs PR hrel hargs ⟨ds,d,p,_,n,f,M,Q,h3,rfl,ho,λx new hx=>?_⟩;show PR x (lh++new);refine h6 x new ?_;simp only[vr];rcases hx with ⟨rfl,rfl⟩|⟨b,c,az,hb,SG,rfl,Zg,TS,hall⟩
 ·exact⟨none,0,e,rfl,Ah _,hmax,trivial,λi hi=>absurd hi (Fj _)⟩
 ·have hbl':(List.replicate lh.length ar.dead++new)[b]? = some (.cells az ty):=by
   rw[DD (by simpa using hb)];rw[DD hb]at SG;simpa using SG
  refine⟨some (.l b 0),c,e,rfl,TS,hmax,⟨az,ty,hbl',Bc _⟩,λi hi=>⟨.l b 0,dl (f i),rfl,?_,(fJ (Qo i hi).2 _).2 rfl,Xv i hi⟩⟩;have Qm:i*e+e<=az.length:=by rw[Zg,← DO];exact DY e K
  show lds B.w0 _ (.l b (0+i*e)) e=_;rw[DZ];simp only[lds,hbl'];rw[Ad Qm,hall i hi]
theorem fa1 {e n:Nat} {f:be} (ho:Yr e (.sl n f)) (Xv:∀ i,i<n->(f i).all V.fc=true):IW (.sl n f):=λw0 lh=>by
 let ⟨n',f',hl,hmax,Qo,_⟩:=ho
 simp[rn,Ak,Prod.mk.injEq]at hl
 let ⟨rfl,rfl⟩:=hl
 let ⟨M,Q⟩:=BC (e:=e) (f:=f) (n:=n) λi hi=>by rw[xZ];exact(oz (Qo i hi).1).1
 refine⟨.slice (some (.l lh.length 0)) n n,[.cells ((List.range n).flatMap λi=>dl (f i)) 0],?_⟩;simp only[vr];have hbl':(List.replicate lh.length ar.dead++[ar.cells ((List.range n).flatMap λi=>dl (f i)) 0])[lh.length]? = some (.cells ((List.range n).flatMap λi=>dl (f i)) 0):=by rw[DD au];simp
 refine⟨some (.l lh.length 0),n,e,rfl,Ah _,hmax,⟨_,0,hbl',Bc _⟩,λi hi=>⟨.l lh.length 0,dl (f i),rfl,?_,(fJ (Qo i hi).2 _).2 rfl,Xv i hi⟩⟩;have Qm:i*e+e<=n*e:=by rw[← DO];exact DY e K
 show lds w0 _ (.l lh.length (0+i*e)) e=_;rw[DZ];simp only[lds,hbl'];rw[Ad (by rw[M];exact Qm),Q i hi]
theorem axu {P:Program} {f:FuncId} {e:Nat} {ty:TypeId} {C:aD} (h:(vL e ty C).Ok P f) (hL:∀ ds d p r,C ds=some (d,p,r)->d.1=d.2->p->Yr e r/\∃ n f,r=.sl n f/\∀ i,i<n->(f i).all V.fc=true):(vN C).Ok P f/\∀ ds d p r,C ds=some (d,p,r)->d.1=d.2->p->IW r :=
 ⟨apq h hL,λds d p r M Q h3=>by obtain⟨ho,n,f,rfl,Xv⟩:=hL ds d p r M Q h3;exact fa1 ho Xv⟩
end Go.Dx
namespace Go.Dx
open Go.Sx
section
variable {J:Type}
def VR (J:Type) (ct:bo) (un:l7) (sf:aJ) (ds:List V):AN (cr J):=oZ (oQ ct LV) (ot ct) un LV sf ds [] λv h=>IV (rQ h [v]) (.ret (.res (K5 (tK h v))))
theorem ng6 {P:Program} {AQ:List TypeId} {AS:List jc} {ct:bo} {f:FuncId} {fn:Func} {sf:aJ} {un:l7} {ts:List Ty} {pre:List V->Prop} {r:List V->V} (hT:ba P AQ AS ct) (hE:∀ t∈AQ,dL P t) (hI:mD P AQ AS) (hf:P.funcs[f]? = some fn)
 (hn : (fn.name == "runtime.NumGoroutine") = false) (hc : eS P AQ AS fn = some sf) (hd : gp sf.ntmps sf.body = true) (ho : gS ts = true) (hg : ∀ ds, pre (ap ts ds) -> eH (r (ap ts ds)))
 (h:∀w0 ds,pre (ap ts ds)->bU (dM w0 (SV ct)) (VR J ct un sf (ap ts ds)) (rz (r (ap ts ds)))):(vZ (bP ts pre r)).Ok P f:=by
 refine⟨λB m lh w args vs PR hrel hargs Rh=>?_,λ_ _ _ _ _ hk ⟨ds,d,p,r,X,M,Q,h3,h4,h5,h6⟩=>⟨ds,d,p,r,X,M,Q,h3,h4,h5,λx new hx=>hk _ _ (h6 x new hx)⟩,λ_ _ _ _ ⟨_,_,_,_,_,_,_,_,_,⟨x,new,hx⟩,h6⟩=>h6 x new hx⟩
 let ⟨ds,d,p,r',X,M,hX,Q,⟨SK,h3⟩,h5,h6⟩:=Rh
 simp only[bP,Ak,Prod.mk.injEq]at Q
 let ⟨rfl,rfl,rfl⟩:=Q
 have SH:=(kz ts ds [] [] ho SK).1
 rw[(ik ts ds [] [] SK).1]at h3 h5 h6
 have key2:=afq (C:=λds'=>some ((ds',ap ts ds),pre (ap ts ds),r (ap ts ds))) (P:=P) (f:=f) (un:=un) (K0:=λv h=>IV (rQ h [v]) (AN.ret (cr.res (J:=J) (K5 (tK h v))))) (Q0:=rz (J:=J)) (λw0 r v h hs=>⟨(yV hs).1,by have Q:=(yV hs).2;simp[bU,rz]at Q;exact Q⟩) hT hE hI hf hn hc hd (λds' d' p' r' e he hp=>by
  simp only[Ak,Prod.mk.injEq]at e
  let ⟨rfl,rfl,rfl⟩:=e
  exact hg ds hp) (λw0 ds' d' p' r' e he hp=>by
  simp only[Ak,Prod.mk.injEq]at e
  let ⟨rfl,rfl,rfl⟩:=e
  simp only at he
  subst he
  exact h w0 ds hp)
 exact key2.sound B m lh w args vs PR hrel hargs ⟨ap ts ds,_,_,_,X,fZ ts ds args SH M,hX,rfl,⟨rfl,h3⟩,h5,h6⟩
theorem ajS {ts:List Ty} {pre:List V->Prop} {r:List V->V} (hL:∀ ds,bQ ts ds->pre (ap ts ds)->∀ w0 lh args,bK w0 lh Nu.nil (ap ts ds) args->∃ x new,vr w0 (lh++new) Nu.nil (r (ap ts ds)) x) (ho:gS ts=true):∀ ds d p r',bP ts pre r ds=some (d,p,r')->d.1=d.2->p->∀ w0 lh args,bK w0 lh Nu.nil ds args->∃ x new,vr w0 (lh++new) Nu.nil r' x:=by
 intro ds d p r' h M Q w0 lh args ha;simp only[bP,Ak,Prod.mk.injEq]at h
 let ⟨rfl,rfl,rfl⟩:=h
 have SH:=(kz ts ds [] [] ho M).1;rw[(ik ts ds [] [] M).1]at Q ⊢;exact hL ds SH Q w0 lh args (fZ ts ds args SH ha)
end
theorem Hg {w0:World} {lh:List ar} {e n:Nat} {f:be} (hn:n<=9223372036854775807) (Qo:∀ i,i<n->nX e (f i)=true/\(dl (f i)).all bM=true/\(f i).all V.fc=true):∃ x new,vr w0 (lh++new) Nu.nil (.sl n f) x:=by
 let ⟨x,new,hx⟩:=fa1 (e:=e) (n:=n) (f:=f) ⟨n,f,rfl,hn,λi hi=>⟨(Qo i hi).1,(Qo i hi).2.1⟩,by simp[GA,dl]⟩ (λi hi=>(Qo i hi).2.2) w0 lh
 refine⟨x,new,nJ (λk az ty hk=>?_) _ x hx⟩;rw[E1]at hk;split at hk
 ·rename_i Pj;simp at Pj;simp[Pj]at hk
 ·rename_i Sf;simp at Sf;rw[DD Sf];simpa using hk
end Go.Dx
namespace Go.Dx
open Go.IntKind (i64 u64 u8)
open Go.Sx Go.Proofs
variable (H:Nat) (G:be) (T:Int) (s0:ByteArray) (n1:Nat) (f1:be) (S W:Int) (n3:Nat) (f3:be) (U O:Int) (n5:Nat) (q:be) (x5 Z Y:Int) (n9:Nat) (f9:be) (x9 PV:Int) (PS:Nat) (At:be) (PT Pk Po Pt:Int)
noncomputable section
def LY:bo:=(26,.con acf)::(181,.con M4)::(180,.con abR)::(152,.con SA)::rX
theorem ar9:ba Tryz.prog AQ AS LY:=.con afO (.con hW' (.con hfn (.con hbm (qi))))
inductive vX where|L0 (_:Int) (_:Nat) (_:be)
def yaj:vX->bT×List AD×Option Ex
 |.L0 PW R1 XY=>([(9,D PW),(8,D (H:Int)),(7,V.sl H (A L G)),(4,V.gs 0 R1),(1,V.pd [D W])],[AD.gl 1 R1 (A L XY) 3],none)
def akg:vX->JJ
 |.L0 ..=>(0,[])
def yaV:AN (cr JJ):=Tk JJ 1 3 LY u0 aiq [V.sl H (A L G),V.pd [D W]]
def S68 (cx:List Cx):Lp JJ:=eX (eC (yaV H G W) [])
def amw:JJ->Lp JJ
 |(0,cx)=>S68 H G W cx|(_,cx)=>S68 H G W cx
def aqz:LD JJ vX:=⟨akg,amw H G W,yaj H G W⟩
def C1:vX->RT vX
 |.L0 PW R1 XY=>.br (decide (PW<(H:Int))) (.ob (dI PW H) (.obt (.ob (decide (R1<=R1/\(R1+1)*8<=140737488355328)&&!Nat.beq 8 0) (.next [some (some 2)] (vX.L0 (E (PW+1)) (R1+1) (bc R1 (A L XY) λx=>[D (E (aA (G PW.toNat)*W))])) [⟨0,L,R1+1,bc R1 (A L XY) λx=>[D (E (aA (G PW.toNat)*W))],gj (aL rfl _ _) (EE rfl _ rfl)⟩])))) (.ob (decide (R1<=R1)) (.ret (V.sl R1 (A L XY))))
def NV:RT vX:=dm (G,W) (.am H (.enter [some none] (vX.L0 0 0 (λi=>[])) []))
theorem u60:d0 LY u0 (aqz H G W) (yaV H G W) (NV H G W) (C1 H G W):=⟨bF,λs=>by cases s<;>exact bF⟩
def dh (h:Int):Nat->List V:=λi=>[D (E (aA (G i)*h))]
theorem Cj {n:Nat} {f g:be} (h:∀i,i<n->dl (f i)=dl (g i)):dj (.sl n f)=dj (.sl n g):=by simp only[dj];congr 1;exact Iu λi hi=>by rw[h i (List.mem_range.1 hi)]
theorem x22 {ts:List Ty} {pre:List V->Prop} {r:List V->V} {Pg:V->Prop} (hL:∀ds,pre (ap ts ds)->Pg (r (ap ts ds))):∀ds d p r',bP ts pre r ds=some (d,p,r')->d.1=d.2->p->Pg r':=by intro ds d p r' h M Q;simp only[bP,Ak,Prod.mk.injEq]at h;obtain⟨rfl,rfl,rfl⟩:=h;rw[(ik ts ds [] [] M).1]at Q ⊢;exact hL ds Q
theorem Jg {a b:Nat} (h:a<b):Nat.blt a b=true:=EC h
theorem Q7 {a b:Nat} (h:b<=a):Nat.blt a b=false:=by
 cases hb:Nat.blt a b with
 |false=>rfl|true=>have:=Bf hb;omega
theorem aoR (kJ:H<=1000):∀ k,k<=H->∀ f:be,(∀ j,j<k->ap L (f j)=dh G W j)->Ev (C1 H G W) (.L0 (k:Int) k f) (.sl H (A L (dh G W))):=by
 refine dv λk hk ih f hf=>?_;refine Ev.of rfl ?_;by_cases Pj:k<H
 ·have W6:E ((k:Int)+1)=((k+1:Nat):Int):=by rw[AX K K];omega
  refine cO (AG K) (aF (AG K) (ac (aF ?_ (aK ?_))))
  ·simp only[Ae];exact⟨AG ⟨Ah _,K⟩,rfl⟩
  ·rw [W6,Bt]
   refine ih Pj _ λj hj=>?_;unfold bc;by_cases Y1:j<k
   ·rw[Jg Y1];show ap _ (ap _ (f j))=_;rw[eb];exact hf j Y1
   ·have:j=k:=by omega
    subst this;rw[Q7 (Ah _)];rfl
 ·have e:k=H:=by omega
  subst e;refine cW (eM K) (aF (AG (Ah _)) (AF ?_));exact Cj λi hi=>by show dl (ap _ (f i))=dl (ap _ (dh G W i));rw[hf i hi];rfl
theorem hus (hp:H<=1000):aU (Ev (C1 H G W)) (NV H G W) (.sl H (A L (dh G W))):=bC λ_=>aH (aoR H G W hp 0 (Bc _) _ λj hj=>absurd hj (Fj _))
theorem ajQ (hp:H<=1000):aU (Ev (C1 H G W)) (NV H G W) (.sl H (A L (dh (A L G) W))):=hus H G W hp
def sho:List Ty:=[.sl L,.pd L]
def ast:List V->Prop
 |[.sl H _,.pd [.int _ _]]=>H<=1000|_=>False
def aoV:List V->V
 |[.sl H G,.pd [.int _ W]]=>.sl H (A L (dh G W))|_=>.any
def Fa:aD:=bP sho ast aoV
theorem xB (f:be) (h:Int) (i:Nat):nX 1 (A L (dh f h) i)=true/\(dl (A L (dh f h) i)).all bM=true/\(A L (dh f h) i).all V.fc=true:=by refine⟨rfl,?_,rfl⟩;show(dl [D _]).all bM=true;simp only[dl,dj,Dj,bM,List.all_nil,JA]
theorem ail:∀ds d p r,Fa ds=some (d,p,r)->d.1=d.2->p->Yr 1 r/\∃n f,r=.sl n f/\∀i,i<n->(f i).all V.fc=true:=x22 (Pg:=λr=>Yr 1 r/\∃n f,r=.sl n f/\∀i,i<n->(f i).all V.fc=true) λds hp=>by have hp:aw (av ds)<=1000:=hp;exact⟨⟨_,_,rfl,(by omega:aw (av ds)<=9223372036854775807),λi hi=>⟨(xB _ _ i).1,(xB _ _ i).2.1⟩,(by simp only[dl,List.all_nil]:(dl []).all bM=true)⟩,_,_,rfl,λi hi=>(xB _ _ i).2.2⟩
theorem axf:(vL 1 3 Fa).Ok Tryz.prog 123:=azH ar9 Tryz.func123 bD λds hp=>kt (u60 ..) (ajQ _ _ _ hp)
theorem af4:(vN Fa).Ok Tryz.prog 123:=apq axf ail
theorem ix1:∀ds d p r,Fa ds=some (d,p,r)->d.1=d.2->p->IW r:=(axu axf ail).2
def HN:bo:=(123,.conN Fa ix1)::LY
theorem avy:ba Tryz.prog AQ AS HN:=.conN af4 (ar9)
def acy:RT Empty:=.obp (n1<=(1000:Nat)) (.obp (n3<=(1000:Nat)) (.ret (V.agg [V.str s0,V.sl n1 (A L f1),V.sl n3 (A L f3),V.sl n5 (A [Ty.sl L] q),D Z,D Y,V.sl n1 (A L (dh (A L f1) x9)),V.sl n3 (A L (dh (A L f3) x9)),D x9])))
theorem orC:cV cX (VR JJ HN u0 amz [V.agg [V.str s0,V.sl n1 (A L f1),V.sl n3 (A L f3),V.sl n5 (A [Ty.sl L] q),D Z,D Y],D x9]) (acy s0 n1 f1 n3 f3 n5 q Z Y x9):=bF
theorem ap2 {ct:bo} {f:FuncId} {fn:Func} {sf:aJ} {un:l7} {ts:List Ty} {pre:List V->Prop} {r:List V->V} (hT:ba Tryz.prog AQ AS ct) (hf:Tryz.prog.funcs[f]? = some fn) (hk:JE fn sf ts=(false,some sf,true,true)) (hg:∀ ds,pre (ap ts ds)->eH (r (ap ts ds))) (h:∀ ds,pre (ap ts ds)->Ie ct (VR JJ ct un sf (ap ts ds)) (r (ap ts ds))):(vZ (bP ts pre r)).Ok Tryz.prog f :=
 ng6 (J:=JJ) (un:=un) hT hE hI hf (fw hk).1 (fw hk).2.1 (fw hk).2.2.1 (fw hk).2.2.2 hg λw0 ds hp=>h ds hp hT.dst w0
def B6:List Ty:=[.agg al,tI]
def aaL:List V->Prop
 |[.agg [.str _,.sl n1 _,.sl n3 _,.sl _ _,.int _ _,.int _ _],.int _ _]=>n1<=1000/\n3<=1000|_=>False
def Q3:List V->V
 |[.agg [.str s0,.sl n1 f1,.sl n3 f3,.sl n5 q,.int k7 Z,.int k8 Y],.int _ x9]=>.agg [.str s0,.sl n1 f1,.sl n3 f3,.sl n5 q,.int k7 Z,.int k8 Y,.sl n1 (A L (dh f1 x9)),.sl n3 (A L (dh f3 x9)),D x9]|_=>.any
def Nj:aD:=bP B6 aaL Q3
theorem amr (hp:n1<=1000/\n3<=1000):aU cN (acy s0 n1 f1 n3 f3 n5 q Z Y x9) (.agg [V.str s0,V.sl n1 (A L f1),V.sl n3 (A L f3),V.sl n5 (A [Ty.sl L] q),D Z,D Y,V.sl n1 (A L (dh (A L f1) x9)),V.sl n3 (A L (dh (A L f3) x9)),D x9]):=aI hp.1 (aI hp.2 (AF rfl))
theorem nW (vs:List V):iP (ap L vs):=by show iP [V.int _ _];simp only[iP,eH,and_self]
theorem hqa (vs:List V):iP (ap [Ty.sl L] vs):=by show iP [V.sl (aw (av vs)) (A L (bz (av vs)))];simp only[iP,eH,and_true];exact λi hi=>nW _
theorem hsv (ds:List V):eH (Q3 (ap B6 ds)):=by show eH (.agg [V.str _,V.sl _ (A L _),V.sl _ (A L _),V.sl _ (A [Ty.sl L] _),V.int _ _,V.int _ _,V.sl _ (A L _),V.sl _ (A L _),V.int _ _]);simp only[eH,iP,D5,and_true];exact⟨λi hi=>nW _,λi hi=>nW _,λi hi=>hqa _,λi hi=>nW _,λi hi=>nW _⟩
theorem awp:∀ ds d p r,Nj ds=some (d,p,r)->d.1=d.2->p->∀ w0 lh args,bK w0 lh Nu.nil ds args->∃ x new,vr w0 (lh++new) Nu.nil r x:=ajS (λds SH hp w0 lh args ha=>by
 have hp:aw (av (I (eD (av ds))))<=1000/\aw (av (I (I (eD (av ds)))))<=1000:=hp;change bK w0 lh Nu.nil [V.agg [V.str _,V.sl _ _,V.sl _ _,V.sl _ _,V.int _ _,V.int _ _],V.int _ _] args at ha;simp only[bK]at ha;obtain⟨a,as1,rfl,M,b,bs,rfl,Q,rfl⟩:=ha;rw[vr.eq_5]at M;obtain⟨cs,rfl,M⟩:=M;simp only[bK]at M;obtain⟨c0,_,rfl,g0,c1,_,rfl,g1,c2,_,rfl,g2,c3,_,rfl,g3,c4,_,rfl,g4,yaz,_,rfl,g5,rfl⟩:=M;obtain⟨x6,yY,g6⟩:=Hg (w0:=w0) (lh:=lh) (e:=1) (n:=aw (av (I (eD (av ds))))) (f:=A L (dh (A L (bz (av (I (eD (av ds)))))) (aR ds))) K λi hi=>xB _ _ i;obtain⟨Z,yao,ybl⟩:=Hg (w0:=w0) (lh:=lh++yY) (e:=1) (n:=aw (av (I (I (eD (av ds)))))) (f:=A L (dh (A L (bz (av (I (I (eD (av ds))))))) (aR ds))) K λi hi=>xB _ _ i;have z:∀(l t:List ar),w6 l (l++t):=λl t k as1 ty hk=>by rw[BF (List.getElem?_eq_some_iff.1 hk).1];exact hk
 have up:∀v a,vr w0 lh Nu.nil v a->vr w0 (lh++(yY++yao)) Nu.nil v a:=λv a h=>nJ (z _ _) v a h;refine⟨.agg [c0,c1,c2,c3,c4,yaz,x6,Z,ak.int .i64 (aR ds)],yY++yao,?_⟩;show vr w0 _ Nu.nil (.agg [V.str _,V.sl _ _,V.sl _ _,V.sl _ _,V.int _ _,V.int _ _,V.sl _ _,V.sl _ _,V.int _ _]) _;rw[vr.eq_5];simp only[bK];refine⟨_,rfl,_,_,rfl,up _ _ g0,_,_,rfl,up _ _ g1,_,_,rfl,up _ _ g2,_,_,rfl,up _ _ g3,_,_,rfl,up _ _ g4,_,_,rfl,up _ _ g5,_,_,rfl,?_,_,_,rfl,?_,_,_,rfl,?_,rfl⟩
 ·rw[← IA];exact nJ (z _ _) _ _ g6
 ·rw[← IA];exact ybl
 ·simp only[vr]) rfl
theorem hf':(vZ Nj).Ok Tryz.prog 65:=ap2 avy Tryz.func65 bD (λds _=>hsv ds) λds hp=>c7 (orC ..) (amr _ _ _ _ _ _ _ _ _ _ hp)
def pk:bo:=(243,.inl S3 u0)::(65,.conZ Nj awp)::HN
theorem m4:ba Tryz.prog AQ AS pk:=iz Tryz.func243 bD (.conZ hf' (avy))
def ab6:RT Empty:=.br (T !=T) (.ob (T !=T) (.ii (.obi (.ret (V.bool (bif !S !=S then true else decide (T<S))))))) (.ret (V.bool (decide (T<S))))
theorem iw1:cV cX (aQ JJ pk u0 fe3 [D T,D S]) (ab6 T S):=bF
def qj:Bool:=bif T !=T then bif !S !=S then true else decide (T<S) else decide (T<S)
def Ih:V:=.bool (qj T S)
theorem aff:aU cN (ab6 T S) (Ih T S):=AP (λh0=>aF (by first|assumption|(fail)) (AE (AE (AE (AF (by unfold Ih qj;try rw[h0];rfl)))))) (λh0=>AF (by unfold Ih qj;try rw[h0];rfl))
def acO:aD:=bP aM (λ_=>True) λ|[.int _ T,.int _ S]=>Ih T S|_=>.any
theorem aho:b7 acO 227:=aT m4 λ_ hp=>c7 (iw1 ..) (aff _ _)
def acd:RT Empty:=.ret (V.bool (T !=T))
theorem x26:cV cX (aQ JJ pk u0 fb1 [D T]) (acd T):=bF
def oC:Bool:=T !=T
def TZ:V:=.bool (oC T)
theorem akz:aU cN (acd T) (TZ T):=AF (by unfold TZ oC;rfl)
def abH:aD:=bP L (λ_=>True) λ|[.int _ T]=>TZ T|_=>.any
theorem ago:b7 abH 228:=aT m4 λ_ hp=>c7 (x26 ..) (akz _)
def aeo:RT Empty:=.cb (.obi (.br (!!aB T 0 200000) (.ob (!!aB T 0 200000) (.cb (.obi (.br (!!aB S 0 600) (.ob (!!aB S 0 600) (.cb (.ret (V.bool !aB W 0 1000)))) (.ret (V.kb true)))))) (.ret (V.kb true))))
theorem iu8:cV cX (aQ JJ pk u0 hab [V.agg [D T,D S,D W]]) (aeo T S W):=bF
def jo:Bool:=bif !!aB T 0 200000 then bif !!aB S 0 600 then !aB W 0 1000 else true else true
def Fw:V:=.bool (jo T S W)
theorem aln:aU cN (aeo T S W) (Fw T S W):=AM (ac (AE (AP (λh0=>aF (by first|assumption|(fail)) (AM (ac (AE (AP (λM=>aF (by first|assumption|(fail)) (AM (ac (AF (by unfold Fw jo;try rw[h0];try rw[M];rfl))))) (λM=>AF (by unfold Fw jo;try rw[h0];try rw[M];rfl))))))) (λh0=>AF (by unfold Fw jo;try rw[h0];rfl)))))
def abe:aD:=bP [.agg cg] (λ_=>True) λ|[.agg [.int _ T,.int _ S,.int _ W]]=>Fw T S W|_=>.any
theorem akR:b7 abe 94:=aT m4 λ_ hp=>c7 (iu8 ..) (aln _ _ _)
def aaG:RT Empty:=.cb (.obi (.br (!!aG T 0 200000) (.ob (!!aG T 0 200000) (.cb (.obi (.br (!!aG S 0 600) (.ob (!!aG S 0 600) (.cb (.br (!aG W 0 1000) (.ret (D 7)) (.ret (D 0))))) (.ret (D 7)))))) (.ret (D 7))))
theorem ie8:cV cX (aQ JJ pk u0 aiZ [V.agg [D T,D S,D W]]) (aaG T S W):=bF
def gk:Int:=bif !!aG T 0 200000 then bif !!aG S 0 600 then bif !aG W 0 1000 then 7 else 0 else 7 else 7
def Ab:V:=D (gk T S W)
theorem aiT:aU cN (aaG T S W) (Ab T S W):=AM (ac (AE (AP (λh0=>aF (by first|assumption|(fail)) (AM (ac (AE (AP (λM=>aF (by first|assumption|(fail)) (AM (ac (AP (λQ=>AF (by unfold Ab gk;try rw[h0];try rw[M];try rw[Q];rfl)) (λQ=>AF (by unfold Ab gk;try rw[h0];try rw[M];try rw[Q];rfl)))))) (λM=>AF (by unfold Ab gk;try rw[h0];try rw[M];rfl))))))) (λh0=>AF (by unfold Ab gk;try rw[h0];rfl)))))
def aeD:aD:=bP [.agg cg] (λ_=>True) λ|[.agg [.int _ T,.int _ S,.int _ W]]=>Ab T S W|_=>.any
theorem akA:b7 aeD 111:=aT m4 λ_ hp=>c7 (ie8 ..) (aiT _ _ _)
def aaF:RT Empty:=.cb (.ret (V.bool (aG T (-200000) 200000)))
theorem if1:cV cX (aQ JJ pk u0 aj3 [D T]) (aaF T):=bF
def dV:Bool:=aG T (-200000) 200000
def Uh:V:=.bool (dV T)
theorem afd:aU cN (aaF T) (Uh T):=AM (ac (AF (by unfold Uh dV;rfl)))
def aaY:aD:=bP L (λ_=>True) λ|[.int _ T]=>Uh T|_=>.any
theorem agZ:b7 aaY 167:=aT m4 λ_ hp=>c7 (if1 ..) (afd _)
def aeA:RT Empty:=.ret (V.tup [D (E (E (T*E (E (U*x5)-O))+E (S*E (O-E (W*x5))))),D (E (E (U-W)*x5))])
theorem aac:cV cX (aQ JJ pk u0 afi [D T,D S,D W,D U,D O,D x5]) (aeA T S W U O x5):=bF
def d5:Int:=E (E (T*E (E (U*x5)-O))+E (S*E (O-E (W*x5))))
def cU:Int:=E (E (U-W)*x5)
def Qj:V:=.tup [D (d5 T S W U O x5),D (cU W U x5)]
theorem al4:aU cN (aeA T S W U O x5) (Qj T S W U O x5):=AF (by unfold Qj d5 cU;rfl)
def aav:aD:=bP [tI,tI,tI,tI,tI,tI] (λ_=>True) λ|[.int _ T,.int _ S,.int _ W,.int _ U,.int _ O,.int _ x5]=>Qj T S W U O x5|_=>.any
theorem ahx:b7 aav 208:=aT m4 λ_ hp=>c7 (aac ..) (al4 _ _ _ _ _ _)
def adX:RT Empty:=.cb (.iv (.br (!!aB O 1 30000) (.ob (!!aB O 1 30000) (.ob (!!aB O 1 30000) (.ob (!!aB O 1 30000) (.ob (!!aB O 1 30000) (.cb (.br (!eh 4 (A L (b9 [D T,D S,D W,D U] 0 1)) (-200000) 200000) (.ret (D 7)) (.iv (.obi (.br (bif decide (S<T) then true else decide (U<W)) (.ret (D 2)) (.ret (D 0))))))))))) (.ret (D 7))))
theorem no7:cV cX (aQ JJ pk u0 c66 [V.agg [D T,D S,D W,D U],D O]) (adX T S W U O):=bF
def fT:Int:=bif !!aB O 1 30000 then bif !eh 4 (A L (b9 [D T,D S,D W,D U] 0 1)) (-200000) 200000 then 7 else bif bif decide (S<T) then true else decide (U<W) then 2 else 0 else 7
def AZ:V:=D (fT T S W U O)
theorem ak6:aU cN (adX T S W U O) (AZ T S W U O):=AM (ac (AE (AE (AE (AE (AP (λh0=>aF (by first|assumption|(fail)) (aF (by first|assumption|(fail)) (aF (by first|assumption|(fail)) (aF (by first|assumption|(fail)) (AM (ac (AP (λM=>AF (by unfold AZ fT;try rw[h0];try rw[M];rfl)) (λM=>AE (AE (AE (AE (AE (AP (λQ=>AF (by unfold AZ fT;try rw[h0];try rw[M];try rw[Q];rfl)) (λQ=>AF (by unfold AZ fT;try rw[h0];try rw[M];try rw[Q];rfl))))))))))))))) (λh0=>AF (by unfold AZ fT;try rw[h0];rfl))))))))
def adK:aD:=bP [.agg gP,tI] (λ_=>True) λ|[.agg [.int _ T,.int _ S,.int _ W,.int _ U],.int _ O]=>AZ T S W U O|_=>.any
theorem ale:b7 adK 64:=aT m4 λ_ hp=>c7 (no7 ..) (ak6 _ _ _ _ _)
def abf:RT Empty:=dm (s0,n5,q,Z,Y) (.ob (decide ((0:Int)<=0/\0<(n1:Int))) (.ii (.obi (.asm (decide (E (aA (f1 0)*PT)<=x9)=true->n1<=9223372036854775807) (.ii (.obi (.obj (decide (E (aA (f1 0)*PT)<=x9)) (dI (E ((n1:Int)-1)) n1) (.iv (.iv (.obj (bif decide (E (aA (f1 0)*PT)<=x9) then decide (x9<=E (aA (f1 (E ((n1:Int)-1)).toNat)*PT)) else false) (decide ((0:Int)<=0/\0<(n3:Int))) (.iv (.iv (.obi (.asm ((bif bif decide (E (aA (f1 0)*PT)<=x9) then decide (x9<=E (aA (f1 (E ((n1:Int)-1)).toNat)*PT)) else false then decide (E (aA (f3 0)*PT)<=PV) else false)=true->n3<=9223372036854775807) (.ii (.obi (.obj (bif bif decide (E (aA (f1 0)*PT)<=x9) then decide (x9<=E (aA (f1 (E ((n1:Int)-1)).toNat)*PT)) else false then decide (E (aA (f3 0)*PT)<=PV) else false) (dI (E ((n3:Int)-1)) n3) (.iv (.ii (.ret (V.bool (bif bif bif decide (E (aA (f1 0)*PT)<=x9) then decide (x9<=E (aA (f1 (E ((n1:Int)-1)).toNat)*PT)) else false then decide (E (aA (f3 0)*PT)<=PV) else false then decide (PV<=E (aA (f3 (E ((n3:Int)-1)).toNat)*PT)) else false))))))))))))))))))))))
theorem nx6:cV cX (aQ JJ pk u0 ajG [V.agg [V.str s0,V.sl n1 (A L f1),V.sl n3 (A L f3),V.sl n5 (A [Ty.sl L] q),D Z,D Y],D x9,D PV,D PT]) (abf s0 n1 f1 n3 f3 n5 q Z Y x9 PV PT):=bF
def fU:Bool:=bif bif bif decide (E (aA (f1 0)*PT)<=x9) then decide (x9<=E (aA (f1 (E ((n1:Int)-1)).toNat)*PT)) else false then decide (E (aA (f3 0)*PT)<=PV) else false then decide (PV<=E (aA (f3 (E ((n3:Int)-1)).toNat)*PT)) else false
def Lf:V:=dm (s0,n5,q,Z,Y) (.bool (fU n1 f1 n3 f3 x9 PV PT))
theorem amS (hp:(1<=n1/\n1<=1000)/\(1<=n3/\n3<=1000)):aU cN (abf s0 n1 f1 n3 f3 n5 q Z Y x9 PV PT) (Lf s0 n1 f1 n3 f3 n5 q Z Y x9 PV PT):=aF (by first|assumption|((first|exact AG K|(rw[AX K K];exact AG K)))) (AE (AE (AE (Af (λa0=>AE (AE (AE (Ba (by first|assumption|((intro _;(first|exact AG K|(rw[AX K K];exact AG K))))) (AE (AE (AE (AE (AE (AE (AE (AE (Ba (by first|assumption|((intro _;(first|exact AG K|(rw[AX K K];exact AG K))))) (AE (AE (AE (AE (AE (AE (AE (AE (AE (Af (λa0=>AE (AE (AE (Ba (by first|assumption|((intro _;(first|exact AG K|(rw[AX K K];exact AG K))))) (AE (AE (AE (AE (AE (AE (AF (by unfold Lf fU;rfl)))))))))))))))))))))))))))))))))))))))
def aaU:aD:=bP [.agg al,tI,tI,tI] (λ
 |[.agg [.str s0,.sl n1 f1,.sl n3 f3,.sl n5 q,.int _ Z,.int _ Y],.int _ x9,.int _ PV,.int _ PT]=>(1<=n1/\n1<=1000)/\(1<=n3/\n3<=1000)|_=>False) λ
 |[.agg [.str s0,.sl n1 f1,.sl n3 f3,.sl n5 q,.int _ Z,.int _ Y],.int _ x9,.int _ PV,.int _ PT]=>Lf s0 n1 f1 n3 f3 n5 q Z Y x9 PV PT|_=>.any
theorem ano:b7 aaU 169:=aT m4 λ_ hp=>c7 (nx6 ..) (amS _ _ _ _ _ _ _ _ _ _ _ _ hp)
def aaC:RT Empty:=dm (s0,n1,f1,n3,f3,n5,q,Z,Y,Pk) (.ob (decide ((0:Int)<=0/\0<(n9:Int))) (.am n9 (.ob (dI (E ((n9:Int)-1)) n9) (.cb (.ii (.obj (aB Po (aA (f9 0)) (aA (f9 (E ((n9:Int)-1)).toNat))) (decide ((0:Int)<=0/\0<(PS:Int))) (.iv (.asm (aB Po (aA (f9 0)) (aA (f9 (E ((n9:Int)-1)).toNat))=true->PS<=9223372036854775807) (.ii (.obi (.obj (aB Po (aA (f9 0)) (aA (f9 (E ((n9:Int)-1)).toNat))) (dI (E ((PS:Int)-1)) PS) (.obi (.br (aB Po (aA (f9 0)) (aA (f9 (E ((n9:Int)-1)).toNat))) (.ob (aB Po (aA (f9 0)) (aA (f9 (E ((n9:Int)-1)).toNat))) (.ob (aB Po (aA (f9 0)) (aA (f9 (E ((n9:Int)-1)).toNat))) (.ob (aB Po (aA (f9 0)) (aA (f9 (E ((n9:Int)-1)).toNat))) (.cb (.ret (V.bool (aB Pt (aA (At 0)) (aA (At (E ((PS:Int)-1)).toNat))))))))) (.ret (V.kb false)))))))))))))))
theorem aai:cV cX (aQ JJ pk u0 f12 [V.agg [V.str s0,V.sl n1 (A L f1),V.sl n3 (A L f3),V.sl n5 (A [Ty.sl L] q),D Z,D Y,V.sl n9 (A L f9),V.sl PS (A L At),D Pk],D Po,D Pt]) (aaC s0 n1 f1 n3 f3 n5 q Z Y n9 f9 PS At Pk Po Pt):=bF
def bE:Bool:=bif aB Po (aA (f9 0)) (aA (f9 (E ((n9:Int)-1)).toNat)) then aB Pt (aA (At 0)) (aA (At (E ((PS:Int)-1)).toNat)) else false
def J4:V:=dm (s0,n1,f1,n3,f3,n5,q,Z,Y,Pk) (.bool (bE n9 f9 PS At Po Pt))
theorem ak1 (hp:(1<=n9/\n9<=1000)/\(1<=PS/\PS<=1000)):aU cN (aaC s0 n1 f1 n3 f3 n5 q Z Y n9 f9 PS At Pk Po Pt) (J4 s0 n1 f1 n3 f3 n5 q Z Y n9 f9 PS At Pk Po Pt):=aF (by first|assumption|((first|exact AG K|(rw[AX K K];exact AG K)))) (Af (λa0=>aF (by first|assumption|((first|exact AG K|(rw[AX K K];exact AG K)))) (AM (ac (AE (AE (Ba (by first|assumption|((intro _;(first|exact AG K|(rw[AX K K];exact AG K))))) (AE (AE (AE (AE (Af (λa0=>AE (AE (AE (Ba (by first|assumption|((intro _;(first|exact AG K|(rw[AX K K];exact AG K))))) (AE (AP (λh0=>aF (by first|assumption|((first|exact AG K|(rw[AX K K];exact AG K)))) (aF (by first|assumption|((first|exact AG K|(rw[AX K K];exact AG K)))) (aF (by first|assumption|((first|exact AG K|(rw[AX K K];exact AG K)))) (AM (ac (AF (by unfold J4 bE;try rw[h0];rfl))))))) (λh0=>AF (by unfold J4 bE;try rw[h0];rfl))))))))))))))))))))
def aea:aD:=bP [.agg [.str,.sl L,.sl L,.sl [.sl L],tI,tI,.sl L,.sl L,tI],tI,tI] (λ
 |[.agg [.str s0,.sl n1 f1,.sl n3 f3,.sl n5 q,.int _ Z,.int _ Y,.sl n9 f9,.sl PS At,.int _ Pk],.int _ Po,.int _ Pt]=>(1<=n9/\n9<=1000)/\(1<=PS/\PS<=1000)|_=>False) λ
 |[.agg [.str s0,.sl n1 f1,.sl n3 f3,.sl n5 q,.int _ Z,.int _ Y,.sl n9 f9,.sl PS At,.int _ Pk],.int _ Po,.int _ Pt]=>J4 s0 n1 f1 n3 f3 n5 q Z Y n9 f9 PS At Pk Po Pt|_=>.any
theorem ahO:b7 aea 127:=aT m4 λ_ hp=>c7 (aai ..) (ak1 _ _ _ _ _ _ _ _ _ _ _ _ _ _ _ _ hp)
end
end Go.Dx
namespace Go.Dx
noncomputable section
theorem apB {a b:Bool} (h:(a&&b)=true):a=true:=by cases a<;>simp_all
theorem ar8 {a b:Bool} (h:(a&&b)=true):b=true:=by cases a<;>simp_all
end
end Go.Dx
namespace Go.Dx
open Go.IntKind (i64 u64 u8)
open Go.Sx Go.Proofs
variable (H:Nat) (G:be) (T:Int) (s0:ByteArray) (n1:Nat) (f1:be) (S:Int) (s1:ByteArray) (R:Nat) (N:be) (W:Int) (n3:Nat) (f3:be) (U:Int) (n4:Nat) (f4:be) (O:Int) (n5:Nat) (q:be) (x5:Int) (n6:Nat) (f6:be) (x6 Z Y:Int) (n9:Nat) (f9:be) (x9:Int) (S9:Nat) (Ub:be) (PV:Int) (PS:Nat) (At:be) (PT:Int) (Rp:Nat) (RH:be) (PZ Pk Po Pt Q2 Pb:Int)
noncomputable section
def te:bo:=(227,.con acO)::(228,.con abH)::(94,.con abe)::(111,.con aeD)::(167,.con aaY)::(208,.con aav)::(64,.con adK)::(169,.con aaU)::(127,.con aea)::pk
theorem zC:ba Tryz.prog AQ AS te:=.con aho (.con ago (.con akR (.con akA (.con agZ (.con ahx (.con ale (.con ano (.con ahO (m4)))))))))
def abJ:RT Empty:=.cb (.obi (.br (!!aG O 1 30000) (.ob (!!aG O 1 30000) (.cb (.obi (.br (!!dV T) (.ob (!!dV T) (.cb (.obi (.br (!!dV S) (.ob (!!dV S) (.cb (.obi (.br (!!dV W) (.ob (!!dV W) (.cb (.br (!dV U) (.ret (D 7)) (.iv (.obi (.br (bif decide (S<T) then true else decide (U<W)) (.ret (D 2)) (.ret (D 0)))))))) (.ret (D 7)))))) (.ret (D 7)))))) (.ret (D 7)))))) (.ret (D 7))))
theorem x10:cV cX (aQ JJ te u0 akh [V.agg [D T,D S,D W,D U],D O]) (abJ T S W U O):=bF
def dJ:Int:=bif !!aG O 1 30000 then bif !!dV T then bif !!dV S then bif !!dV W then bif !dV U then 7 else bif bif decide (S<T) then true else decide (U<W) then 2 else 0 else 7 else 7 else 7 else 7
def tZ:V:=D (dJ T S W U O)
theorem ai4:aU cN (abJ T S W U O) (tZ T S W U O):=AM (ac (AE (AP (λh0=>aF (by first|assumption|(fail)) (AM (ac (AE (AP (λM=>aF (by first|assumption|(fail)) (AM (ac (AE (AP (λQ=>aF (by first|assumption|(fail)) (AM (ac (AE (AP (λh3=>aF (by first|assumption|(fail)) (AM (ac (AP (λh4=>AF (by unfold tZ dJ;try rw[h0];try rw[M];try rw[Q];try rw[h3];try rw[h4];rfl)) (λh4=>AE (AE (AE (AE (AE (AP (λh5=>AF (by unfold tZ dJ;try rw[h0];try rw[M];try rw[Q];try rw[h3];try rw[h4];try rw[h5];rfl)) (λh5=>AF (by unfold tZ dJ;try rw[h0];try rw[M];try rw[Q];try rw[h3];try rw[h4];try rw[h5];rfl)))))))))))) (λh3=>AF (by unfold tZ dJ;try rw[h0];try rw[M];try rw[Q];try rw[h3];rfl))))))) (λQ=>AF (by unfold tZ dJ;try rw[h0];try rw[M];try rw[Q];rfl))))))) (λM=>AF (by unfold tZ dJ;try rw[h0];try rw[M];rfl))))))) (λh0=>AF (by unfold tZ dJ;try rw[h0];rfl)))))
def aer:aD:=bP [.agg gP,tI] (λ_=>True) λ|[.agg [.int _ T,.int _ S,.int _ W,.int _ U],.int _ O]=>tZ T S W U O|_=>.any
theorem af8:b7 aer 112:=aT zC λ_ hp=>c7 (x10 ..) (ai4 _ _ _ _ _)
inductive tL where|L0 (_ _:Int)
def ldV:tL->bT×List AD×Option Ex
 |.L0 PW QO=>([(8,D PW),(7,D QO),(6,D (H:Int)),(0,V.sl H (A L G)),(1,D W)],[],none)
def ajl:tL->JJ
 |.L0 ..=>(0,[])
def hes:AN (cr JJ):=aQ JJ te u0 fw9 [V.sl H (A L G),D W]
def aAp (cx:List Cx):Lp JJ:=eX (eC (hes H G W) [])
def al7:JJ->Lp JJ
 |(0,cx)=>aAp H G W cx|(_,cx)=>aAp H G W cx
def ao9:LD JJ tL:=⟨ajl,al7 H G W,ldV H G W⟩
def yN:tL->RT tL
 |.L0 PW QO=>.br (decide (QO<PW)) (.obt (.ob (dI (E ((u64.wrap (E (QO+PW))).fdiv (2 ^ 1))) H) (.cb (.br (qj (aA (G (E ((u64.wrap (E (QO+PW))).fdiv (2 ^ 1))).toNat)) W) (.next [] (tL.L0 PW (E (E ((u64.wrap (E (QO+PW))).fdiv (2 ^ 1))+1))) []) (.next [] (tL.L0 (E ((u64.wrap (E (QO+PW))).fdiv (2 ^ 1))) QO) []))))) (.ii (.obj (decide (QO<(H:Int))) (dI QO H) (.iv (.ii (.obj (decide (QO<(H:Int))&&!aA (G QO.toNat)==W) (dI QO H) (.obi (.br (decide (QO<(H:Int))&&!aA (G QO.toNat)==W) (.ob (decide (QO<(H:Int))&&!aA (G QO.toNat)==W) (.cb (.br (oC (aA (G QO.toNat))) (.ob (oC (aA (G QO.toNat))) (.cb (.obi (.ret (V.tup [D QO,V.bool (bif decide (QO<(H:Int)) then oC W else false)]))))) (.obi (.ret (V.tup [D QO,V.bool (bif decide (QO<(H:Int)) then false else false)])))))) (.obi (.obj (decide (QO<(H:Int))&&!aA (G QO.toNat)==W) (false) (.ii (.br (aA (G QO.toNat)==W) (.obi (.ret (V.tup [D QO,V.bool (bif decide (QO<(H:Int)) then true else false)]))) (.obi (.bry (decide (QO<(H:Int))) (.ret (V.tup [D QO,V.kb false])))))))))))))))
def Pp:RT tL:=dm (G,W) (.am H (.enter [] (tL.L0 ((H:Int)) 0) []))
theorem x28:d0 te u0 (ao9 H G W) (hes H G W) (Pp H G W) (yN H G W):=⟨bF,λs=>by cases s<;>exact bF⟩
def FF (f:Nat->Int) (t:Int):Nat->Nat->Nat->Nat
 |0,i,_=>i|d+1,i,j=>bif Nat.blt i j then bif decide (f ((i+j) / 2)<t) then FF f t d ((i+j) / 2+1) j else FF f t d i ((i+j) / 2) else i
def HK:Nat:=FF (λk=>aA (G k)) W H 0 H
def j4 (H:Nat) (G:be) (W:Int):Int:=(HK H G W:Int)
def kS (H:Nat) (G:be) (W:Int):Bool:=bif decide ((HK H G W:Int)<(H:Int)) then aA (G (HK H G W))==W else false
theorem auQ {i j:Nat} (h:i+j<=2000):E ((u64.wrap (E ((i:Int)+(j:Int)))).fdiv (2 ^ 1))=(((i+j) / 2:Nat):Int):=by
 rw[AX (x:=(i:Int)+(j:Int)) K K];have:u64.wrap ((i:Int)+(j:Int))=(i:Int)+(j:Int):=by simp only[IntKind.wrap,IntKind.bits,IntKind.signed,Bool.false_and];rw[AU au];omega
 rw[this,Io _ aO,AX K K];omega
theorem aoB (x:Int):oC x=false:=by unfold oC;simp
theorem atu {b:Bool} (h:(!b)=true):b=false:=by cases b<;>first|rfl|cases h
theorem amW (x y:Int):qj x y=decide (x<y):=by unfold qj;simp
theorem aui (hn:H<=1000):∀ d i j:Nat,j-i<=d->i<=j->j<=H->FF (λk=>aA (G k)) W d i j=HK H G W->Ev (yN H G W) (.L0 (j:Int) (i:Int)) (.tup [D (j4 H G W),.bool (kS H G W)]):=by
 intro d;have exit:∀ i j:Nat,j<=i->j<=H->i<=j->i=HK H G W->Ev (yN H G W) (.L0 (j:Int) (i:Int)) (.tup [D (j4 H G W),.bool (kS H G W)]):=by
  intro i j M Q h3 e;refine Ev.of rfl (cW (eM K) ?_);refine AE (AE (Ba (λh=>AG (by have:=As h;omega)) ?_));refine AE (AE (AE (AE (AE (AE (Ba (λh=>AG (by have:=As (apB h);omega)) (AE ?_)))))));have QW:∀b,b=kS H G W->dj (V.tup [D (i:Int),V.bool b])=dj (V.tup [D (j4 H G W),V.bool (kS H G W)]):=λb hb=>by unfold j4;rw[← e,hb]
  have Ua:kS H G W=bif decide ((i:Int)<(H:Int)) then aA (G i)==W else false:=by unfold kS;rw[← e]
  rw[Bt];refine AP (λh=>aF h (AM (ac (cW (aoB _) (AE (AF (QW _ ?_))))))) (λh=>?_)
  ·rw[Ua,show(aA (G i)==W)=false from atu (ar8 h)]
  ·refine AE (Ba (λh'=>absurd (h'.symm.trans h) aO) (AE (AE (AP (λQ=>AE (AF (QW _ ?_))) (λQ=>?_)))))
   ·rw[Ua,show(aA (G i)==W)=true from Q]
   ·have h3:decide ((i:Int)<(H:Int))=false:=by
     cases hd:decide ((i:Int)<(H:Int)) with
     |false=>rfl|true=>rw[hd,Q]at h;cases h
    refine AE (ac3 h3 (AF ?_));exact QW false (by rw[Ua,h3];rfl)
 induction d with
 |zero=>intro i j M Q h3 e;exact exit i j K h3 Q e
 |succ d ih=>
   intro i j M Q h3 e;by_cases Pj:i<j
   ·refine Ev.of rfl (cO (AG K) (ac ?_))
    rw[auQ K,Bt,amW];refine aF (AG K) (AM (ac (AP (λh=>aK ?_) (λh=>aK ?_))))
    ·have e':FF (λk=>aA (G k)) W d ((i+j) / 2+1) j=HK H G W:=by
      rw[← e];show _=bif Nat.blt i j then _ else _
      rw[Jg Pj,h];rfl
     have:=ih ((i+j) / 2+1) j K K h3 e';rwa [show E ((((i+j) / 2:Nat):Int)+1)=(((i+j) / 2+1:Nat):Int) by rw[AX K K];omega]
    ·have e':FF (λk=>aA (G k)) W d i ((i+j) / 2)=HK H G W:=by
      rw[← e];show _=bif Nat.blt i j then _ else _
      rw[Jg Pj,h];rfl
     exact ih i ((i+j) / 2) K K K e'
   ·refine exit i j K h3 Q ?_
    rw[← e];show _=bif Nat.blt i j then _ else _
    rw[Q7 K];rfl
theorem hv' (hp:H<=1000):aU (Ev (yN H G W)) (Pp H G W) (.tup [D (j4 H G W),.bool (kS H G W)]):=bC λ_=>aH (aui H G W hp H 0 H K (Bc _) (Ah _) rfl)
theorem ahg (hp:H<=1000):aU (Ev (yN H G W)) (Pp H G W) (.tup [D (j4 H (A L G) W),.bool (kS H (A L G) W)]):=hv' H G W hp
def aeQ:aD:=bP [.sl L,tI] (λ
 |[.sl H G,.int _ W]=>H<=1000|_=>False) λ
 |[.sl H G,.int _ W]=>.tup [D (j4 H G W),.bool (kS H G W)]|_=>.any
theorem ai0:b7 aeQ 216:=aT zC λ_ hp=>kt (x28 ..) (ahg _ _ _ hp)
inductive tp where|L0 (_ _:Int)
def ip0:tp->bT×List AD×Option Ex
 |.L0 PW QO=>([(8,D PW),(7,D QO),(0,V.sl H (A L G)),(1,D W),(2,D U)],[],none)
def akJ:tp->JJ
 |.L0 ..=>(0,[])
def frR:AN (cr JJ):=aQ JJ te u0 anv [V.sl H (A L G),D W,D U]
def yax (cx:List Cx):Lp JJ:=eX (eC (frR H G W U) [])
def ag0:JJ->Lp JJ
 |(0,cx)=>yax H G W U cx|(_,cx)=>yax H G W U cx
def auc:LD JJ tp:=⟨akJ,ag0 H G W U,ip0 H G W U⟩
def CM:tp->RT tp
 |.L0 PW QO=>.am H (.br (decide (E (PW+1)<(H:Int))) (.ob (dI PW H) (.br (decide (E (aA (G PW.toNat)*U)<=W)) (.next [] (tp.L0 (E (PW+1)) PW) []) (.next [] (tp.L0 (E (PW+1)) QO) []))) (.ret (D QO)))
def OR:RT tp:=dm (H,G,W,U) (.enter [] (tp.L0 0 0) [])
theorem jf7:d0 te u0 (auc H G W U) (frR H G W U) (OR H G W U) (CM H G W U):=⟨bF,λs=>by cases s<;>exact bF⟩
def MS (p:Nat->Bool):Nat->Nat
 |0=>0|k+1=>bif p k then k else MS p k
def aS:Int:=(MS (λi=>decide (E (aA (G i)*U)<=W)) (H-1):Int)
theorem ia2:aU (Ev (CM H G W U)) (OR H G W U) (D (aS H G W U)):=by
 refine aH ?_;have key:∀ k,k<=H-1->Ev (CM H G W U) (.L0 (k:Int) (MS (λi=>decide (E (aA (G i)*U)<=W)) k:Int)) (D (aS H G W U)):=by
  refine dv λk hk ih=>Ev.of rfl (bC λhn=>?_);by_cases Pj:k<H-1
  ·have hw:E ((k:Int)+1)=((k+1:Nat):Int):=by rw[AX K K];omega
   rw[hw];refine cO (AG K) (aF (AG K) (AP (λh=>aK ?_) (λh=>aK ?_)))
   ·have:=ih Pj;rw[Bt]at h;simp only[MS,h,cond_true]at this;exact this
   ·have:=ih Pj;rw[Bt]at h;simp only[MS,h,cond_false]at this;exact this
  ·refine cW (eM ?_) (AF ?_)
   ·rcases EM (k+1) 9223372036854775808 with M|M
    ·rw[AX K K];omega
    ·omega
   ·have:k=H-1:=by omega
    subst this;rfl
 exact key 0 (Bc _)
theorem agJ:aU (Ev (CM H G W U)) (OR H G W U) (D (aS H (A L G) W U)):=ia2 H G W U
def adW:aD:=bP [.sl L,tI,tI] (λ_=>True) λ|[.sl H G,.int _ W,.int _ U]=>D (aS H G W U)|_=>.any
theorem amV:b7 adW 207:=aT zC λ_ hp=>kt (jf7 ..) (agJ _ _ _ _)
inductive vt where|L0 (_ _ _:Int)
def nmB (T S:Int) (R:Nat) (N:be):vt->bT×List AD×Option Ex
 |.L0 PW QO Qr=>([(9,D PW),(8,D (R:Int)),(7,V.sl R (A aM N)),(4,V.pl 0 0),(2,V.pl 1 0)],[AD.cells Au 39,AD.cells [D QO,D Qr] 39],none)
def agz:vt->JJ
 |.L0 ..=>(0,[])
def yaS:AN (cr JJ):=aQ JJ te u0 ja [V.agg [D T,D S],V.sl R (A aM N)]
def Srt (cx:List Cx):Lp JJ:=eX (eC (yaS T S R N) [])
def ae5:JJ->Lp JJ
 |(0,cx)=>Srt T S R N cx|(_,cx)=>Srt T S R N cx
def aqk:LD JJ vt:=⟨agz,ae5 T S R N,nmB T S R N⟩
def BR (T S:Int) (R:Nat) (N:be):vt->RT vt
 |.L0 PW QO Qr=>.br (decide (PW<(R:Int))) (.ob (dI PW R) (.next D8 (vt.L0 (E (PW+1)) (min QO (aA (N PW.toNat))) (max Qr (aR (N PW.toNat)))) [])) (.ret (V.agg [D QO,D Qr]))
def M8:RT vt:=dm N (.am R (.enter Il (vt.L0 0 T S) []))
theorem nf2:d0 te u0 (aqk T S R N) (yaS T S R N) (M8 T S R N) (BR T S R N):=⟨bF,λs=>by cases s<;>exact bF⟩
def d6:Int:=HT (λi=>aA (N i)) T R
def d7:Int:=BD (λi=>aR (N i)) S R
theorem i25:aU (Ev (BR T S R N)) (M8 T S R N) (.agg [D (d6 T R N),D (d7 S R N)]):=by refine bC λhn=>aH ?_;refine E3 hn (P:=λx=>Ev (BR T S R N) (.L0 x (HT (λi=>aA (N i)) T x.toNat) (BD (λi=>aR (N i)) S x.toNat)) (.agg [D (d6 T R N),D (d7 S R N)])) (λi Pj nx=>?_) (Ev.of rfl (dp (AF rfl)));rw[show(E ((i:Int)+1)).toNat=i+1 by rw[kH Pj hn];rfl]at nx;exact Ev.of rfl (dt Pj (c8 Pj (aK nx)))
theorem aiB:aU (Ev (BR T S R N)) (M8 T S R N) (.agg [D (d6 T R (A aM N)),D (d7 S R (A aM N))]):=i25 T S R N
def abq:aD:=bP [.agg aM,.sl aM] (λ_=>True) λ|[.agg [.int _ T,.int _ S],.sl R N]=>.agg [D (d6 T R N),D (d7 S R N)]|_=>.any
theorem afB:b7 abq 124:=aT zC λ_ hp=>kt (nf2 ..) (aiB _ _ _ _)
def HX:bo:=(112,.con aer)::(216,.con aeQ)::(207,.con adW)::(124,.con abq)::te
theorem hbn:ba Tryz.prog AQ AS HX:=.con af8 (.con ai0 (.con amV (.con afB (zC))))
inductive pH where|L0 (_:Int)|L1 (_:Int) (_:Nat) (_:be)
def no2:pH->bT×List AD×Option Ex
 |.L0 PW=>([(10,D PW),(9,V.ss 0 0 2 2),(0,V.sl H (A L G)),(1,D W),(2,D U),(3,D O)],[AD.cells [D (E (1000*W)),D (E (1000*U))] 3],none)|.L1 Q6 TG R2=>([(10,D Q6),(9,V.gs 0 TG),(0,V.sl H (A L G)),(1,D W),(2,D U),(3,D O)],[AD.gl 1 TG (A L R2) 3],none)
def anp:pH->JJ
 |.L0 _=>(0,[])|.L1 ..=>(0,[])
def fm3:AN (cr JJ):=VR JJ HX u0 agO [V.sl H (A L G),D W,D U,D O]
def S66 (cx:List Cx):Lp JJ:=eX (eC (fm3 H G W U O) [])
def ams:JJ->Lp JJ
 |(0,cx)=>S66 H G W U O cx|(_,cx)=>S66 H G W U O cx
def atH:LD JJ pH:=⟨anp,ams H G W U O,no2 H G W U O⟩
def y9:pH->RT pH
 |.L0 PW=>.am H (.br (decide (PW<(H:Int))) (.ob (dI PW H) (.ii (.obj (decide (E (1000*W)<=E (aA (G PW.toNat)*O))) (dI PW H) (.iv (.ii (.obi (.br (bif decide (E (1000*W)<=E (aA (G PW.toNat)*O)) then decide (E (aA (G PW.toNat)*O)<=E (1000*U)) else false) (.ob (dI PW H) (.obt (.obt (.next [some (some 2)] (pH.L1 (E (PW+1)) 3 (bc 2 (λi=>List.take 1 (List.drop (i*1) [D (E (1000*W)),D (E (1000*U))])) λx=>[D (E (aA (G PW.toNat)*O))])) [⟨0,L,3,bc 2 (λi=>List.take 1 (List.drop (i*1) [D (E (1000*W)),D (E (1000*U))])) λx=>[D (E (aA (G PW.toNat)*O))],CI rfl rfl⟩])))) (.next Az (pH.L0 (E (PW+1))) [])))))))) (.ret (V.sl 2 (b9 [D (E (1000*W)),D (E (1000*U))] 0 1))))|.L1 Q6 TG R2=>.am H (.br (decide (Q6<(H:Int))) (.ob (dI Q6 H) (.ii (.obj (decide (E (1000*W)<=E (aA (G Q6.toNat)*O))) (dI Q6 H) (.iv (.ii (.obi (.br (bif decide (E (1000*W)<=E (aA (G Q6.toNat)*O)) then decide (E (aA (G Q6.toNat)*O)<=E (1000*U)) else false) (.ob (dI Q6 H) (.obt (.ob (decide (TG<=TG/\(TG+1)*8<=140737488355328)&&!Nat.beq 8 0) (.next [some (some 2)] (pH.L1 (E (Q6+1)) (TG+1) (bc TG (A L R2) λx=>[D (E (aA (G Q6.toNat)*O))])) [⟨0,L,TG+1,bc TG (A L R2) λx=>[D (E (aA (G Q6.toNat)*O))],gj (aL rfl _ _) (EE rfl _ rfl)⟩])))) (.next Az (pH.L1 (E (Q6+1)) TG (A L R2)) [⟨0,L,TG,A L R2,aL rfl _ _⟩])))))))) (.ob (TG.ble TG) (.ret (V.sl TG λi=>[D (aA (R2 i))]))))
def Rt:RT pH:=dm (H,G,W,U,O) (.enter Az (pH.L0 0) [])
theorem im9:d0 HX u0 (atH H G W U O) (fm3 H G W U O) (Rt H G W U O) (y9 H G W U O):=⟨bF,λs=>by cases s<;>exact bF⟩
def Ss (p:Nat->Bool) (v:Nat->Int) (a b:Int):Nat->List Int
 |0=>[a,b]|k+1=>bif p k then Ss p v a b k++[v k] else Ss p v a b k
def jr (QS:List Int):Nat->List V:=λi=>[D (QS.getD i 0)]
def FH (a b h:Int) (i:Nat):Bool:=bif decide (a<=E (aA (G i)*h)) then decide (E (aA (G i)*h)<=b) else false
def bb:List Int:=Ss (FH G (E (1000*W)) (E (1000*U)) O) (λi=>E (aA (G i)*O)) (E (1000*W)) (E (1000*U)) H
theorem qy (p:Nat->Bool) (v:Nat->Int) (a b:Int):∀ k,2<=(Ss p v a b k).length/\(Ss p v a b k).length<=k+2
 |0=>⟨Ah _,Ah _⟩
 |k+1=>by
   have:=qy p v a b k;unfold Ss;cases p k with
   |true=>simp only[cond_true,Du,Dl,EJ];omega|false=>simp only[cond_false];omega
theorem hsz {QS:List Int} {x:Int} {n:Nat} {f:be} (hn:n=QS.length) (hf:∀ j,j<n->ap L (f j)=jr QS j):∀ j,j<n+1->ap L (bc n (A L f) (λ_=>[D x]) j)=jr (QS++[x]) j:=λj hj=>by
 unfold bc;by_cases Y1:j<n
 ·rw[Jg Y1];show ap _ (ap _ (f j))=_;rw[eb,hf j Y1];unfold jr;rw[H6,H6,BF K]
 ·have:j=n:=by omega
  subst this;rw[Q7 (Ah _)];show [D x]=_;unfold jr;rw[H6,DD K,hn,If];rfl
section
variable (H:Nat) (G:be) (W U O:Int) (hn:H<=1000)
include hn
theorem sqN:∀ k,k<=H->∀ (n:Nat) (f:be),n=(bb k G W U O).length->(∀ j,j<n->ap L (f j)=jr (bb k G W U O) j)->Ev (y9 H G W U O) (.L1 (k:Int) n f) (.sl (bb H G W U O).length (A L (jr (bb H G W U O)))):=by
 refine dv λk hk ih n f hl hf=>?_;have Qm:=(qy (FH G (E (1000*W)) (E (1000*U)) O) (λi=>E (aA (G i)*O)) (E (1000*W)) (E (1000*U)) k).2;refine Ev.of rfl (bC λ_=>?_);by_cases Pj:k<H
 ·have hw:E ((k:Int)+1)=((k+1:Nat):Int):=by rw[AX K K];omega
  have hb:decide (0<=(k:Int)/\(k:Int)<(H:Int))=true:=AG K;refine cO (AG K) (aF hb (AE (AE (Ba (λ_=>hb) ?_))));refine AE (AE (AE (AE (AE (AE (AE ?_))))));rw[hw];refine AP (λh=>aF hb (ac (aF ?_ (aK ?_)))) (λh=>aK ?_)
  ·have izb21:n<=k+2:=by rw[hl];exact Qm
   simp only[Ae];exact⟨AG ⟨Ah _,K⟩,rfl⟩
  ·have e:bb (k+1) G W U O=bb k G W U O++[E (aA (G (k:Int).toNat)*O)]:=by
    rw[Bt]at h ⊢;show(bif FH G _ _ O k then _ else _)=_;rw[show FH G (E (1000*W)) (E (1000*U)) O k=true from h];rfl
   refine ih Pj _ _ (by rw[e,hl];simp) ?_;rw[e];exact hsz hl hf
  ·have e:bb (k+1) G W U O=bb k G W U O:=by
    rw[Bt]at h;show(bif FH G _ _ O k then _ else _)=_;rw[show FH G (E (1000*W)) (E (1000*U)) O k=false from h];rfl
   refine ih Pj _ _ (by rw[e,hl]) ?_;rw[e];exact λj hj=>by show ap _ (ap _ (f j))=_;rw[eb];exact hf j hj
 ·have e:k=H:=by omega
  subst e;refine cW (eM K) (aF (EC (Ah _)) (AF ?_));rw[hl];exact Cj λi hi=>by show dl (ap L (f i))=dl (ap L (jr _ i));rw[hf i K];rfl
theorem plL:∀ k,k<=H->bb k G W U O=[E (1000*W),E (1000*U)]->Ev (y9 H G W U O) (.L0 (k:Int)) (.sl (bb H G W U O).length (A L (jr (bb H G W U O)))):=by
 refine dv λk hk ih hl=>?_;refine Ev.of rfl (bC λ_=>?_);by_cases Pj:k<H
 ·have hw:E ((k:Int)+1)=((k+1:Nat):Int):=by rw[AX K K];omega
  have hb:decide (0<=(k:Int)/\(k:Int)<(H:Int))=true:=AG K;refine cO (AG K) (aF hb (AE (AE (Ba (λ_=>hb) ?_))));refine AE (AE (AE (AE (AE (AE (AE ?_))))));rw[hw];refine AP (λh=>aF hb (ac (ac (aK ?_)))) (λh=>aK ?_)
  ·have e:bb (k+1) G W U O=[E (1000*W),E (1000*U)]++[E (aA (G (k:Int).toNat)*O)]:=by
    rw[Bt]at h ⊢;show(bif FH G _ _ O k then bb k G W U O++_ else _)=_;rw[show FH G (E (1000*W)) (E (1000*U)) O k=true from h,hl];rfl
   refine sqN H G W U O hn (k+1) Pj _ _ (by rw[e];rfl) ?_;rw[e];intro j hj
   match j,hj with
   |0,_=>rfl|1,_=>rfl|2,_=>rfl
  ·have e:bb (k+1) G W U O=bb k G W U O:=by
    rw[Bt]at h;show(bif FH G _ _ O k then _ else _)=_;rw[show FH G (E (1000*W)) (E (1000*U)) O k=false from h];rfl
   exact ih Pj (e.trans hl)
 ·have e:k=H:=by omega
  subst e;refine cW (eM K) (AF ?_);rw[hl];exact Cj λi hi=>by
   have hi:i<2:=hi
   match i,hi with
   |0,_=>rfl|1,_=>rfl
theorem hy1:aU (Ev (y9 H G W U O)) (Rt H G W U O) (.sl (bb H G W U O).length (A L (jr (bb H G W U O)))):=aH (plL H G W U O hn 0 (Bc _) rfl)
end
def ajY:List Ty:=[.sl L,tI,tI,tI]
def aqO:List V->Prop
 |[.sl H _,.int _ _,.int _ _,.int _ _]=>H<=1000|_=>False
def abP:List V->V
 |[.sl H G,.int _ W,.int _ U,.int _ O]=>.sl (bb H G W U O).length (A L (jr (bb H G W U O)))|_=>.any
def NI:aD:=bP ajY aqO abP
theorem ag4 (hn:H<=1000):aU (Ev (y9 H G W U O)) (Rt H G W U O) (.sl (bb H (A L G) W U O).length (A L (jr (bb H (A L G) W U O)))):=hy1 H G W U O hn
theorem apX (QS:List Int) (i:Nat):nX 1 (A L (jr QS) i)=true/\(dl (A L (jr QS) i)).all bM=true/\(A L (jr QS) i).all V.fc=true:=by refine⟨rfl,?_,rfl⟩;show(dl [D _]).all bM=true;simp only[dl,dj,Dj,bM,List.all_nil,JA]
theorem hsm (ds:List V):eH (abP (ap ajY ds)):=by show eH (V.sl _ (A L _));simp only[eH];exact λi hi=>nW _
theorem nc8:∀ds d p r,NI ds=some (d,p,r)->d.1=d.2->p->∀w0 lh args,bK w0 lh Nu.nil ds args->∃x new,vr w0 (lh++new) Nu.nil r x:=ajS (λds SH hp w0 lh args ha=>by have hp:aw (av ds)<=1000:=hp;have hl:=(qy (FH (A L (bz (av ds))) (E (1000*aR ds)) (E (1000*bX ds)) (bf ds)) (λi=>E (aA (A L (bz (av ds)) i)*bf ds)) (E (1000*aR ds)) (E (1000*bX ds)) (aw (av ds))).2;exact Hg (e:=1) (n:=(bb (aw (av ds)) (A L (bz (av ds))) (aR ds) (bX ds) (bf ds)).length) (E0 hl K) λi hi=>apX _ i) rfl
theorem amM:(vZ NI).Ok Tryz.prog 168:=ap2 hbn Tryz.func168 bD (λds _=>hsm ds) λds hp=>kt (im9 ..) (ag4 _ _ _ _ _ hp)
def I7:bo:=(168,.conZ NI nc8)::HX
theorem GF:ba Tryz.prog AQ AS I7:=.conZ amM (hbn)
def aew:RT Empty:=.obp (H<=(1000:Nat)) (.obt (.am H (.ret (D (max 0 (min (E (j4 H (A L G) (E (W+1))-1)) (E ((H:Int)-2))))))))
theorem aal:cV cX (aQ JJ I7 u0 r4 [V.sl H (A L G),D W]) (aew H G W):=bF
def aY:Int:=max 0 (min (E (j4 H (A L G) (E (W+1))-1)) (E ((H:Int)-2)))
def OM:V:=D (aY H G W)
theorem akH (hp:H<=1000):aU cN (aew H G W) (OM H G W):=aI (by first|assumption|(exact hp)) (ac (Af (λa0=>AF (by unfold OM aY;rfl))))
def adq:aD:=bP [.sl L,tI] (λ
 |[.sl H G,.int _ W]=>H<=1000|_=>False) λ
 |[.sl H G,.int _ W]=>OM H G W|_=>.any
theorem agc:b7 adq 178:=aT GF λ_ hp=>c7 (aal ..) (akH _ _ _ hp)
def F7 (T:Int) (n6:Nat) (f6:be) (Rp:Nat) (RH:be) (Pt:Int):Prop:=(0<=T/\T<(n6:Int))/\(0<=Pt/\Pt+1<(aw (av (f6 T.toNat)):Int)/\Pt+1<(Rp:Int)/\Rp<=1000)/\E (aA (RH (Pt+1).toNat)-aA (RH Pt.toNat))≠0
theorem F7.w {T:Int} {n6:Nat} {f6:be} {Rp:Nat} {RH:be} {Pt:Int} (h:F7 T n6 f6 Rp RH Pt):E (Pt+1)=Pt+1:=by obtain⟨_,Q,_⟩:=h;exact AX K K
def abt:RT Empty:=dm (s1,R,N,n4,f4,Y,x9,S9,Ub,Po) (.ob (dI T n6) (.ob (decide (0<=Pt/\Pt<(↑(aw (av (f6 T.toNat))):Int))) (.cb (.ob (decide (0<=E (Pt+1)/\E (Pt+1)<(↑(aw (av (f6 T.toNat))):Int))) (.cb (.ob (dI Pt Rp) (.ob (dI (E (Pt+1)) Rp) (.obp (E (aA (RH (E (Pt+(1:Int))).toNat)-aA (RH Pt.toNat))=(0:Int)->False) (.obt (.ret (V.agg [D (ml (aA (bz (av (f6 T.toNat)) Pt.toNat)) (aA (bz (av (f6 T.toNat)) (E (Pt+1)).toNat)) (aA (RH Pt.toNat)) (aA (RH (E (Pt+1)).toNat)) Q2),D (mn (aA (bz (av (f6 T.toNat)) Pt.toNat)) (aA (bz (av (f6 T.toNat)) (E (Pt+1)).toNat)) (aA (RH Pt.toNat)) (aA (RH (E (Pt+1)).toNat)) Q2)])))))))))))
theorem nd6:cV cX (aQ JJ I7 u0 ou [D T,V.pd [V.str s1,V.sl R (A L N),V.sl n4 (A L f4),V.sl n6 (A [Ty.sl L] f6),D Y,D x9,V.sl S9 (A L Ub),V.sl Rp (A L RH),D Po],V.pd [D Pt],V.pd [D Q2]]) (abt T s1 R N n4 f4 n6 f6 Y x9 S9 Ub Rp RH Po Pt Q2):=bF
def mj:Int:=ml (aA (bz (av (f6 T.toNat)) Pt.toNat)) (aA (bz (av (f6 T.toNat)) (E (Pt+1)).toNat)) (aA (RH Pt.toNat)) (aA (RH (E (Pt+1)).toNat)) Q2
def mt:Int:=mn (aA (bz (av (f6 T.toNat)) Pt.toNat)) (aA (bz (av (f6 T.toNat)) (E (Pt+1)).toNat)) (aA (RH Pt.toNat)) (aA (RH (E (Pt+1)).toNat)) Q2
def TB:V:=dm (s1,R,N,n4,f4,n6,Y,x9,S9,Ub,Rp,Po) (.agg [D (mj T f6 RH Pt Q2),D (mt T f6 RH Pt Q2)])
theorem alc (hp:F7 T n6 f6 Rp RH Pt):aU cN (abt T s1 R N n4 f4 n6 f6 Y x9 S9 Ub Rp RH Po Pt Q2) (TB T s1 R N n4 f4 n6 f6 Y x9 S9 Ub Rp RH Po Pt Q2):=aF (by first|assumption|((try rw[hp.w]);exact AG (by obtain⟨M,Q,h3⟩:=hp;omega))) (aF (by first|assumption|((try rw[hp.w]);exact AG (by obtain⟨M,Q,h3⟩:=hp;omega))) (AM (ac (aF (by first|assumption|((try rw[hp.w]);exact AG (by obtain⟨M,Q,h3⟩:=hp;omega))) (AM (ac (aF (by first|assumption|((try rw[hp.w]);exact AG (by obtain⟨M,Q,h3⟩:=hp;omega))) (aF (by first|assumption|((try rw[hp.w]);exact AG (by obtain⟨M,Q,h3⟩:=hp;omega))) (aI (by first|assumption|((rw[hp.w];exact hp.2.2))) (ac (AF (by unfold TB mj mt;rfl))))))))))))
def adR:aD:=bP [tI,.pd [.str,.sl L,.sl L,.sl [.sl L],tI,tI,.sl L,.sl L,tI],.pd L,.pd L] (λ
 |[.int _ T,.pd [.str s1,.sl R N,.sl n4 f4,.sl n6 f6,.int _ Y,.int _ x9,.sl S9 Ub,.sl Rp RH,.int _ Po],.pd [.int _ Pt],.pd [.int _ Q2]]=>F7 T n6 f6 Rp RH Pt|_=>False) λ
 |[.int _ T,.pd [.str s1,.sl R N,.sl n4 f4,.sl n6 f6,.int _ Y,.int _ x9,.sl S9 Ub,.sl Rp RH,.int _ Po],.pd [.int _ Pt],.pd [.int _ Q2]]=>TB T s1 R N n4 f4 n6 f6 Y x9 S9 Ub Rp RH Po Pt Q2|_=>.any
theorem ahH:b7 adR 179:=aT GF λ_ hp=>c7 (nd6 ..) (alc _ _ _ _ _ _ _ _ _ _ _ _ _ _ _ _ _ hp)
def M7:bo:=(178,.con adq)::(179,.con adR)::I7
theorem hY':ba Tryz.prog AQ AS M7:=.con agc (.con ahH (GF))
def oK:Prop:=(2<=n9/\n9<=1000)/\(2<=PS/\PS<=1000)/\(n9<=n5)/\(∀i:Nat,i<n5->PS<=aw (av (q i)))/\(∀i:Nat,i+1<n9->E (aA (f9 (i+1))-aA (f9 i))≠0)/\(∀i:Nat,i+1<PS->E (aA (At (i+1))-aA (At i))≠0)
theorem oK.a {n5:Nat} {q:be} {n9:Nat} {f9:be} {PS:Nat} {At:be} (h:oK n5 q n9 f9 PS At):2<=n9/\n9<=1000:=h.1
theorem oK.b {n5:Nat} {q:be} {n9:Nat} {f9:be} {PS:Nat} {At:be} (h:oK n5 q n9 f9 PS At):2<=PS/\PS<=1000:=h.2.1
theorem oK.c {n5:Nat} {q:be} {n9:Nat} {f9:be} {PS:Nat} {At:be} (h:oK n5 q n9 f9 PS At):n9<=n5:=h.2.2.1
theorem oK.d {n5:Nat} {q:be} {n9:Nat} {f9:be} {PS:Nat} {At:be} (h:oK n5 q n9 f9 PS At):∀i:Nat,i<n5->PS<=aw (av (q i)):=h.2.2.2.1
theorem oK.e {n5:Nat} {q:be} {n9:Nat} {f9:be} {PS:Nat} {At:be} (h:oK n5 q n9 f9 PS At):∀i:Nat,i+1<n9->E (aA (f9 (i+1))-aA (f9 i))≠0:=h.2.2.2.2.1
theorem oK.g {n5:Nat} {q:be} {n9:Nat} {f9:be} {PS:Nat} {At:be} (h:oK n5 q n9 f9 PS At):∀i:Nat,i+1<PS->E (aA (At (i+1))-aA (At i))≠0:=h.2.2.2.2.2
theorem rC {n:Nat} (f:be) (x:Int) (h:2<=n/\n<=1000):0<=aY n f x/\aY n f x+1<(n:Int):=by unfold aY;rw[AX (x:=(n:Int)-2) K K];generalize E _=PX;omega
section
variable {n5:Nat} {q:be} {n9:Nat} {f9:be} {PS:Nat} {At:be} (hp:oK n5 q n9 f9 PS At) (Po Pt:Int)
include hp
theorem PE:E (aY n9 (A L f9) Po+1)=aY n9 (A L f9) Po+1:=by have:=rC (A L f9) Po hp.a;have:=hp.a;exact AX K K
theorem aou (y:Int) (h:0<=y/\y<(n9:Int)):F7 y n5 q PS At (aY PS (A L At) Pt):=by have PX:=rC (A L At) Pt hp.b;have hb:=hp.b;have hc:=hp.c;have hd:=hp.d y.toNat K;have hg:=hp.g (aY PS (A L At) Pt).toNat K;refine⟨K,⟨PX.1,K,PX.2,K⟩,?_⟩;rw[show(aY PS (A L At) Pt+1).toNat=(aY PS (A L At) Pt).toNat+1 by omega];exact hg
theorem AT:F7 (aY n9 (A L f9) Po) n5 q PS At (aY PS (A L At) Pt):=by have p:=rC (A L f9) Po hp.a;exact aou hp Pt _ K
theorem A3:F7 (E (aY n9 (A L f9) Po+1)) n5 q PS At (aY PS (A L At) Pt):=by have p:=rC (A L f9) Po hp.a;rw[PE hp];exact aou hp Pt _ K
theorem aqF:decide (0<=aY n9 (A L f9) Po/\aY n9 (A L f9) Po<(n9:Int))=true:=by have p:=rC (A L f9) Po hp.a;exact AG K
theorem aqr:decide (0<=E (aY n9 (A L f9) Po+1)/\E (aY n9 (A L f9) Po+1)<(n9:Int))=true:=by have p:=rC (A L f9) Po hp.a;rw[PE hp];exact AG K
theorem JO:E (aA (f9 (E (aY n9 (A L f9) Po+1)).toNat)-aA (f9 (aY n9 (A L f9) Po).toNat))≠0:=by have p:=rC (A L f9) Po hp.a;rw[PE hp,show(aY n9 (A L f9) Po+1).toNat=(aY n9 (A L f9) Po).toNat+1 by omega];exact hp.e _ K
theorem MZ:(1<=n9/\n9<=1000)/\1<=PS/\PS<=1000:=by have:=hp.a;have:=hp.b;omega
end
def aeB:RT Empty:=dm (s0,n1,f1,n3,f3,Y,Pk) (.obp (((1:Nat)<=n9/\n9<=(1000:Nat))/\(1:Nat)<=PS/\PS<=(1000:Nat)) (.obt (.br (!bE n9 (A L f9) PS (A L At) Po Pt) (.ret (V.agg [D 0,D Z])) (.obp (n9<=(1000:Nat)) (.obt (.obp (PS<=(1000:Nat)) (.obt (.obp (((0:Int)<=aY n9 (A L f9) Po/\aY n9 (A L f9) Po<(n5:Int))/\((0:Int)<=aY PS (A L At) Pt/\aY PS (A L At) Pt+(1:Int)<(↑(aw (av (q (aY n9 (A L f9) Po).toNat))):Int)/\aY PS (A L At) Pt+(1:Int)<(PS:Int)/\PS<=(1000:Nat))/\E (aA (At (aY PS (A L At) Pt+(1:Int)).toNat)-aA (At (aY PS (A L At) Pt).toNat))≠(0:Int)) (.obt (.obp (((0:Int)<=E (aY n9 (A L f9) Po+(1:Int))/\E (aY n9 (A L f9) Po+(1:Int))<(n5:Int))/\((0:Int)<=aY PS (A L At) Pt/\aY PS (A L At) Pt+(1:Int)<(↑(aw (av (q (E (aY n9 (A L f9) Po+(1:Int))).toNat))):Int)/\aY PS (A L At) Pt+(1:Int)<(PS:Int)/\PS<=(1000:Nat))/\E (aA (At (aY PS (A L At) Pt+(1:Int)).toNat)-aA (At (aY PS (A L At) Pt).toNat))≠(0:Int)) (.obt (.ob (dI (aY n9 (A L f9) Po) n9) (.ob (dI (E (aY n9 (A L f9) Po+1)) n9) (.obp (E (aA (f9 (E (aY n9 (A L f9) Po+(1:Int))).toNat)-aA (f9 (aY n9 (A L f9) Po).toNat))=(0:Int)->False) (.obt (.ret (V.agg [D (ml (mj (aY n9 (A L f9) Po) (A [Ty.sl L] q) (A L At) (aY PS (A L At) Pt) Pt) (mj (E (aY n9 (A L f9) Po+1)) (A [Ty.sl L] q) (A L At) (aY PS (A L At) Pt) Pt) (aA (f9 (aY n9 (A L f9) Po).toNat)) (aA (f9 (E (aY n9 (A L f9) Po+1)).toNat)) Po),D (mn (mt (aY n9 (A L f9) Po) (A [Ty.sl L] q) (A L At) (aY PS (A L At) Pt) Pt) (mt (E (aY n9 (A L f9) Po+1)) (A [Ty.sl L] q) (A L At) (aY PS (A L At) Pt) Pt) (aA (f9 (aY n9 (A L f9) Po).toNat)) (aA (f9 (E (aY n9 (A L f9) Po+1)).toNat)) Po)])))))))))))))))))
theorem io6:cV cX (aQ JJ M7 u0 p9 [V.agg [V.str s0,V.sl n1 (A L f1),V.sl n3 (A L f3),V.sl n5 (A [Ty.sl L] q),D Z,D Y,V.sl n9 (A L f9),V.sl PS (A L At),D Pk],D Po,D Pt]) (aeB s0 n1 f1 n3 f3 n5 q Z Y n9 f9 PS At Pk Po Pt):=bF
def bq:Int:=bif !bE n9 (A L f9) PS (A L At) Po Pt then 0 else ml (mj (aY n9 (A L f9) Po) (A [Ty.sl L] q) (A L At) (aY PS (A L At) Pt) Pt) (mj (E (aY n9 (A L f9) Po+1)) (A [Ty.sl L] q) (A L At) (aY PS (A L At) Pt) Pt) (aA (f9 (aY n9 (A L f9) Po).toNat)) (aA (f9 (E (aY n9 (A L f9) Po+1)).toNat)) Po
def Aq:Int:=bif !bE n9 (A L f9) PS (A L At) Po Pt then Z else mn (mt (aY n9 (A L f9) Po) (A [Ty.sl L] q) (A L At) (aY PS (A L At) Pt) Pt) (mt (E (aY n9 (A L f9) Po+1)) (A [Ty.sl L] q) (A L At) (aY PS (A L At) Pt) Pt) (aA (f9 (aY n9 (A L f9) Po).toNat)) (aA (f9 (E (aY n9 (A L f9) Po+1)).toNat)) Po
def Ib:V:=dm (s0,n1,f1,n3,f3,n5,Y,Pk) (.agg [D (bq q n9 f9 PS At Po Pt),D (Aq q Z n9 f9 PS At Po Pt)])
theorem amY (hp:oK n5 q n9 f9 PS At):aU cN (aeB s0 n1 f1 n3 f3 n5 q Z Y n9 f9 PS At Pk Po Pt) (Ib s0 n1 f1 n3 f3 n5 q Z Y n9 f9 PS At Pk Po Pt):=aI (by first|assumption|(first|exact hp.a.2|exact hp.b.2|exact MZ hp|exact JO hp Po|exact AT hp Po Pt|exact A3 hp Po Pt)) (ac (AP (λh0=>AF (by unfold Ib bq Aq;try rw[h0];rfl)) (λh0=>aI (by first|assumption|(first|exact hp.a.2|exact hp.b.2|exact MZ hp|exact JO hp Po|exact AT hp Po Pt|exact A3 hp Po Pt)) (ac (aI (by first|assumption|(first|exact hp.a.2|exact hp.b.2|exact MZ hp|exact JO hp Po|exact AT hp Po Pt|exact A3 hp Po Pt)) (ac (aI (by first|assumption|(first|exact hp.a.2|exact hp.b.2|exact MZ hp|exact JO hp Po|exact AT hp Po Pt|exact A3 hp Po Pt)) (ac (aI (by first|assumption|(first|exact hp.a.2|exact hp.b.2|exact MZ hp|exact JO hp Po|exact AT hp Po Pt|exact A3 hp Po Pt)) (ac (aF (by first|assumption|(first|exact aqF hp Po|exact aqr hp Po)) (aF (by first|assumption|(first|exact aqF hp Po|exact aqr hp Po)) (aI (by first|assumption|(first|exact hp.a.2|exact hp.b.2|exact MZ hp|exact JO hp Po|exact AT hp Po Pt|exact A3 hp Po Pt)) (ac (AF (by unfold Ib bq Aq;try rw[h0];rfl))))))))))))))))
def acR:aD:=bP [.agg [.str,.sl L,.sl L,.sl [.sl L],tI,tI,.sl L,.sl L,tI],tI,tI] (λ
 |[.agg [.str s0,.sl n1 f1,.sl n3 f3,.sl n5 q,.int _ Z,.int _ Y,.sl n9 f9,.sl PS At,.int _ Pk],.int _ Po,.int _ Pt]=>oK n5 q n9 f9 PS At|_=>False) λ
 |[.agg [.str s0,.sl n1 f1,.sl n3 f3,.sl n5 q,.int _ Z,.int _ Y,.sl n9 f9,.sl PS At,.int _ Pk],.int _ Po,.int _ Pt]=>Ib s0 n1 f1 n3 f3 n5 q Z Y n9 f9 PS At Pk Po Pt|_=>.any
theorem afZ:b7 acR 125:=aT hY' λ_ hp=>c7 (io6 ..) (amY _ _ _ _ _ _ _ _ _ _ _ _ _ _ _ _ hp)
def zt:bo:=(126,.inl fe1 u0)::(125,.con acR)::M7
theorem hd':ba Tryz.prog AQ AS zt:=iz Tryz.func126 bD (.con afZ (hY'))
inductive e7 where|L0 (_:Int) (_:Nat) (_ _:Int) (_:Nat)|L2 (_:Int) (_:Nat) (_ _:Int)|L4 (_:Int) (_:Nat) (_ _:Int) (_:Nat) (_:Int) (_:Nat) (_ _:Int)|L5 (_:Int) (_:Nat) (_ _ _:Int) (_:Nat) (_ _ _:Int)
def C5 (l:List AD):List AD:=AD.cells [V.str s0,V.sl n1 (A L f1),V.sl n3 (A L f3),V.sl n5 (A [Ty.sl L] q),D Z,D Y,V.sl n9 (A L f9),V.sl PS (A L At),D Pk] 114::AD.cells [D Po,D Pt,D Q2,D Pb] 97::AD.cells Au 39::AD.cells [D (E (1000*Q2))] 3::AD.cells [D (E (1000*Pb))] 3::AD.cells [D (bq (A [Ty.sl L] q) n9 (A L f9) PS (A L At) (E (1000*Po)) (E (1000*Pb))),D (Aq (A [Ty.sl L] q) Z n9 (A L f9) PS (A L At) (E (1000*Po)) (E (1000*Pb))),D (bq (A [Ty.sl L] q) n9 (A L f9) PS (A L At) (E (1000*Pt)) (E (1000*Q2))),D (Aq (A [Ty.sl L] q) Z n9 (A L f9) PS (A L At) (E (1000*Pt)) (E (1000*Q2))),D (bq (A [Ty.sl L] q) n9 (A L f9) PS (A L At) (E (1000*Pt)) (E (1000*Pb))),D (Aq (A [Ty.sl L] q) Z n9 (A L f9) PS (A L At) (E (1000*Pt)) (E (1000*Pb)))] 39::l
def wv:e7->bT×List AD×Option Ex
 |.L0 PW R1 Qr Rm _=>([(19,D PW),(18,D (PS:Int)),(17,V.sl PS (A L At)),(16,V.kb false),(15,V.kb false),(14,V.kb true),(13,D (E (1000*Pb))),(12,V.yl R1),(11,V.kb false),(10,V.kb false),(9,V.kb true),(8,D (E (1000*Q2))),(7,V.yl R1),(0,V.yl R1),(1,V.pl 12 0),(2,V.pl 13 0),(3,V.pl 11 0)],C5 s0 n1 f1 n3 f3 n5 q Z Y n9 f9 PS At Pk Po Pt Q2 Pb [AD.cells [D Qr,D Rm] 39,AD.cells [V.sl n9 (A L f9)] 32,AD.cells [D (E (1000*Po))] 3,AD.cells [D (E (1000*Pt))] 3,AD.cells [D (E (1000*Po))] 3,AD.cells [V.sl PS (A L At)] 32,AD.cells [D (E (1000*Q2))] 3,AD.cells [D (E (1000*Pb))] 3],none)|.L2 Q9 V1 RG T2=>([(19,D Q9),(18,D (n9:Int)),(17,V.sl n9 (A L f9)),(16,V.kb false),(15,V.kb false),(14,V.kb true),(13,D (E (1000*Pt))),(12,V.yl V1),(11,V.kb false),(10,V.kb false),(9,V.kb true),(8,D (E (1000*Po))),(7,V.yl V1),(0,V.yl V1),(1,V.pl 8 0),(2,V.pl 9 0),(3,V.pl 7 0)],C5 s0 n1 f1 n3 f3 n5 q Z Y n9 f9 PS At Pk Po Pt Q2 Pb [AD.cells [D RG,D T2] 39,AD.cells [V.sl n9 (A L f9)] 32,AD.cells [D (E (1000*Po))] 3,AD.cells [D (E (1000*Pt))] 3],none)|.L4 Qp Rn X9 Ta ..=>([(19,D Qp),(18,D (PS:Int)),(17,V.sl PS (A L At)),(16,V.kb false),(15,V.kb false),(14,V.kb true),(13,D (E (1000*Pb))),(12,V.yl Rn),(11,V.kb false),(10,V.kb false),(9,V.kb true),(8,D (E (1000*Q2))),(7,V.yl Rn),(0,V.yl Rn),(1,V.pl 16 0),(2,V.pl 17 0),(3,V.pl 15 0)],C5 s0 n1 f1 n3 f3 n5 q Z Y n9 f9 PS At Pk Po Pt Q2 Pb [AD.cells [D X9,D Ta] 39,AD.cells [V.sl n9 (A L f9)] 32,AD.cells [D (E (1000*Po))] 3,AD.cells [D (E (1000*Pt))] 3,AD.cells [D (E (1000*Po))] 3,AD.cells [V.sl PS (A L At)] 32,AD.cells [D (E (1000*Q2))] 3,AD.cells [D (E (1000*Pb))] 3,AD.cells [D (E (1000*Pt))] 3,AD.cells [V.sl PS (A L At)] 32,AD.cells [D (E (1000*Q2))] 3,AD.cells [D (E (1000*Pb))] 3],none)|.L5 Qg Ri XB T4 Sb ..=>([(19,D Qg),(18,D (PS:Int)),(17,V.sl PS (A L At)),(16,V.kb false),(15,V.kb false),(14,V.kb true),(13,D (E (1000*Pb))),(12,V.yl Ri),(11,V.kb false),(10,V.kb false),(9,V.kb true),(8,D (E (1000*Q2))),(7,V.yl Ri),(0,V.yl Ri),(1,V.pl 12 0),(2,V.pl 13 0),(3,V.pl 11 0)],C5 s0 n1 f1 n3 f3 n5 q Z Y n9 f9 PS At Pk Po Pt Q2 Pb [AD.cells [D XB,D T4] 39,AD.cells [V.sl n9 (A L f9)] 32,AD.cells [D (E (1000*Po))] 3,AD.cells [D (E (1000*Pt))] 3,AD.cells [D Sb] 3,AD.cells [V.sl PS (A L At)] 32,AD.cells [D (E (1000*Q2))] 3,AD.cells [D (E (1000*Pb))] 3],none)
def ahK:e7->JJ
 |.L0 _ R1 _ _ Vn=>(0,[Cx.n Vn,Cx.n R1])|.L2 _ V1 ..=>(2,[Cx.n V1])|.L4 _ Rn _ _ XJ VG VU VH VI=>(4,[Cx.n XJ,Cx.i VG,Cx.n VU,Cx.i VH,Cx.i VI,Cx.n Rn])|.L5 _ Ri _ _ _ XK XD US UT=>(5,[Cx.n XK,Cx.i XD,Cx.i US,Cx.i UT,Cx.n Ri])
def ybd:AN (cr JJ):=aQ JJ zt u0 xO [V.agg [V.str s0,V.sl n1 (A L f1),V.sl n3 (A L f3),V.sl n5 (A [Ty.sl L] q),D Z,D Y,V.sl n9 (A L f9),V.sl PS (A L At),D Pk],V.agg [D Po,D Pt,D Q2,D Pb]]
def xL (cx:List Cx):Lp JJ:=eX (eC (Ii (eC (Ii (eC (ybd s0 n1 f1 n3 f3 n5 q Z Y n9 f9 PS At Pk Po Pt Q2 Pb) []) (fX cx 0)) []) (fX cx 1)) Fp)
def S62 (cx:List Cx):Lp JJ:=eX (eC (Ii (eC (oU zt u0 (0,[.n (fX cx 0),.n (fX cx 2)]) (xL s0 n1 f1 n3 f3 n5 q Z Y n9 f9 PS At Pk Po Pt Q2 Pb [.n (fX cx 0),.n (fX cx 2)]) (wv s0 n1 f1 n3 f3 n5 q Z Y n9 f9 PS At Pk Po Pt Q2 Pb (.L0 (dw cx 1) (fX cx 2) (dw cx 3) (dw cx 4) (fX cx 0)))) [false]) (fX cx 5)) Fp)
def aeU (cx:List Cx):Lp JJ:=eX (eC (oU zt u0 (4,[.n (fX cx 0),.i (0:Int),.n 0,.i (0:Int),.i (0:Int),.n 0]) (S62 s0 n1 f1 n3 f3 n5 q Z Y n9 f9 PS At Pk Po Pt Q2 Pb [.n (fX cx 0),.i (0:Int),.n 0,.i (0:Int),.i (0:Int),.n 0]) (wv s0 n1 f1 n3 f3 n5 q Z Y n9 f9 PS At Pk Po Pt Q2 Pb (.L4 (0:Int) 0 (0:Int) (0:Int) (fX cx 0) (0:Int) 0 (0:Int) (0:Int)))) [false])
def ib0 (cx:List Cx):Lp JJ:=eX (eC (Ii (eC (oU zt u0 (2,[.n (fX cx 0)]) (aeU s0 n1 f1 n3 f3 n5 q Z Y n9 f9 PS At Pk Po Pt Q2 Pb [.n (fX cx 0)]) (wv s0 n1 f1 n3 f3 n5 q Z Y n9 f9 PS At Pk Po Pt Q2 Pb (.L2 (dw cx 1) (fX cx 0) (dw cx 2) (dw cx 3)))) Fp) (fX cx 4)) Fp)
def alM:JJ->Lp JJ
 |(0,cx)=>xL s0 n1 f1 n3 f3 n5 q Z Y n9 f9 PS At Pk Po Pt Q2 Pb cx|(2,cx)=>aeU s0 n1 f1 n3 f3 n5 q Z Y n9 f9 PS At Pk Po Pt Q2 Pb cx|(4,cx)=>S62 s0 n1 f1 n3 f3 n5 q Z Y n9 f9 PS At Pk Po Pt Q2 Pb cx|(5,cx)=>ib0 s0 n1 f1 n3 f3 n5 q Z Y n9 f9 PS At Pk Po Pt Q2 Pb cx|(_,cx)=>xL s0 n1 f1 n3 f3 n5 q Z Y n9 f9 PS At Pk Po Pt Q2 Pb cx
def asP:LD JJ e7:=⟨ahK,alM s0 n1 f1 n3 f3 n5 q Z Y n9 f9 PS At Pk Po Pt Q2 Pb,wv s0 n1 f1 n3 f3 n5 q Z Y n9 f9 PS At Pk Po Pt Q2 Pb⟩
def aiQ:=A aM (b9 [D (bq (A [Ty.sl L] q) n9 (A L f9) PS (A L At) (E (1000*Po)) (E (1000*Pb))),D (Aq (A [Ty.sl L] q) Z n9 (A L f9) PS (A L At) (E (1000*Po)) (E (1000*Pb))),D (bq (A [Ty.sl L] q) n9 (A L f9) PS (A L At) (E (1000*Pt)) (E (1000*Q2))),D (Aq (A [Ty.sl L] q) Z n9 (A L f9) PS (A L At) (E (1000*Pt)) (E (1000*Q2))),D (bq (A [Ty.sl L] q) n9 (A L f9) PS (A L At) (E (1000*Pt)) (E (1000*Pb))),D (Aq (A [Ty.sl L] q) Z n9 (A L f9) PS (A L At) (E (1000*Pt)) (E (1000*Pb)))] 0 2)
def fv:=((2:Nat)<=n9/\n9<=(1000:Nat))/\((2:Nat)<=PS/\PS<=(1000:Nat))/\n9<=n5/\(∀(i:Nat),i<n5->PS<=aw (av (q i)))/\(∀(i:Nat),i+(1:Nat)<n9->E (aA (f9 (i+(1:Nat)))-aA (f9 i))≠(0:Int))/\∀(i:Nat),i+(1:Nat)<PS->E (aA (At (i+(1:Nat)))-aA (At i))≠(0:Int)
def w4:=A aM (b9 [D (bq (A [Ty.sl L] q) n9 (A L f9) PS (A L At) (E (1000*Pt)) (E (1000*Q2))),D (Aq (A [Ty.sl L] q) Z n9 (A L f9) PS (A L At) (E (1000*Pt)) (E (1000*Q2)))] 0 2)
def wH:=A aM (b9 [D (bq (A [Ty.sl L] q) n9 (A L f9) PS (A L At) (E (1000*Pt)) (E (1000*Pb))),D (Aq (A [Ty.sl L] q) Z n9 (A L f9) PS (A L At) (E (1000*Pt)) (E (1000*Pb)))] 0 2)
def wJ:=A aM (b9 [D (bq (A [Ty.sl L] q) n9 (A L f9) PS (A L At) (E (1000*Po)) (E (1000*Q2))),D (Aq (A [Ty.sl L] q) Z n9 (A L f9) PS (A L At) (E (1000*Po)) (E (1000*Q2)))] 0 2)
def wC:=A aM (b9 [D (bq (A [Ty.sl L] q) n9 (A L f9) PS (A L At) (E (1000*Po)) (E (1000*Pb))),D (Aq (A [Ty.sl L] q) Z n9 (A L f9) PS (A L At) (E (1000*Po)) (E (1000*Pb)))] 0 2)
def wA (Q2 Q9:Int):=A aM (b9 [D (bq (A [Ty.sl L] q) n9 (A L f9) PS (A L At) (aA (f9 Q9.toNat)) (E (1000*Q2))),D (Aq (A [Ty.sl L] q) Z n9 (A L f9) PS (A L At) (aA (f9 Q9.toNat)) (E (1000*Q2)))] 0 2)
def wW (Pb Q9:Int):=A aM (b9 [D (bq (A [Ty.sl L] q) n9 (A L f9) PS (A L At) (aA (f9 Q9.toNat)) (E (1000*Pb))),D (Aq (A [Ty.sl L] q) Z n9 (A L f9) PS (A L At) (aA (f9 Q9.toNat)) (E (1000*Pb)))] 0 2)
def w7:=d7 (Aq (A [Ty.sl L] q) Z n9 (A L f9) PS (A L At) (E (1000*Po)) (E (1000*Q2))) 3 (aiQ q Z n9 f9 PS At Po Pt Q2 Pb)
def sZ:=d6 (bq (A [Ty.sl L] q) n9 (A L f9) PS (A L At) (E (1000*Po)) (E (1000*Q2))) 3 (aiQ q Z n9 f9 PS At Po Pt Q2 Pb)
def afT (Po PW:Int):=A aM (b9 [D (bq (A [Ty.sl L] q) n9 (A L f9) PS (A L At) (E (1000*Po)) (aA (At PW.toNat))),D (Aq (A [Ty.sl L] q) Z n9 (A L f9) PS (A L At) (E (1000*Po)) (aA (At PW.toNat)))] 0 2)
def aAq (Pt Qp:Int):=A aM (b9 [D (bq (A [Ty.sl L] q) n9 (A L f9) PS (A L At) (E (1000*Pt)) (aA (At Qp.toNat))),D (Aq (A [Ty.sl L] q) Z n9 (A L f9) PS (A L At) (E (1000*Pt)) (aA (At Qp.toNat)))] 0 2)
def afr (Qg Sb:Int):=A aM (b9 [D (bq (A [Ty.sl L] q) n9 (A L f9) PS (A L At) Sb (aA (At Qg.toNat))),D (Aq (A [Ty.sl L] q) Z n9 (A L f9) PS (A L At) Sb (aA (At Qg.toNat)))] 0 2)
def zu (Q2 Pb PW:Int):=bif decide (E (1000*Q2)<aA (At PW.toNat)) then decide (aA (At PW.toNat)<E (1000*Pb)) else false
def zy (Q2 Pb Qp:Int):=bif decide (E (1000*Q2)<aA (At Qp.toNat)) then decide (aA (At Qp.toNat)<E (1000*Pb)) else false
def zE (Q2 Pb Qg:Int):=bif decide (E (1000*Q2)<aA (At Qg.toNat)) then decide (aA (At Qg.toNat)<E (1000*Pb)) else false
def yF (Po Pt Q9:Int):=bif decide (E (1000*Po)<aA (f9 Q9.toNat)) then decide (aA (f9 Q9.toNat)<E (1000*Pt)) else false
def gU (s0:ByteArray) (n1:Nat) (f1:be) (n3:Nat) (f3:be) (n5:Nat) (q:be) (Z Y:Int) (n9:Nat) (f9:be) (PS:Nat) (At:be) (Pk Po Pt Q2 Pb:Int):e7->RT e7
 |.L0 PW R1 Qr Rm Vn=>.br (decide (PW<(PS:Int))) (.ob (dI PW PS) (.ii (.obi (.br (zu At Q2 Pb PW) (.ob (zu At Q2 Pb PW) (.ob (zu At Q2 Pb PW) (.obp (((1:Nat)<=n9/\n9<=(1000:Nat))/\(1:Nat)<=PS/\PS<=(1000:Nat)) (.obt (.br (bE n9 (A L f9) PS (A L At) (E (1000*Po)) (aA (At PW.toNat))) (.obp (fv n5 q n9 f9 PS At) (.obt (.cb (.next (iR 0 14 []) (e7.L0 (E (PW+1)) R1 (d6 Qr 1 (afT q Z n9 f9 PS At Po PW)) (d7 Rm 1 (afT q Z n9 f9 PS At Po PW)) Vn) [])))) (.next (iR 0 14 []) (e7.L0 (E (PW+1)) R1 Qr Rm Vn) [])))))) (.next (iR 0 14 []) (e7.L0 (E (PW+1)) R1 Qr Rm Vn) []))))) (.all (λl_12647=>.obp (((1:Nat)<=n9/\n9<=(1000:Nat))/\(1:Nat)<=PS/\PS<=(1000:Nat)) (.obt (.br (bE n9 (A L f9) PS (A L At) (E (1000*Pt)) (E (1000*Q2))) (.obp (fv n5 q n9 f9 PS At) (.obt (.cb (.obp (((1:Nat)<=n9/\n9<=(1000:Nat))/\(1:Nat)<=PS/\PS<=(1000:Nat)) (.obt (.br (bE n9 (A L f9) PS (A L At) (E (1000*Pt)) (E (1000*Pb))) (.obp (fv n5 q n9 f9 PS At) (.obt (.cb (.am PS (.enter (iR 0 18 []) (e7.L4 0 (l_12647) (d6 (d6 Qr 1 (w4 q Z n9 f9 PS At Pt Q2)) 1 (wH q Z n9 f9 PS At Pt Pb)) (d7 (d7 Rm 1 (w4 q Z n9 f9 PS At Pt Q2)) 1 (wH q Z n9 f9 PS At Pt Pb)) Vn PW R1 Qr Rm) []))))) (.am PS (.enter (iR 0 18 []) (e7.L4 0 (l_12647) (d6 Qr 1 (w4 q Z n9 f9 PS At Pt Q2)) (d7 Rm 1 (w4 q Z n9 f9 PS At Pt Q2)) Vn PW R1 Qr Rm) [])))))))) (.obp (((1:Nat)<=n9/\n9<=(1000:Nat))/\(1:Nat)<=PS/\PS<=(1000:Nat)) (.obt (.br (bE n9 (A L f9) PS (A L At) (E (1000*Pt)) (E (1000*Pb))) (.obp (fv n5 q n9 f9 PS At) (.obt (.cb (.am PS (.enter (iR 0 18 []) (e7.L4 0 (l_12647) (d6 Qr 1 (wH q Z n9 f9 PS At Pt Pb)) (d7 Rm 1 (wH q Z n9 f9 PS At Pt Pb)) Vn PW R1 Qr Rm) []))))) (.am PS (.enter (iR 0 18 []) (e7.L4 0 (l_12647) Qr Rm Vn PW R1 Qr Rm) [])))))))))|.L2 Q9 V1 RG T2=>.br (decide (Q9<(n9:Int))) (.ob (dI Q9 n9) (.ii (.obi (.br (yF f9 Po Pt Q9) (.ob (yF f9 Po Pt Q9) (.ob (yF f9 Po Pt Q9) (.all (λl_12833=>.obp (((1:Nat)<=n9/\n9<=(1000:Nat))/\(1:Nat)<=PS/\PS<=(1000:Nat)) (.obt (.br (bE n9 (A L f9) PS (A L At) (aA (f9 Q9.toNat)) (E (1000*Q2))) (.obp (fv n5 q n9 f9 PS At) (.obt (.cb (.obp (((1:Nat)<=n9/\n9<=(1000:Nat))/\(1:Nat)<=PS/\PS<=(1000:Nat)) (.obt (.br (bE n9 (A L f9) PS (A L At) (aA (f9 Q9.toNat)) (E (1000*Pb))) (.obp (fv n5 q n9 f9 PS At) (.obt (.cb (.am PS (.enter (iR 0 14 []) (e7.L5 0 (l_12833) (d6 (d6 RG 1 (wA q Z n9 f9 PS At Q2 Q9)) 1 (wW q Z n9 f9 PS At Pb Q9)) (d7 (d7 T2 1 (wA q Z n9 f9 PS At Q2 Q9)) 1 (wW q Z n9 f9 PS At Pb Q9)) (aA (f9 Q9.toNat)) V1 Q9 RG T2) []))))) (.am PS (.enter (iR 0 14 []) (e7.L5 0 (l_12833) (d6 RG 1 (wA q Z n9 f9 PS At Q2 Q9)) (d7 T2 1 (wA q Z n9 f9 PS At Q2 Q9)) (aA (f9 Q9.toNat)) V1 Q9 RG T2) [])))))))) (.obp (((1:Nat)<=n9/\n9<=(1000:Nat))/\(1:Nat)<=PS/\PS<=(1000:Nat)) (.obt (.br (bE n9 (A L f9) PS (A L At) (aA (f9 Q9.toNat)) (E (1000*Pb))) (.obp (fv n5 q n9 f9 PS At) (.obt (.cb (.am PS (.enter (iR 0 14 []) (e7.L5 0 (l_12833) (d6 RG 1 (wW q Z n9 f9 PS At Pb Q9)) (d7 T2 1 (wW q Z n9 f9 PS At Pb Q9)) (aA (f9 Q9.toNat)) V1 Q9 RG T2) []))))) (.am PS (.enter (iR 0 14 []) (e7.L5 0 (l_12833) RG T2 (aA (f9 Q9.toNat)) V1 Q9 RG T2) []))))))))))) (.next (iR 0 10 []) (e7.L2 (E (Q9+1)) V1 RG T2) []))))) (.ret (V.agg [D RG,D T2]))|.L4 Qp Rn X9 Ta XJ VG VU VH VI=>.br (decide (Qp<(PS:Int))) (.ob (dI Qp PS) (.ii (.obi (.br (zy At Q2 Pb Qp) (.ob (zy At Q2 Pb Qp) (.ob (zy At Q2 Pb Qp) (.obp (((1:Nat)<=n9/\n9<=(1000:Nat))/\(1:Nat)<=PS/\PS<=(1000:Nat)) (.obt (.br (bE n9 (A L f9) PS (A L At) (E (1000*Pt)) (aA (At Qp.toNat))) (.obp (fv n5 q n9 f9 PS At) (.obt (.cb (.next (iR 0 18 []) (e7.L4 (E (Qp+1)) Rn (d6 X9 1 (aAq q Z n9 f9 PS At Pt Qp)) (d7 Ta 1 (aAq q Z n9 f9 PS At Pt Qp)) XJ VG VU VH VI) [])))) (.next (iR 0 18 []) (e7.L4 (E (Qp+1)) Rn X9 Ta XJ VG VU VH VI) [])))))) (.next (iR 0 18 []) (e7.L4 (E (Qp+1)) Rn X9 Ta XJ VG VU VH VI) []))))) (.am n9 (.enter (iR 0 10 []) (e7.L2 0 XJ X9 Ta) []))|.L5 Qg Ri XB T4 Sb XK XD US UT=>.br (decide (Qg<(PS:Int))) (.ob (dI Qg PS) (.ii (.obi (.br (zE At Q2 Pb Qg) (.ob (zE At Q2 Pb Qg) (.ob (zE At Q2 Pb Qg) (.obp (((1:Nat)<=n9/\n9<=(1000:Nat))/\(1:Nat)<=PS/\PS<=(1000:Nat)) (.obt (.br (bE n9 (A L f9) PS (A L At) Sb (aA (At Qg.toNat))) (.obp (fv n5 q n9 f9 PS At) (.obt (.cb (.next (iR 0 14 []) (e7.L5 (E (Qg+1)) Ri (d6 XB 1 (afr q Z n9 f9 PS At Qg Sb)) (d7 T4 1 (afr q Z n9 f9 PS At Qg Sb)) Sb XK XD US UT) [])))) (.next (iR 0 14 []) (e7.L5 (E (Qg+1)) Ri XB T4 Sb XK XD US UT) [])))))) (.next (iR 0 14 []) (e7.L5 (E (Qg+1)) Ri XB T4 Sb XK XD US UT) []))))) (.next (iR 0 10 []) (e7.L2 (E (XD+1)) XK XB T4) [])
def aaV:RT e7:=dm (s0,n1,f1,n3,f3,Y,Pk) (.obp (fv n5 q n9 f9 PS At) (.obt (.obp (fv n5 q n9 f9 PS At) (.obt (.obp (fv n5 q n9 f9 PS At) (.obt (.obp (fv n5 q n9 f9 PS At) (.obt (.cb (.all (λl_12550=>.all (λl_12551=>.obp (((1:Nat)<=n9/\n9<=(1000:Nat))/\(1:Nat)<=PS/\PS<=(1000:Nat)) (.obt (.br (bE n9 (A L f9) PS (A L At) (E (1000*Po)) (E (1000*Q2))) (.obp (fv n5 q n9 f9 PS At) (.obt (.cb (.obp (((1:Nat)<=n9/\n9<=(1000:Nat))/\(1:Nat)<=PS/\PS<=(1000:Nat)) (.obt (.br (bE n9 (A L f9) PS (A L At) (E (1000*Po)) (E (1000*Pb))) (.obp (fv n5 q n9 f9 PS At) (.obt (.cb (.am PS (.enter (iR 0 14 []) (e7.L0 0 (l_12551) (d6 (d6 (sZ q Z n9 f9 PS At Po Pt Q2 Pb) 1 (wJ q Z n9 f9 PS At Po Q2)) 1 (wC q Z n9 f9 PS At Po Pb)) (d7 (d7 (w7 q Z n9 f9 PS At Po Pt Q2 Pb) 1 (wJ q Z n9 f9 PS At Po Q2)) 1 (wC q Z n9 f9 PS At Po Pb)) (l_12550)) []))))) (.am PS (.enter (iR 0 14 []) (e7.L0 0 (l_12551) (d6 (sZ q Z n9 f9 PS At Po Pt Q2 Pb) 1 (wJ q Z n9 f9 PS At Po Q2)) (d7 (w7 q Z n9 f9 PS At Po Pt Q2 Pb) 1 (wJ q Z n9 f9 PS At Po Q2)) (l_12550)) [])))))))) (.obp (((1:Nat)<=n9/\n9<=(1000:Nat))/\(1:Nat)<=PS/\PS<=(1000:Nat)) (.obt (.br (bE n9 (A L f9) PS (A L At) (E (1000*Po)) (E (1000*Pb))) (.obp (fv n5 q n9 f9 PS At) (.obt (.cb (.am PS (.enter (iR 0 14 []) (e7.L0 0 (l_12551) (d6 (sZ q Z n9 f9 PS At Po Pt Q2 Pb) 1 (wC q Z n9 f9 PS At Po Pb)) (d7 (w7 q Z n9 f9 PS At Po Pt Q2 Pb) 1 (wC q Z n9 f9 PS At Po Pb)) (l_12550)) []))))) (.am PS (.enter (iR 0 14 []) (e7.L0 0 (l_12551) (sZ q Z n9 f9 PS At Po Pt Q2 Pb) (w7 q Z n9 f9 PS At Po Pt Q2 Pb) (l_12550)) [])))))))))))))))))))
theorem jf4:d0 zt u0 (asP s0 n1 f1 n3 f3 n5 q Z Y n9 f9 PS At Pk Po Pt Q2 Pb) (ybd s0 n1 f1 n3 f3 n5 q Z Y n9 f9 PS At Pk Po Pt Q2 Pb) (aaV s0 n1 f1 n3 f3 n5 q Z Y n9 f9 PS At Pk Po Pt Q2 Pb) (gU s0 n1 f1 n3 f3 n5 q Z Y n9 f9 PS At Pk Po Pt Q2 Pb):=⟨bF,λs=>by cases s<;>exact bF⟩
def OF (u v:Int) (o:Int×Int):Int×Int:=bif bE n9 f9 PS At u v then(min o.1 (bq q n9 f9 PS At u v),max o.2 (Aq q Z n9 f9 PS At u v)) else o
def Dh (lo hi v:Int):Bool:=bif decide (lo<v) then decide (v<hi) else false
def Df (q:be) (Z:Int) (n9:Nat) (f9:be) (PS:Nat) (At:be) (y0 y1 u:Int) (o:Int×Int):Nat->Int×Int
 |0=>o|k+1=>bif Dh y0 y1 (aA (At k)) then OF q Z n9 f9 PS At u (aA (At k)) (Df q Z n9 f9 PS At y0 y1 u o k) else Df q Z n9 f9 PS At y0 y1 u o k
def GB (y0 y1 u:Int) (o:Int×Int):Int×Int:=OF q Z n9 f9 PS At u y1 (OF q Z n9 f9 PS At u y0 o)
def XI (y0 y1 u:Int) (o:Int×Int):Int×Int:=Df q Z n9 f9 PS At y0 y1 u (GB q Z n9 f9 PS At y0 y1 u o) PS
def Gg (q:be) (Z:Int) (n9:Nat) (f9:be) (PS:Nat) (At:be) (T S y0 y1:Int) (o:Int×Int):Nat->Int×Int
 |0=>o|k+1=>bif Dh T S (aA (f9 k)) then XI q Z n9 f9 PS At y0 y1 (aA (f9 k)) (Gg q Z n9 f9 PS At T S y0 y1 o k) else Gg q Z n9 f9 PS At T S y0 y1 o k
def Jz (T S y0 y1:Int):Int×Int:=(min (min (min (bq q n9 f9 PS At T y0) (bq q n9 f9 PS At T y1)) (bq q n9 f9 PS At S y0)) (bq q n9 f9 PS At S y1),max (max (max (Aq q Z n9 f9 PS At T y0) (Aq q Z n9 f9 PS At T y1)) (Aq q Z n9 f9 PS At S y0)) (Aq q Z n9 f9 PS At S y1))
def L8 (T S y0 y1:Int):Int×Int:=Gg q Z n9 f9 PS At T S y0 y1 (XI q Z n9 f9 PS At y0 y1 S (XI q Z n9 f9 PS At y0 y1 T (Jz q Z n9 f9 PS At T S y0 y1))) n9
def iW:Int:=(L8 q Z n9 f9 PS At (E (1000*Po)) (E (1000*Pt)) (E (1000*Q2)) (E (1000*Pb))).1
def iX:Int:=(L8 q Z n9 f9 PS At (E (1000*Po)) (E (1000*Pt)) (E (1000*Q2)) (E (1000*Pb))).2
theorem q5 {q:be} {Z:Int} {n9:Nat} {f9:be} {PS:Nat} {At:be} {u v:Int} {o:Int×Int} (h:bE n9 f9 PS At u v=true):OF q Z n9 f9 PS At u v o=(min o.1 (bq q n9 f9 PS At u v),max o.2 (Aq q Z n9 f9 PS At u v)):=by unfold OF;rw[h];rfl
theorem tD {q:be} {Z:Int} {n9:Nat} {f9:be} {PS:Nat} {At:be} {u v:Int} {o:Int×Int} (h:bE n9 f9 PS At u v=false):OF q Z n9 f9 PS At u v o=o:=by unfold OF;rw[h];rfl
theorem xK {q:be} {Z:Int} {n9:Nat} {f9:be} {PS:Nat} {At:be} {y0 y1 u:Int} {o:Int×Int} {k:Nat} (h:(bif decide (y0<aA (At k)) then decide (aA (At k)<y1) else false)=true):Df q Z n9 f9 PS At y0 y1 u o (k+1)=OF q Z n9 f9 PS At u (aA (At k)) (Df q Z n9 f9 PS At y0 y1 u o k):=by show(bif Dh _ _ _ then _ else _)=_;rw[show Dh y0 y1 (aA (At k))=true from h];rfl
theorem Kd {q:be} {Z:Int} {n9:Nat} {f9:be} {PS:Nat} {At:be} {y0 y1 u:Int} {o:Int×Int} {k:Nat} (h:(bif decide (y0<aA (At k)) then decide (aA (At k)<y1) else false)=false):Df q Z n9 f9 PS At y0 y1 u o (k+1)=Df q Z n9 f9 PS At y0 y1 u o k:=by show(bif Dh _ _ _ then _ else _)=_;rw[show Dh y0 y1 (aA (At k))=false from h];rfl
theorem aey {q:be} {Z:Int} {n9:Nat} {f9:be} {PS:Nat} {At:be} {T S y0 y1:Int} {o:Int×Int} {k:Nat} (h:(bif decide (T<aA (f9 k)) then decide (aA (f9 k)<S) else false)=true):Gg q Z n9 f9 PS At T S y0 y1 o (k+1)=XI q Z n9 f9 PS At y0 y1 (aA (f9 k)) (Gg q Z n9 f9 PS At T S y0 y1 o k):=by show(bif Dh _ _ _ then _ else _)=_;rw[show Dh T S (aA (f9 k))=true from h];rfl
theorem aaD {q:be} {Z:Int} {n9:Nat} {f9:be} {PS:Nat} {At:be} {T S y0 y1:Int} {o:Int×Int} {k:Nat} (h:(bif decide (T<aA (f9 k)) then decide (aA (f9 k)<S) else false)=false):Gg q Z n9 f9 PS At T S y0 y1 o (k+1)=Gg q Z n9 f9 PS At T S y0 y1 o k:=by show(bif Dh _ _ _ then _ else _)=_;rw[show Dh T S (aA (f9 k))=false from h];rfl
theorem G9 {q:be} {Z:Int} {n9:Nat} {f9:be} {PS:Nat} {At:be} {y0 y1 u:Int} {o:Int×Int} (h:bE n9 f9 PS At u y0=true) (k:bE n9 f9 PS At u y1=true):GB q Z n9 f9 PS At y0 y1 u o=(min (min o.1 (bq q n9 f9 PS At u y0)) (bq q n9 f9 PS At u y1),max (max o.2 (Aq q Z n9 f9 PS At u y0)) (Aq q Z n9 f9 PS At u y1)):=by unfold GB;rw[q5 k,q5 h]
theorem G0 {q:be} {Z:Int} {n9:Nat} {f9:be} {PS:Nat} {At:be} {y0 y1 u:Int} {o:Int×Int} (h:bE n9 f9 PS At u y0=true) (k:bE n9 f9 PS At u y1=false):GB q Z n9 f9 PS At y0 y1 u o=(min o.1 (bq q n9 f9 PS At u y0),max o.2 (Aq q Z n9 f9 PS At u y0)):=by unfold GB;rw[tD k,q5 h]
theorem F4 {q:be} {Z:Int} {n9:Nat} {f9:be} {PS:Nat} {At:be} {y0 y1 u:Int} {o:Int×Int} (h:bE n9 f9 PS At u y0=false) (k:bE n9 f9 PS At u y1=true):GB q Z n9 f9 PS At y0 y1 u o=(min o.1 (bq q n9 f9 PS At u y1),max o.2 (Aq q Z n9 f9 PS At u y1)):=by unfold GB;rw[q5 k,tD h]
theorem Hv {q:be} {Z:Int} {n9:Nat} {f9:be} {PS:Nat} {At:be} {y0 y1 u:Int} {o:Int×Int} (h:bE n9 f9 PS At u y0=false) (k:bE n9 f9 PS At u y1=false):GB q Z n9 f9 PS At y0 y1 u o=o:=by unfold GB;rw[tD k,tD h]
section
variable {Pe:Type} {Nx:Pe->V->Prop} {r:V}
include Pe Nx r
theorem GV {Pu Pg:Prop} {h0 M:Bool} {T11 T10 T01 T00:RT Pe} (hH:Pu) (hQ:Pg) (t11:h0=true->M=true->aU Nx T11 r) (t10:h0=true->M=false->aU Nx T10 r) (t01:h0=false->M=true->aU Nx T01 r) (t00:h0=false->M=false->aU Nx T00 r) :
 aU Nx (.obp Pu (.obt (.br h0 (.obp Pg (.obt (.obc (.obt (.obp Pu (.obt (.br M (.obp Pg (.obt (.obc (.obt T11)))) T10))))))) (.obp Pu (.obt (.br M (.obp Pg (.obt (.obc (.obt T01)))) T00)))))) r :=
 aI hH (ac (AP (λa=>aI hQ (ac (AM (ac (aI hH (ac (AP (λc=>aI hQ (ac (AM (ac (t11 a c))))) (λc=>t10 a c)))))))) (λa=>aI hH (ac (AP (λc=>aI hQ (ac (AM (ac (t01 a c))))) (λc=>t00 a c))))))
theorem TV {Pu Pg:Prop} {c0 c d h:Bool} {T1 bc2 T3:RT Pe} (hc:c0=true) (hH:Pu) (hQ:Pg) (t1:c=true->h=true->aU Nx T1 r) (t2:c=true->h=false->aU Nx bc2 r) (t3:c=false->aU Nx T3 r) :
 aU Nx (.ob c0 (.obi (.obi (.obi (.br c (.ob c (.ob c (.obp Pu (.obt (.br h (.obp Pg (.obt (.obc (.obt T1)))) bc2))))) T3))))) r :=
 aF hc (AE (AE (AE (AP (λa=>aF a (aF a (aI hH (ac (AP (λe=>aI hQ (ac (AM (ac (t1 a e))))) (λe=>t2 a e)))))) (λa=>t3 a)))))
theorem azv {c0 c:Bool} {T1 T3:RT Pe} (hc:c0=true) (t1:c=true->aU Nx T1 r) (t3:c=false->aU Nx T3 r) :
 aU Nx (.ob c0 (.obi (.obi (.obi (.br c (.ob c (.ob c T1)) T3))))) r :=
 aF hc (AE (AE (AE (AP (λa=>aF a (aF a (t1 a))) t3))))
end
def Ov:Int×Int:=Jz (A [Ty.sl L] q) Z n9 (A L f9) PS (A L At) (E (1000*Po)) (E (1000*Pt)) (E (1000*Q2)) (E (1000*Pb))
def UC:Int×Int:=XI (A [Ty.sl L] q) Z n9 (A L f9) PS (A L At) (E (1000*Q2)) (E (1000*Pb)) (E (1000*Po)) (Ov q Z n9 f9 PS At Po Pt Q2 Pb)
def Jw:Int×Int:=XI (A [Ty.sl L] q) Z n9 (A L f9) PS (A L At) (E (1000*Q2)) (E (1000*Pb)) (E (1000*Pt)) (UC q Z n9 f9 PS At Po Pt Q2 Pb)
section
variable (s0:ByteArray) (n1:Nat) (f1:be) (n3:Nat) (f3:be) (n5:Nat) (q:be) (Z:Int) (Y:Int) (n9:Nat) (f9:be) (PS:Nat) (At:be) (Pk:Int) (Po:Int) (Pt:Int) (Q2:Int) (Pb:Int) (hp:oK n5 (A [Ty.sl L] q) n9 (A L f9) PS (A L At))
include hp
theorem iz9 (u i0 o1 o2:Int) (o:Int×Int) (nx:∃ Pn,∀ l1,uc (gU s0 n1 f1 n3 f3 n5 q Z Y n9 f9 PS At Pk Po Pt Q2 Pb) Pn (.L2 (E (i0+1)) l1 (Df (A [Ty.sl L] q) Z n9 (A L f9) PS (A L At) (E (1000*Q2)) (E (1000*Pb)) u o PS).1 (Df (A [Ty.sl L] q) Z n9 (A L f9) PS (A L At) (E (1000*Q2)) (E (1000*Pb)) u o PS).2) (.agg [D (iW (A [Ty.sl L] q) Z n9 (A L f9) PS (A L At) Po Pt Q2 Pb),D (iX (A [Ty.sl L] q) Z n9 (A L f9) PS (A L At) Po Pt Q2 Pb)])):∀ k,k<=PS->∃ Pn,∀ l0 l1,uc (gU s0 n1 f1 n3 f3 n5 q Z Y n9 f9 PS At Pk Po Pt Q2 Pb) Pn (.L5 (k:Int) l0 (Df (A [Ty.sl L] q) Z n9 (A L f9) PS (A L At) (E (1000*Q2)) (E (1000*Pb)) u o k).1 (Df (A [Ty.sl L] q) Z n9 (A L f9) PS (A L At) (E (1000*Q2)) (E (1000*Pb)) u o k).2 u l1 i0 o1 o2) (.agg [D (iW (A [Ty.sl L] q) Z n9 (A L f9) PS (A L At) Po Pt Q2 Pb),D (iX (A [Ty.sl L] q) Z n9 (A L f9) PS (A L At) Po Pt Q2 Pb)]):=by
 refine dv λk hk ih=>?_;have hb:=hp.b;by_cases Pj:k<PS
 ·have hw:E ((k:Int)+1)=((k+1:Nat):Int):=by rw[AX K K];omega
  obtain⟨Pn,ih⟩:=ih Pj;refine⟨Pn+1,λl0 l1=>?_⟩;have ih:=ih l0 l1;refine(show aU (uc (gU s0 n1 f1 n3 f3 n5 q Z Y n9 f9 PS At Pk Po Pt Q2 Pb) Pn) _ _ from ?_);refine cO (AG K) (TV (d:=true) (AG K) (MZ hp) hp (λa e=>aK ?_) (λa e=>aK ?_) (λa=>aK ?_))
  ·rw[hw];have e:bE n9 (A L f9) PS (A L At) u (aA ((A L At) k))=true:=e;rw[xK (At:=(A L At)) (k:=k) a,q5 e]at ih;exact ih
  ·rw[hw];have e:bE n9 (A L f9) PS (A L At) u (aA ((A L At) k))=false:=e;rw[xK (At:=(A L At)) (k:=k) a,tD e]at ih;exact ih
  ·rw[hw];rw[Kd (At:=(A L At)) (k:=k) a]at ih;exact ih
 ·have e:k=PS:=by omega
  obtain⟨Rb,nx⟩:=nx;refine⟨Rb+1,λl0 l1=>?_⟩;refine(show aU (uc (gU s0 n1 f1 n3 f3 n5 q Z Y n9 f9 PS At Pk Po Pt Q2 Pb) Rb) _ _ from ?_);refine cW (eM K) ?_;rw[e];exact aK (nx l1)
theorem m17:∀ k,k<=n9->∃ Pn,∀ l,uc (gU s0 n1 f1 n3 f3 n5 q Z Y n9 f9 PS At Pk Po Pt Q2 Pb) Pn (.L2 (k:Int) l (Gg (A [Ty.sl L] q) Z n9 (A L f9) PS (A L At) (E (1000*Po)) (E (1000*Pt)) (E (1000*Q2)) (E (1000*Pb)) (Jw q Z n9 f9 PS At Po Pt Q2 Pb) k).1 (Gg (A [Ty.sl L] q) Z n9 (A L f9) PS (A L At) (E (1000*Po)) (E (1000*Pt)) (E (1000*Q2)) (E (1000*Pb)) (Jw q Z n9 f9 PS At Po Pt Q2 Pb) k).2) (.agg [D (iW (A [Ty.sl L] q) Z n9 (A L f9) PS (A L At) Po Pt Q2 Pb),D (iX (A [Ty.sl L] q) Z n9 (A L f9) PS (A L At) Po Pt Q2 Pb)]):=by
 refine dv λk hk ih=>?_;have ha:=hp.a;by_cases Pj:k<n9
 ·have hw:E ((k:Int)+1)=((k+1:Nat):Int):=by rw[AX K K];omega
  have ih:=ih Pj;rw[← hw]at ih;by_cases hc:(bif decide ((E (1000*Po))<aA ((A L f9) k)) then decide (aA ((A L f9) k)<(E (1000*Pt))) else false)=true
  ·rw [aey hc]at ih
   obtain⟨Pn,nx⟩:=iz9 s0 n1 f1 n3 f3 n5 q Z Y n9 f9 PS At Pk Po Pt Q2 Pb hp (aA (f9 k)) (k:Int) (Gg (A [Ty.sl L] q) Z n9 (A L f9) PS (A L At) (E (1000*Po)) (E (1000*Pt)) (E (1000*Q2)) (E (1000*Pb)) (Jw q Z n9 f9 PS At Po Pt Q2 Pb) k).1 (Gg (A [Ty.sl L] q) Z n9 (A L f9) PS (A L At) (E (1000*Po)) (E (1000*Pt)) (E (1000*Q2)) (E (1000*Pb)) (Jw q Z n9 f9 PS At Po Pt Q2 Pb) k).2 (GB (A [Ty.sl L] q) Z n9 (A L f9) PS (A L At) (E (1000*Q2)) (E (1000*Pb)) (aA (f9 k)) (Gg (A [Ty.sl L] q) Z n9 (A L f9) PS (A L At) (E (1000*Po)) (E (1000*Pt)) (E (1000*Q2)) (E (1000*Pb)) (Jw q Z n9 f9 PS At Po Pt Q2 Pb) k)) ih 0 (Bc _);refine⟨Pn+1,λl=>?_⟩;refine(show aU (uc (gU s0 n1 f1 n3 f3 n5 q Z Y n9 f9 PS At Pk Po Pt Q2 Pb) Pn) _ _ from ?_);refine cO (AG K) (azv (AG K) (λa=>Ar λl5=>?_) (λa=>?_))
   ·rw [Bt]
    exact(GV (MZ hp) hp (λh0 M=>bC λ_=>aH (by
     have PX:=nx l5 l;rw[G9 h0 M]at PX;exact PX)) (λh0 M=>bC λ_=>aH (by
     have PX:=nx l5 l;rw[G0 h0 M]at PX;exact PX)) (λh0 M=>bC λ_=>aH (by
     have PX:=nx l5 l;rw[F4 h0 M]at PX;exact PX)) (λh0 M=>bC λ_=>aH (by
     have PX:=nx l5 l;rw[Hv h0 M]at PX;exact PX)))
   ·exact absurd (hc.symm.trans a) aO
  ·have hc:=Bool.eq_false_iff.2 hc;rw[aaD hc]at ih;obtain⟨Pn,ih⟩:=ih;refine⟨Pn+1,λl=>?_⟩;refine(show aU (uc (gU s0 n1 f1 n3 f3 n5 q Z Y n9 f9 PS At Pk Po Pt Q2 Pb) Pn) _ _ from ?_);refine cO (AG K) (azv (AG K) (λa=>?_) (λa=>aK (ih l)));exact absurd (hc.symm.trans a) aO
 ·have e:k=n9:=by omega
  refine⟨1,λl=>?_⟩;refine(show aU (uc (gU s0 n1 f1 n3 f3 n5 q Z Y n9 f9 PS At Pk Po Pt Q2 Pb) 0) _ _ from ?_);refine cW (eM K) ?_;rw[e];exact AF rfl
theorem iw3 :∀ k,k<=PS->∃ Pn,∀ l0 n4 i5 n6 i7 i8,uc (gU s0 n1 f1 n3 f3 n5 q Z Y n9 f9 PS At Pk Po Pt Q2 Pb) Pn (.L4 (k:Int) l0 (Df (A [Ty.sl L] q) Z n9 (A L f9) PS (A L At) (E (1000*Q2)) (E (1000*Pb)) (E (1000*Pt)) (GB (A [Ty.sl L] q) Z n9 (A L f9) PS (A L At) (E (1000*Q2)) (E (1000*Pb)) (E (1000*Pt)) (UC q Z n9 f9 PS At Po Pt Q2 Pb)) k).1 (Df (A [Ty.sl L] q) Z n9 (A L f9) PS (A L At) (E (1000*Q2)) (E (1000*Pb)) (E (1000*Pt)) (GB (A [Ty.sl L] q) Z n9 (A L f9) PS (A L At) (E (1000*Q2)) (E (1000*Pb)) (E (1000*Pt)) (UC q Z n9 f9 PS At Po Pt Q2 Pb)) k).2 n4 i5 n6 i7 i8) (.agg [D (iW (A [Ty.sl L] q) Z n9 (A L f9) PS (A L At) Po Pt Q2 Pb),D (iX (A [Ty.sl L] q) Z n9 (A L f9) PS (A L At) Po Pt Q2 Pb)]):=by
 refine dv λk hk ih=>?_;have hb:=hp.b;by_cases Pj:k<PS
 ·have hw:E ((k:Int)+1)=((k+1:Nat):Int):=by rw[AX K K];omega
  obtain⟨Pn,ih⟩:=ih Pj;refine⟨Pn+1,λl0 n4 i5 n6 i7 i8=>?_⟩;have ih:=ih l0 n4 i5 n6 i7 i8;refine(show aU (uc (gU s0 n1 f1 n3 f3 n5 q Z Y n9 f9 PS At Pk Po Pt Q2 Pb) Pn) _ _ from ?_);refine cO (AG K) (TV (d:=true) (AG K) (MZ hp) hp (λa e=>aK ?_) (λa e=>aK ?_) (λa=>aK ?_))
  ·rw[hw];have e:bE n9 (A L f9) PS (A L At) (E (1000*Pt)) (aA ((A L At) k))=true:=e;rw[xK (At:=(A L At)) (k:=k) a,q5 e]at ih;exact ih
  ·rw[hw];have e:bE n9 (A L f9) PS (A L At) (E (1000*Pt)) (aA ((A L At) k))=false:=e;rw[xK (At:=(A L At)) (k:=k) a,tD e]at ih;exact ih
  ·rw[hw];rw[Kd (At:=(A L At)) (k:=k) a]at ih;exact ih
 ·have e:k=PS:=by omega
  obtain⟨Rb,nx⟩:=m17 s0 n1 f1 n3 f3 n5 q Z Y n9 f9 PS At Pk Po Pt Q2 Pb hp 0 (Bc _);refine⟨Rb+1,λl0 n4 i5 n6 i7 i8=>?_⟩;refine(show aU (uc (gU s0 n1 f1 n3 f3 n5 q Z Y n9 f9 PS At Pk Po Pt Q2 Pb) Rb) _ _ from ?_);refine cW (eM K) ?_;rw[e];exact bC λ_=>aH (nx n4)
theorem is0 :∀ k,k<=PS->∃ Pn,∀ l0 n4,uc (gU s0 n1 f1 n3 f3 n5 q Z Y n9 f9 PS At Pk Po Pt Q2 Pb) Pn (.L0 (k:Int) l0 (Df (A [Ty.sl L] q) Z n9 (A L f9) PS (A L At) (E (1000*Q2)) (E (1000*Pb)) (E (1000*Po)) (GB (A [Ty.sl L] q) Z n9 (A L f9) PS (A L At) (E (1000*Q2)) (E (1000*Pb)) (E (1000*Po)) (Ov q Z n9 f9 PS At Po Pt Q2 Pb)) k).1 (Df (A [Ty.sl L] q) Z n9 (A L f9) PS (A L At) (E (1000*Q2)) (E (1000*Pb)) (E (1000*Po)) (GB (A [Ty.sl L] q) Z n9 (A L f9) PS (A L At) (E (1000*Q2)) (E (1000*Pb)) (E (1000*Po)) (Ov q Z n9 f9 PS At Po Pt Q2 Pb)) k).2 n4) (.agg [D (iW (A [Ty.sl L] q) Z n9 (A L f9) PS (A L At) Po Pt Q2 Pb),D (iX (A [Ty.sl L] q) Z n9 (A L f9) PS (A L At) Po Pt Q2 Pb)]):=by
 refine dv λk hk ih=>?_;have hb:=hp.b;by_cases Pj:k<PS
 ·have hw:E ((k:Int)+1)=((k+1:Nat):Int):=by rw[AX K K];omega
  obtain⟨Pn,ih⟩:=ih Pj;refine⟨Pn+1,λl0 n4=>?_⟩;have ih:=ih l0 n4;refine(show aU (uc (gU s0 n1 f1 n3 f3 n5 q Z Y n9 f9 PS At Pk Po Pt Q2 Pb) Pn) _ _ from ?_);refine cO (AG K) (TV (d:=true) (AG K) (MZ hp) hp (λa e=>aK ?_) (λa e=>aK ?_) (λa=>aK ?_))
  ·rw[hw];have e:bE n9 (A L f9) PS (A L At) (E (1000*Po)) (aA ((A L At) k))=true:=e;rw[xK (At:=(A L At)) (k:=k) a,q5 e]at ih;exact ih
  ·rw[hw];have e:bE n9 (A L f9) PS (A L At) (E (1000*Po)) (aA ((A L At) k))=false:=e;rw[xK (At:=(A L At)) (k:=k) a,tD e]at ih;exact ih
  ·rw[hw];rw[Kd (At:=(A L At)) (k:=k) a]at ih;exact ih
 ·have e:k=PS:=by omega
  obtain⟨Rb,nx⟩:=iw3 s0 n1 f1 n3 f3 n5 q Z Y n9 f9 PS At Pk Po Pt Q2 Pb hp 0 (Bc _);refine⟨Rb+1,λl0 n4=>?_⟩;refine(show aU (uc (gU s0 n1 f1 n3 f3 n5 q Z Y n9 f9 PS At Pk Po Pt Q2 Pb) Rb) _ _ from ?_);refine cW (eM K) ?_;rw[e];exact Ar λl4=>(GV (MZ hp) hp (λh0 M=>bC λ_=>aH (by
   have PX:=nx l4 n4 (PS:Int) l0 (UC q Z n9 f9 PS At Po Pt Q2 Pb).1 (UC q Z n9 f9 PS At Po Pt Q2 Pb).2;rw[G9 h0 M]at PX;exact PX)) (λh0 M=>bC λ_=>aH (by
   have PX:=nx l4 n4 (PS:Int) l0 (UC q Z n9 f9 PS At Po Pt Q2 Pb).1 (UC q Z n9 f9 PS At Po Pt Q2 Pb).2;rw[G0 h0 M]at PX;exact PX)) (λh0 M=>bC λ_=>aH (by
   have PX:=nx l4 n4 (PS:Int) l0 (UC q Z n9 f9 PS At Po Pt Q2 Pb).1 (UC q Z n9 f9 PS At Po Pt Q2 Pb).2;rw[F4 h0 M]at PX;exact PX)) (λh0 M=>bC λ_=>aH (by
   have PX:=nx l4 n4 (PS:Int) l0 (UC q Z n9 f9 PS At Po Pt Q2 Pb).1 (UC q Z n9 f9 PS At Po Pt Q2 Pb).2;rw[Hv h0 M]at PX;exact PX)))
end
theorem ajK (hp:oK n5 (A [.sl L] q) n9 (A L f9) PS (A L At)):aU (Ev (gU s0 n1 f1 n3 f3 n5 q Z Y n9 f9 PS At Pk Po Pt Q2 Pb)) (aaV s0 n1 f1 n3 f3 n5 q Z Y n9 f9 PS At Pk Po Pt Q2 Pb) (.agg [D (iW (A [.sl L] q) Z n9 (A L f9) PS (A L At) Po Pt Q2 Pb),D (iX (A [.sl L] q) Z n9 (A L f9) PS (A L At) Po Pt Q2 Pb)]):=by
 obtain⟨Pn,hN⟩:=is0 s0 n1 f1 n3 f3 n5 q Z Y n9 f9 PS At Pk Po Pt Q2 Pb hp 0 (Bc _);exact aI hp (ac (aI hp (ac (aI hp (ac (aI hp (ac (AM (ac (Ar λl4=>Ar λl0=>(GV (MZ hp) hp (λh0 M=>bC λ_=>aH (by
  have PX:=hN l0 l4;rw[G9 h0 M]at PX;exact⟨Pn,PX⟩)) (λh0 M=>bC λ_=>aH (by
  have PX:=hN l0 l4;rw[G0 h0 M]at PX;exact⟨Pn,PX⟩)) (λh0 M=>bC λ_=>aH (by
  have PX:=hN l0 l4;rw[F4 h0 M]at PX;exact⟨Pn,PX⟩)) (λh0 M=>bC λ_=>aH (by
  have PX:=hN l0 l4;rw[Hv h0 M]at PX;exact⟨Pn,PX⟩)))))))))))))
def acE:aD:=bP [.agg [.str,.sl L,.sl L,.sl [.sl L],tI,tI,.sl L,.sl L,tI],.agg gP] (λ
 |[.agg [.str s0,.sl n1 f1,.sl n3 f3,.sl n5 q,.int _ Z,.int _ Y,.sl n9 f9,.sl PS At,.int _ Pk],.agg [.int _ Po,.int _ Pt,.int _ Q2,.int _ Pb]]=>oK n5 q n9 f9 PS At|_=>False) λ
 |[.agg [.str s0,.sl n1 f1,.sl n3 f3,.sl n5 q,.int _ Z,.int _ Y,.sl n9 f9,.sl PS At,.int _ Pk],.agg [.int _ Po,.int _ Pt,.int _ Q2,.int _ Pb]]=>.agg [D (iW q Z n9 f9 PS At Po Pt Q2 Pb),D (iX q Z n9 f9 PS At Po Pt Q2 Pb)]|_=>.any
theorem ak3:b7 acE 66:=aT hd' λ_ hp=>kt (jf4 ..) (ajK _ _ _ _ _ _ _ _ _ _ _ _ _ _ _ _ _ _ hp)
def Ij:bo:=(66,.con acE)::zt
theorem F3:ba Tryz.prog AQ AS Ij:=.con ak3 (hd')
def abg:RT Empty:=dm (s0,S,W,O,x5,x6,PT,PZ,Pk) (.cb (.cb (.ret (V.agg [D (pM U Y PV Po Pt Q2),D (pP U Z x9 Po Pt Q2)]))))
theorem ig9:cV cX (aQ JJ Ij u0 hdy [V.agg [V.str s0,D S,D W,D U,D O,D x5,D x6,D Z,D Y,D x9,D PV,D PT,D PZ,D Pk],V.agg [D Po,D Pt,D Q2]]) (abg s0 S W U O x5 x6 Z Y x9 PV PT PZ Pk Po Pt Q2):=bF
def qM:Int:=pM U Y PV Po Pt Q2
def qK:Int:=pP U Z x9 Po Pt Q2
def Qi:V:=dm (s0,S,W,O,x5,x6,PT,PZ,Pk) (.agg [D (qM U Y PV Po Pt Q2),D (qK U Z x9 Po Pt Q2)])
theorem agh:aU cN (abg s0 S W U O x5 x6 Z Y x9 PV PT PZ Pk Po Pt Q2) (Qi s0 S W U O x5 x6 Z Y x9 PV PT PZ Pk Po Pt Q2):=AM (ac (AM (ac (AF (by unfold Qi qM qK;rfl)))))
def abc:aD:=bP [.agg ao,.agg cg] (λ_=>True) λ|[.agg [.str s0,.int _ S,.int _ W,.int _ U,.int _ O,.int _ x5,.int _ x6,.int _ Z,.int _ Y,.int _ x9,.int _ PV,.int _ PT,.int _ PZ,.int _ Pk],.agg [.int _ Po,.int _ Pt,.int _ Q2]]=>Qi s0 S W U O x5 x6 Z Y x9 PV PT PZ Pk Po Pt Q2|_=>.any
theorem am3:b7 abc 95:=aT F3 λ_ hp=>c7 (ig9 ..) (agh _ _ _ _ _ _ _ _ _ _ _ _ _ _ _ _ _)
def acp:RT Empty:=dm (s0,S,W,O,x5,x6,PT,PZ,Pk) (.obp (nz 1000000) (.obt (.obp (nz 1000) (.obt (.obp (nz 1000000) (.obt (.obp (nz 1000) (.obt (.obp (nz 1000) (.obt (.obp (nz 1000) (.obt (.ret (V.agg [D (dT (E (dT (E (dT (E (U*max 0 (E (1000000-E (Y*Po))))) 1000000*max 0 (E (1000-E (PV*Pt))))) 1000*Q2)) 1000),D (eQ (E (eQ (E (eQ (E (U*max 0 (E (1000000-E (Z*Po))))) 1000000*max 0 (E (1000-E (x9*Pt))))) 1000*Q2)) 1000)]))))))))))))))
theorem jf6:cV cX (aQ JJ Ij u0 af7 [V.agg [V.str s0,D S,D W,D U,D O,D x5,D x6,D Z,D Y,D x9,D PV,D PT,D PZ,D Pk],V.agg [D Po,D Pt,D Q2]]) (acp s0 S W U O x5 x6 Z Y x9 PV PT PZ Pk Po Pt Q2):=bF
def qk:Int:=dT (E (dT (E (dT (E (U*max 0 (E (1000000-E (Y*Po))))) 1000000*max 0 (E (1000-E (PV*Pt))))) 1000*Q2)) 1000
def qB:Int:=eQ (E (eQ (E (eQ (E (U*max 0 (E (1000000-E (Z*Po))))) 1000000*max 0 (E (1000-E (x9*Pt))))) 1000*Q2)) 1000
def PL:V:=dm (s0,S,W,O,x5,x6,PT,PZ,Pk) (.agg [D (qk U Y PV Po Pt Q2),D (qB U Z x9 Po Pt Q2)])
theorem aik:aU cN (acp s0 S W U O x5 x6 Z Y x9 PV PT PZ Pk Po Pt Q2) (PL s0 S W U O x5 x6 Z Y x9 PV PT PZ Pk Po Pt Q2):=aI (by first|assumption|(decide)) (ac (aI (by first|assumption|(decide)) (ac (aI (by first|assumption|(decide)) (ac (aI (by first|assumption|(decide)) (ac (aI (by first|assumption|(decide)) (ac (aI (by first|assumption|(decide)) (ac (AF (by unfold PL qk qB;rfl)))))))))))))
def acF:aD:=bP [.agg ao,.agg cg] (λ_=>True) λ|[.agg [.str s0,.int _ S,.int _ W,.int _ U,.int _ O,.int _ x5,.int _ x6,.int _ Z,.int _ Y,.int _ x9,.int _ PV,.int _ PT,.int _ PZ,.int _ Pk],.agg [.int _ Po,.int _ Pt,.int _ Q2]]=>PL s0 S W U O x5 x6 Z Y x9 PV PT PZ Pk Po Pt Q2|_=>.any
theorem agB:b7 acF 113:=aT F3 λ_ hp=>c7 (jf6 ..) (aik _ _ _ _ _ _ _ _ _ _ _ _ _ _ _ _ _)
theorem ic5 (a b c d e f:Int):qM a b c d e f=qk a b c d e f:=by unfold qM qk pM;rw[Int.max_comm 0,Int.max_comm 0];rfl
theorem hsn (a b c d e f:Int):qK a b c d e f=qB a b c d e f:=by unfold qK qB pP;rw[Int.max_comm 0,Int.max_comm 0];rfl
def An:bo:=(95,.con abc)::(113,.con acF)::Ij
theorem yc:ba Tryz.prog AQ AS An:=.con am3 (.con agB (F3))
def adj:RT Empty:=.obp ((aC H G)/\aC R N) (.obt (.ii (.asm ((bH H (A al G) R (A ao N)==0)=true->H<=9223372036854775807) (.obi (.br (bH H (A al G) R (A ao N)==0) (.ob (bH H (A al G) R (A ao N)==0) (.ob (bH H (A al G) R (A ao N)==0) (.cb (.br (!aB O 0 (E ((H:Int)-1))) (.ret (D 4)) (.ret (D (bH H (A al G) R (A ao N)))))))) (.ret (D (bH H (A al G) R (A ao N)))))))))
theorem ip1:cV cX (aQ JJ An u0 hey [V.agg [V.sl H (A al G),V.sl R (A ao N)],D O]) (adj H G R N O):=bF
def kU:Int:=bif bH H (A al G) R (A ao N)==0 then bif !aB O 0 (E ((H:Int)-1)) then 4 else bH H (A al G) R (A ao N) else bH H (A al G) R (A ao N)
def D3:V:=D (kU H G R N O)
theorem ic14 (hp:aC H G/\aC R N):aU cN (adj H G R N O) (D3 H G R N O):=aI (by first|assumption|(exact hp)) (ac (AE (AE (Af (λa0=>AE (AP (λh0=>aF (by first|assumption|(fail)) (aF (by first|assumption|(fail)) (AM (ac (AP (λM=>AF (by unfold D3 kU;try rw[h0];try rw[M];rfl)) (λM=>AF (by unfold D3 kU;try rw[h0];try rw[M];rfl))))))) (λh0=>AF (by unfold D3 kU;try rw[h0];rfl))))))))
def adY:aD:=bP [.agg [.sl al,.sl ao],tI] (λ
 |[.agg [.sl H G,.sl R N],.int _ O]=>aC H G/\aC R N|_=>False) λ
 |[.agg [.sl H G,.sl R N],.int _ O]=>D3 H G R N O|_=>.any
theorem alo:b7 adY 63:=aT yc λ_ hp=>c7 (ip1 ..) (ic14 _ _ _ _ _ hp)
def adJ:RT Empty:=.obp ((aC H G)/\aC R N) (.obt (.ii (.asm ((bW H (A al G) R (A ao N)==0)=true->H<=9223372036854775807) (.obi (.br (bW H (A al G) R (A ao N)==0) (.ob (bW H (A al G) R (A ao N)==0) (.ob (bW H (A al G) R (A ao N)==0) (.cb (.br (!aG O 0 (E ((H:Int)-1))) (.ret (D 4)) (.ret (D (bW H (A al G) R (A ao N)))))))) (.ret (D (bW H (A al G) R (A ao N)))))))))
theorem iu6:cV cX (aQ JJ An u0 afp [V.agg [V.sl H (A al G),V.sl R (A ao N)],D O]) (adJ H G R N O):=bF
def eu:Int:=bif bW H (A al G) R (A ao N)==0 then bif !aG O 0 (E ((H:Int)-1)) then 4 else bW H (A al G) R (A ao N) else bW H (A al G) R (A ao N)
def DF:V:=D (eu H G R N O)
theorem ahQ (hp:aC H G/\aC R N):aU cN (adJ H G R N O) (DF H G R N O):=aI (by first|assumption|(exact hp)) (ac (AE (AE (Af (λa0=>AE (AP (λh0=>aF (by first|assumption|(fail)) (aF (by first|assumption|(fail)) (AM (ac (AP (λM=>AF (by unfold DF eu;try rw[h0];try rw[M];rfl)) (λM=>AF (by unfold DF eu;try rw[h0];try rw[M];rfl))))))) (λh0=>AF (by unfold DF eu;try rw[h0];rfl))))))))
def aeg:aD:=bP [.agg [.sl al,.sl ao],tI] (λ
 |[.agg [.sl H G,.sl R N],.int _ O]=>aC H G/\aC R N|_=>False) λ
 |[.agg [.sl H G,.sl R N],.int _ O]=>DF H G R N O|_=>.any
theorem ans:b7 aeg 128:=aT yc λ_ hp=>c7 (iu6 ..) (ahQ _ _ _ _ _ hp)
def ac9:RT Empty:=.obp ((aC H G)/\aC R N) (.obt (.ii (.asm ((bW H (A al G) R (A ao N)==0)=true->R<=9223372036854775807) (.obi (.br (bW H (A al G) R (A ao N)==0) (.ob (bW H (A al G) R (A ao N)==0) (.ob (bW H (A al G) R (A ao N)==0) (.cb (.br (!aG O 0 (E ((R:Int)-1))) (.ret (D 4)) (.ret (D (bW H (A al G) R (A ao N)))))))) (.ret (D (bW H (A al G) R (A ao N)))))))))
theorem mnZ:cV cX (aQ JJ An u0 amj [V.agg [V.sl H (A al G),V.sl R (A ao N)],D O]) (ac9 H G R N O):=bF
def fx:Int:=bif bW H (A al G) R (A ao N)==0 then bif !aG O 0 (E ((R:Int)-1)) then 4 else bW H (A al G) R (A ao N) else bW H (A al G) R (A ao N)
def Ey:V:=D (fx H G R N O)
theorem akP (hp:aC H G/\aC R N):aU cN (ac9 H G R N O) (Ey H G R N O):=aI (by first|assumption|(exact hp)) (ac (AE (AE (Af (λa0=>AE (AP (λh0=>aF (by first|assumption|(fail)) (aF (by first|assumption|(fail)) (AM (ac (AP (λM=>AF (by unfold Ey fx;try rw[h0];try rw[M];rfl)) (λM=>AF (by unfold Ey fx;try rw[h0];try rw[M];rfl))))))) (λh0=>AF (by unfold Ey fx;try rw[h0];rfl))))))))
def acU:aD:=bP [.agg [.sl al,.sl ao],tI] (λ
 |[.agg [.sl H G,.sl R N],.int _ O]=>aC H G/\aC R N|_=>False) λ
 |[.agg [.sl H G,.sl R N],.int _ O]=>Ey H G R N O|_=>.any
theorem aja:b7 acU 110:=aT yc λ_ hp=>c7 (mnZ ..) (akP _ _ _ _ _ hp)
theorem Ku {x:Int} {n:Nat} (hn:n<=9223372036854775807) (h:(!aB x 0 (E ((n:Int)-1)))=false):decide (0<=x/\x<(n:Int))=true:=by
 rw[AX K K]at h;unfold aB at h;refine AG ?_;by_cases M:0<=x
 ·by_cases Q:x<=(n:Int)-1
  ·omega
  ·rw[AG M,eM Q]at h;simp at h
 ·rw[eM M]at h;simp at h
def adr:RT Empty:=.obp ((aC H G)/\aC R N) (.obt (.br (bH H (A al G) R (A ao N)!=0) (.ret (V.tup [V.agg [V.str (ByteArray.mk (Array.mk [])),D 0,D 0,D 0,D 0,D 0,D 0,D 0,D 0,D 0,D 0,D 0,D 0,D 0],D (bH H (A al G) R (A ao N))])) (.am R (.cb (.br (!aB O 0 (E ((R:Int)-1))) (.ret (V.tup [V.agg [V.str (ByteArray.mk (Array.mk [])),D 0,D 0,D 0,D 0,D 0,D 0,D 0,D 0,D 0,D 0,D 0,D 0,D 0],D 4])) (.ob (dI O R) (.ret (V.tup [V.agg [V.str (sv (av (N O.toNat))),D (aR (N O.toNat)),D (bX (N O.toNat)),D (bf (N O.toNat)),D (cq (N O.toNat)),D (bG (N O.toNat)),D (bG (I (N O.toNat))),D (bG (I (I (N O.toNat)))),D (bG (I (I (I (N O.toNat))))),D (bG (I (I (I (I (N O.toNat)))))),D (bG (I (I (I (I (I (N O.toNat))))))),D (bG (I (I (I (I (I (I (N O.toNat)))))))),D (bG (I (I (I (I (I (I (I (N O.toNat))))))))),D (bG (I (I (I (I (I (I (I (I (N O.toNat))))))))))],D 0]))))))))
theorem x14:cV cX (aQ JJ An u0 hcp [V.agg [V.sl H (A al G),V.sl R (A ao N)],D O]) (adr H G R N O):=bF
def LU:ByteArray:=bif bH H (A al G) R (A ao N)!=0 then ByteArray.mk (Array.mk []) else bif !aB O 0 (E ((R:Int)-1)) then ByteArray.mk (Array.mk []) else sv (av (N O.toNat))
def b6:Int:=bif bH H (A al G) R (A ao N)!=0 then 0 else bif !aB O 0 (E ((R:Int)-1)) then 0 else aR (N O.toNat)
def wV:Int:=bif bH H (A al G) R (A ao N)!=0 then 0 else bif !aB O 0 (E ((R:Int)-1)) then 0 else bX (N O.toNat)
def jX:Int:=bif bH H (A al G) R (A ao N)!=0 then 0 else bif !aB O 0 (E ((R:Int)-1)) then 0 else bf (N O.toNat)
def wB:Int:=bif bH H (A al G) R (A ao N)!=0 then 0 else bif !aB O 0 (E ((R:Int)-1)) then 0 else cq (N O.toNat)
def wl:Int:=bif bH H (A al G) R (A ao N)!=0 then 0 else bif !aB O 0 (E ((R:Int)-1)) then 0 else bG (N O.toNat)
def wE:Int:=bif bH H (A al G) R (A ao N)!=0 then 0 else bif !aB O 0 (E ((R:Int)-1)) then 0 else bG (I (N O.toNat))
def mu:Int:=bif bH H (A al G) R (A ao N)!=0 then 0 else bif !aB O 0 (E ((R:Int)-1)) then 0 else bG (I (I (N O.toNat)))
def mi:Int:=bif bH H (A al G) R (A ao N)!=0 then 0 else bif !aB O 0 (E ((R:Int)-1)) then 0 else bG (I (I (I (N O.toNat))))
def mH:Int:=bif bH H (A al G) R (A ao N)!=0 then 0 else bif !aB O 0 (E ((R:Int)-1)) then 0 else bG (I (I (I (I (N O.toNat)))))
def km:Int:=bif bH H (A al G) R (A ao N)!=0 then 0 else bif !aB O 0 (E ((R:Int)-1)) then 0 else bG (I (I (I (I (I (N O.toNat))))))
def tT:Int:=bif bH H (A al G) R (A ao N)!=0 then 0 else bif !aB O 0 (E ((R:Int)-1)) then 0 else bG (I (I (I (I (I (I (N O.toNat)))))))
def tH:Int:=bif bH H (A al G) R (A ao N)!=0 then 0 else bif !aB O 0 (E ((R:Int)-1)) then 0 else bG (I (I (I (I (I (I (I (N O.toNat))))))))
def sE:Int:=bif bH H (A al G) R (A ao N)!=0 then 0 else bif !aB O 0 (E ((R:Int)-1)) then 0 else bG (I (I (I (I (I (I (I (I (N O.toNat)))))))))
def cY:Int:=bif bH H (A al G) R (A ao N)!=0 then bH H (A al G) R (A ao N) else bif !aB O 0 (E ((R:Int)-1)) then 4 else 0
def KC:V:=.tup [.agg [.str (LU H G R N O),D (b6 H G R N O),D (wV H G R N O),D (jX H G R N O),D (wB H G R N O),D (wl H G R N O),D (wE H G R N O),D (mu H G R N O),D (mi H G R N O),D (mH H G R N O),D (km H G R N O),D (tT H G R N O),D (tH H G R N O),D (sE H G R N O)],D (cY H G R N O)]
theorem aj6 (hp:aC H G/\aC R N):aU cN (adr H G R N O) (KC H G R N O):=aI (by first|assumption|(exact hp)) (ac (AP (λh0=>AF (by unfold KC LU b6 wV jX wB wl wE mu mi mH km tT tH sE cY;try rw[h0];rfl)) (λh0=>Af (λa1=>AM (ac (AP (λM=>AF (by unfold KC LU b6 wV jX wB wl wE mu mi mH km tT tH sE cY;try rw[h0];try rw[M];rfl)) (λM=>aF (by first|assumption|((exact Ku (a1 rfl) M))) (AF (by unfold KC LU b6 wV jX wB wl wE mu mi mH km tT tH sE cY;try rw[h0];try rw[M];rfl)))))))))
def adv:aD:=bP [.agg [.sl al,.sl ao],tI] (λ
 |[.agg [.sl H G,.sl R N],.int _ O]=>aC H G/\aC R N|_=>False) λ
 |[.agg [.sl H G,.sl R N],.int _ O]=>KC H G R N O|_=>.any
theorem amu:b7 adv 93:=aT yc λ_ hp=>c7 (x14 ..) (aj6 _ _ _ _ _ hp)
structure qN (n:Nat) (f:be):Prop where
 r:∀i,i<n->-5000<=aA (f i)/\aA (f i)<=5000
 u:∀i,i+1<n->aA (f i)<aA (f (i+1))
theorem aqt {n:Nat} {f g:be} (hn:n<=12) (e:∀ i,aA (g i)=aA (f i)) (M:lN n g=true) (Q:ff n g=true):qN n f:=by
 refine⟨λi hi=>?_,λi hi=>?_⟩
 ·have:=dB M i hi;have:=wZ this;rw[e]at this;exact this
 ·have:=dB Q (i+1) hi
  have:decide (aA (g i)<aA (g (i+1)))=true:=by unfold UK at this;rw[AX K K,show((((i+1:Nat):Int)==0)=false) from by simp;omega]at this;have h3:decide (aA (g ((((i+1:Nat):Int)-1).toNat))<aA (g (((i+1:Nat):Int).toNat)))=true:=this;rw[show(((i+1:Nat):Int)-1).toNat=i by omega,show((i+1:Nat):Int).toNat=i+1 by omega]at h3;exact h3
  have:=As this;rw[e,e]at this;exact this
theorem Qy {G:be} {a:Nat} (h:iJ (A al G) a=0):qN (aw (av (I (G a)))) (bz (av (I (G a))))/\qN (aw (av (I (I (G a))))) (bz (av (I (I (G a))))):=by have t:=BE h;unfold iJ at h;obtain⟨_,h⟩:=lP h aO;obtain⟨_,h⟩:=lP h aO;unfold Gk at h;obtain⟨_,h⟩:=lP h aO;obtain⟨M,h⟩:=lP h aO;obtain⟨Q,_⟩:=lP h aO;obtain⟨r1,r2⟩:=Oa M;obtain⟨u1,u2⟩:=Oa Q;exact⟨aqt t.u.2 (λi=>rfl) r1 u1,aqt t.v.2 (λi=>rfl) r2 u2⟩
theorem at9 {x:List V} {Pu:Int} (t:qR x) (u:qN (aw (av (I x))) (bz (av (I x)))) (v:qN (aw (av (I (I x)))) (bz (av (I (I x))))) (h:1<=Pu/\Pu<=30000) :
 oK (Ec x) (zM x) (aw (av (I x))) (dh (bz (av (I x))) Pu) (aw (av (I (I x)))) (dh (bz (av (I (I x)))) Pu):=by
 have key:∀ {n:Nat} {f:be},qN n f->∀ i:Nat,i+1<n->E (aA (dh f Pu (i+1))-aA (dh f Pu i))≠0:=by
  intro n f w i hi;have hu:=w.u i hi;have r0:=w.r i K;have r1:=w.r (i+1) hi;have b:∀a:Int,-5000<=a/\a<=5000->-150000000<=a*Pu/\a*Pu<=150000000:=λa ha=>by have M:a*Pu<=5000*Pu:=Eo ha.2 K;have Q:(-5000)*Pu<=a*Pu:=Eo ha.1 K;omega
  have b0:=b _ r0;have b1:=b _ r1;have e:∀j,aA (dh f Pu j)=E (aA (f j)*Pu):=λj=>rfl;rw[e,e,AX (x:=aA (f i)*Pu) K K,AX (x:=aA (f (i+1))*Pu) K K,AX K K];have:aA (f i)*Pu<aA (f (i+1))*Pu:=Int.mul_lt_mul_of_pos_right hu K;omega
 refine⟨⟨t.u.1,by have:=t.u.2;omega⟩,⟨t.v.1,by have:=t.v.2;omega⟩,by rw[t.n];exact Ah _,λi hi=>?_,key u,key v⟩;have:=t.row i hi;show _<=aw (av (zM x i));omega
theorem asF {H:Nat} {G:be} {R:Nat} {N:be} {O:Int} (h:cY H G R N O=0) :
 (0<=b6 H G R N O/\b6 H G R N O<(H:Int))/\iJ (A al (A al G)) (b6 H G R N O).toNat=0:=by
 unfold cY at h;have e:bH H (A al G) R (A ao N)=0:=by
  by_cases e:bH H (A al G) R (A ao N)=0
  ·exact e
  ·have:(bH H (A al G) R (A ao N)!=0)=true:=by simpa using e
   rw[this]at h;exact h
 have c:=nt H (A al G) R (A ao N);have v:zi H (A al G) R (A ao N):=uE (by have:=congrArg (λp=>p.2.2) c;exact this.symm.trans e);have ne:(bH H (A al G) R (A ao N)!=0)=false:=by rw[e];rfl
 rw[ne]at h;have hb:(!aB O 0 (E ((R:Int)-1)))=false:=by
  cases hh:(!aB O 0 (E ((R:Int)-1))) with
  |false=>rfl|true=>rw[hh]at h;cases h
 have l2:=v.l2;have r:=As (Ku K hb);have ybg:b6 H G R N O=aR (N O.toNat):=by unfold b6;rw[ne,hb];rfl
 have lm:=(S2 (a:=O.toNat) v.l0 (v.lm O.toNat K)).t;have lm:0<=aR (N O.toNat)/\aR (N O.toNat)<(H:Int):=lm;rw[ybg];exact⟨lm,v.tb _ K⟩
def Sw:bo:=(63,.con adY)::(128,.con aeg)::(110,.con acU)::(93,.con adv)::An
theorem fx2:ba Tryz.prog AQ AS Sw:=.con alo (.con ans (.con aja (.con amu (yc))))
def wO:=λi=>ap L (bz (av (I (G (b6 H (A al G) R (A ao N) O).toNat))) i)
def w8:=λi=>ap L (bz (av (I (I (G (b6 H (A al G) R (A ao N) O).toNat)))) i)
def PP:=((2:Nat)<=aw (av (I (G (b6 H (A al G) R (A ao N) O).toNat)))/\aw (av (I (G (b6 H (A al G) R (A ao N) O).toNat)))<=(1000:Nat))/\((2:Nat)<=aw (av (I (I (G (b6 H (A al G) R (A ao N) O).toNat))))/\aw (av (I (I (G (b6 H (A al G) R (A ao N) O).toNat))))<=(1000:Nat))/\aw (av (I (G (b6 H (A al G) R (A ao N) O).toNat)))<=aw (av (I (I (I (G (b6 H (A al G) R (A ao N) O).toNat)))))/\(∀(i:Nat),i<aw (av (I (I (I (G (b6 H (A al G) R (A ao N) O).toNat)))))->aw (av (I (I (G (b6 H (A al G) R (A ao N) O).toNat))))<=aw (av (bz (av (I (I (I (G (b6 H (A al G) R (A ao N) O).toNat))))) i)))/\(∀(i:Nat),i+(1:Nat)<aw (av (I (G (b6 H (A al G) R (A ao N) O).toNat)))->E (aA (dh (wO H G R N O) PZ (i+(1:Nat)))-aA (dh (wO H G R N O) PZ i))≠(0:Int))/\∀(i:Nat),i+(1:Nat)<aw (av (I (I (G (b6 H (A al G) R (A ao N) O).toNat))))->E (aA (dh (w8 H G R N O) PZ (i+(1:Nat)))-aA (dh (w8 H G R N O) PZ i))≠(0:Int)
def wz:RT Empty:=.obp (nz 1000) (.obt (.obp (nz 1000) (.obt (.ret (V.tup [V.agg [D (fS (E (iW (λi=>ap [Ty.sl L] (bz (av (I (I (I (G (b6 H (A al G) R (A ao N) O).toNat))))) i)) (cq (G (b6 H (A al G) R (A ao N) O).toNat)) (aw (av (I (G (b6 H (A al G) R (A ao N) O).toNat)))) (A L (dh (wO H G R N O) PZ)) (aw (av (I (I (G (b6 H (A al G) R (A ao N) O).toNat))))) (A L (dh (w8 H G R N O) PZ)) Y x9 PV PT*qM (jX H (A al G) R (A ao N) O) (mi H (A al G) R (A ao N) O) (km H (A al G) R (A ao N) O) x5 x6 Z)) 1000),D (iA (E (iX (λi=>ap [Ty.sl L] (bz (av (I (I (I (G (b6 H (A al G) R (A ao N) O).toNat))))) i)) (cq (G (b6 H (A al G) R (A ao N) O).toNat)) (aw (av (I (G (b6 H (A al G) R (A ao N) O).toNat)))) (A L (dh (wO H G R N O) PZ)) (aw (av (I (I (G (b6 H (A al G) R (A ao N) O).toNat))))) (A L (dh (w8 H G R N O) PZ)) Y x9 PV PT*qK (jX H (A al G) R (A ao N) O) (mu H (A al G) R (A ao N) O) (mH H (A al G) R (A ao N) O) x5 x6 Z)) 1000)],D 0])))))
def jW:RT Empty:=.obp (PP H G R N O PZ) (.obt (wz H G R N O x5 x6 Z Y x9 PV PT PZ))
def qg:=aw (av (I (G (b6 H (A al G) R (A ao N) O).toNat)))<=(1000:Nat)/\aw (av (I (I (G (b6 H (A al G) R (A ao N) O).toNat))))<=(1000:Nat)
def ta:RT Empty:=.und (.obp (qg H G R N O) (.obt (.und (jW H G R N O x5 x6 Z Y x9 PV PT PZ) (jW H G R N O x5 x6 Z Y x9 PV PT PZ)))) (.obp (qg H G R N O) (.obt (jW H G R N O x5 x6 Z Y x9 PV PT PZ)))
def BQ:RT Empty:=.ob (dI (b6 H (A al G) R (A ao N) O) H) (.und (.cb (.und (.obp (qg H G R N O) (.obt (.und (.obp (PP H G R N O PZ) (.obt (.und (wz H G R N O x5 x6 Z Y x9 PV PT PZ) (wz H G R N O x5 x6 Z Y x9 PV PT PZ)))) (.und (.und (jW H G R N O x5 x6 Z Y x9 PV PT PZ) (jW H G R N O x5 x6 Z Y x9 PV PT PZ)) (.und (jW H G R N O x5 x6 Z Y x9 PV PT PZ) (jW H G R N O x5 x6 Z Y x9 PV PT PZ)))))) (.und (ta H G R N O x5 x6 Z Y x9 PV PT PZ) (ta H G R N O x5 x6 Z Y x9 PV PT PZ)))) (.und (.und (.cb (ta H G R N O x5 x6 Z Y x9 PV PT PZ)) (.cb (.obp (qg H G R N O) (.obt (jW H G R N O x5 x6 Z Y x9 PV PT PZ))))) (.und (.cb (ta H G R N O x5 x6 Z Y x9 PV PT PZ)) (.cb (.obp (qg H G R N O) (.obt (jW H G R N O x5 x6 Z Y x9 PV PT PZ)))))))
def CN:RT Empty:=.br (cY H (A al G) R (A ao N) O==0) (.cb (.br (fT Y x9 PV PT PZ !=0) (.ret (V.tup [V.agg Au,D (fT Y x9 PV PT PZ)])) (BQ H G R N O x5 x6 Z Y x9 PV PT PZ))) (.br (cY H (A al G) R (A ao N) O !=0) (.ret (V.tup [V.agg Au,D (cY H (A al G) R (A ao N) O)])) (BQ H G R N O x5 x6 Z Y x9 PV PT PZ))
def aaQ:RT Empty:=.obp ((aC H G)/\aC R N) (.obt (.br (cY H (A al G) R (A ao N) O==0) (.ob (cY H (A al G) R (A ao N) O==0) (.cb (.br (jo x5 x6 Z) (.brf (.brt (.ret (V.tup [V.agg Au,D 7])))) (CN H G R N O x5 x6 Z Y x9 PV PT PZ)))) (CN H G R N O x5 x6 Z Y x9 PV PT PZ)))
theorem ns2:cV cX (aQ JJ Sw u0 B5 [V.agg [V.sl H (A al G),V.sl R (A ao N)],D O,V.agg [D x5,D x6,D Z],V.agg [D Y,D x9,D PV,D PT],D PZ]) (aaQ H G R N O x5 x6 Z Y x9 PV PT PZ):=bF
def RN (x:List V) (a c d e h:Int):Int:=iW (zM x) (cq x) (aw (av (I x))) (A L (dh (bz (av (I x))) h)) (aw (av (I (I x)))) (A L (dh (bz (av (I (I x)))) h)) a c d e
def Px (x:List V) (a c d e h:Int):Int:=iX (zM x) (cq x) (aw (av (I x))) (A L (dh (bz (av (I x))) h)) (aw (av (I (I x)))) (A L (dh (bz (av (I (I x)))) h)) a c d e
def FI:Int:=bif cY H G R N O==0 then bif jo x5 x6 Z then 7 else fT Y x9 PV PT PZ else cY H G R N O
def PC:Int:=fS (E (RN (G (b6 H G R N O).toNat) Y x9 PV PT PZ*qM (jX H G R N O) (mi H G R N O) (km H G R N O) x5 x6 Z)) 1000
def P8:Int:=iA (E (Px (G (b6 H G R N O).toNat) Y x9 PV PT PZ*qK (jX H G R N O) (mu H G R N O) (mH H G R N O) x5 x6 Z)) 1000
def gM:Int:=bif FI H G R N O x5 x6 Z Y x9 PV PT PZ==0 then PC H G R N O x5 x6 Z Y x9 PV PT PZ else 0
def gJ:Int:=bif FI H G R N O x5 x6 Z Y x9 PV PT PZ==0 then P8 H G R N O x5 x6 Z Y x9 PV PT PZ else 0
def io:Int:=FI H G R N O x5 x6 Z Y x9 PV PT PZ
theorem ae8 (hp:aC H (A al G)/\aC R (A ao N)):aU cN (aaQ H G R N O x5 x6 Z Y x9 PV PT PZ) (.tup [.agg [D (gM H (A al G) R (A ao N) O x5 x6 Z Y x9 PV PT PZ),D (gJ H (A al G) R (A ao N) O x5 x6 Z Y x9 PV PT PZ)],D (io H (A al G) R (A ao N) O x5 x6 Z Y x9 PV PT PZ)]):=by
 have leaf:FI H (A al G) R (A ao N) O x5 x6 Z Y x9 PV PT PZ=0->aU cN (wz H G R N O x5 x6 Z Y x9 PV PT PZ) (.tup [.agg [D (gM H (A al G) R (A ao N) O x5 x6 Z Y x9 PV PT PZ),D (gJ H (A al G) R (A ao N) O x5 x6 Z Y x9 PV PT PZ)],D (io H (A al G) R (A ao N) O x5 x6 Z Y x9 PV PT PZ)]):=λh=>aI aO (ac (aI aO (ac (AF (by unfold gM gJ io;rw[h];rfl)))));have bad:∀ {e:Int},FI H (A al G) R (A ao N) O x5 x6 Z Y x9 PV PT PZ=e->e≠0->aU cN (.ret (V.tup [V.agg [D 0,D 0],D e])) (.tup [.agg [D (gM H (A al G) R (A ao N) O x5 x6 Z Y x9 PV PT PZ),D (gJ H (A al G) R (A ao N) O x5 x6 Z Y x9 PV PT PZ)],D (io H (A al G) R (A ao N) O x5 x6 Z Y x9 PV PT PZ)]):=λh h0=>AF (by unfold gM gJ io;rw[h,show(_==(0:Int))=false from by simpa using h0];rfl);have L7:(cY H (A al G) R (A ao N) O=0->jo x5 x6 Z=false)->aU cN (CN H G R N O x5 x6 Z Y x9 PV PT PZ) (.tup [.agg [D (gM H (A al G) R (A ao N) O x5 x6 Z Y x9 PV PT PZ),D (gJ H (A al G) R (A ao N) O x5 x6 Z Y x9 PV PT PZ)],D (io H (A al G) R (A ao N) O x5 x6 Z Y x9 PV PT PZ)]):=λhw=>by
  have L2:cY H (A al G) R (A ao N) O=0->fT Y x9 PV PT PZ=0->aU cN (BQ H G R N O x5 x6 Z Y x9 PV PT PZ) (.tup [.agg [D (gM H (A al G) R (A ao N) O x5 x6 Z Y x9 PV PT PZ),D (gJ H (A al G) R (A ao N) O x5 x6 Z Y x9 PV PT PZ)],D (io H (A al G) R (A ao N) O x5 x6 Z Y x9 PV PT PZ)]):=λh0 hr=>by
   have ht:FI H (A al G) R (A ao N) O x5 x6 Z Y x9 PV PT PZ=0:=by unfold FI;rw[h0,hw h0,hr];rfl
   have hb:=asF h0;have tb:=BE hb.2;have up:=Qy hb.2;have hH:1<=PZ/\PZ<=30000:=by
    unfold fT at hr;cases hh:aB PZ 1 30000 with
    |true=>exact wZ hh|false=>rw[hh]at hr;cases hr
   have vw:=at9 (Pu:=PZ) tb up.1 up.2 hH;have c4:PP H G R N O PZ:=vw;have c6:qg H G R N O:=⟨vw.1.2,vw.2.1.2⟩;have L3:=leaf ht;have L1:aU cN (jW H G R N O x5 x6 Z Y x9 PV PT PZ) (.tup [.agg [D (gM H (A al G) R (A ao N) O x5 x6 Z Y x9 PV PT PZ),D (gJ H (A al G) R (A ao N) O x5 x6 Z Y x9 PV PT PZ)],D (io H (A al G) R (A ao N) O x5 x6 Z Y x9 PV PT PZ)]):=aI c4 (ac L3);have L5:aU cN (ta H G R N O x5 x6 Z Y x9 PV PT PZ) (.tup [.agg [D (gM H (A al G) R (A ao N) O x5 x6 Z Y x9 PV PT PZ),D (gJ H (A al G) R (A ao N) O x5 x6 Z Y x9 PV PT PZ)],D (io H (A al G) R (A ao N) O x5 x6 Z Y x9 PV PT PZ)]):=⟨aI c6 (ac ⟨L1,L1⟩),aI c6 (ac L1)⟩;refine aF (AG hb.1) ?_
   repeat' (first|exact L3|exact L1|exact L5|refine ac ?_|refine AM ?_|refine aI c4 ?_|refine aI c6 ?_|constructor)
  refine AP (λh=>AM (ac (AP (λQ=>?_) (λQ=>L2 (DU h) (by simpa using Q)))) ) (λh=>AP (λQ=>?_) (λQ=>?_))
  ·exact bad (by unfold FI;rw[h,hw (DU h)];rfl) (by simpa using Q)
  ·exact bad (by unfold FI;rw[h];rfl) (by simpa using Q)
  ·exact absurd (by simpa using Q:cY H (A al G) R (A ao N) O=0) (by simpa using h)
 refine aI hp (ac (AP (λh=>aF h (AM (ac (AP (λQ=>gQ (dX (bad (by unfold FI;rw[h,Q];rfl) aO))) (λQ=>L7 λ_=>Q))))) (λh=>L7 λQ=>?_)));exact absurd Q (by simpa using h)
def ad5:aD:=bP [.agg [.sl al,.sl ao],tI,.agg cg,.agg gP,tI] (λ
 |[.agg [.sl H G,.sl R N],.int _ O,.agg [.int _ x5,.int _ x6,.int _ Z],.agg [.int _ Y,.int _ x9,.int _ PV,.int _ PT],.int _ PZ]=>aC H G/\aC R N|_=>False) λ
 |[.agg [.sl H G,.sl R N],.int _ O,.agg [.int _ x5,.int _ x6,.int _ Z],.agg [.int _ Y,.int _ x9,.int _ PV,.int _ PT],.int _ PZ]=>.tup [.agg [D (gM H G R N O x5 x6 Z Y x9 PV PT PZ),D (gJ H G R N O x5 x6 Z Y x9 PV PT PZ)],D (io H G R N O x5 x6 Z Y x9 PV PT PZ)]|_=>.any
theorem afD:b7 ad5 55:=aT fx2 λ_ hp=>c7 (ns2 ..) (ae8 _ _ _ _ _ _ _ _ _ _ _ _ _ hp)
def Uy:bo:=(55,.con ad5)::Sw
theorem ayt:ba Tryz.prog AQ AS Uy:=.con afD (fx2)
set_option maxHeartbeats 0
set_option linter.unusedSectionVars false
def ge (h:Int):Prop:=(2<=n1/\n1<=1000)/\(2<=n3/\n3<=1000)/\n1<=n5/\(∀i:Nat,i<n5->n3<=aw (av (q i)))/\(∀i:Nat,i+1<n1->E (E (aA (f1 (i+1))-aA (f1 i))*h)≠0)/\(∀i:Nat,i+1<n3->E (E (aA (f3 (i+1))-aA (f3 i))*h)≠0)
theorem ge.a {n1:Nat} {f1:be} {n3:Nat} {f3:be} {n5:Nat} {q:be} {h:Int} (hp:ge n1 f1 n3 f3 n5 q h):2<=n1/\n1<=1000:=hp.1
theorem ge.b {n1:Nat} {f1:be} {n3:Nat} {f3:be} {n5:Nat} {q:be} {h:Int} (hp:ge n1 f1 n3 f3 n5 q h):2<=n3/\n3<=1000:=hp.2.1
theorem hal (p:Nat->Bool):∀ k,MS p k<=k-1
 |0=>Ah _
 |k+1=>by
   unfold MS;have:=hal p k;cases p k
   ·show MS p k<=k+1-1;omega
   ·exact Ah k
theorem e8 {n:Nat} (f:be) (x h:Int) (hn:2<=n/\n<=1000):0<=aS n f x h/\aS n f x h+1<(n:Int):=by have:=hal (λi=>decide (E (aA (f i)*h)<=x)) (n-1);unfold aS;omega
section
variable {n1:Nat} {f1:be} {n3:Nat} {f3:be} {n5:Nat} {q:be} {h p PX:Int} (hp:ge n1 f1 n3 f3 n5 q h) (a:0<=p/\p+1<(n1:Int)) (c:0<=PX/\PX+1<(n3:Int))
include hp a c
theorem EQ:E (p+0)=p:=by have:=hp.1;rw[Int.add_zero];exact AX K K
theorem IP:E (p+1)=p+1:=by have:=hp.1;exact AX K K
theorem Kv:E (PX+1)=PX+1:=by have:=hp.2.1;exact AX K K
theorem OS:E (p+E (0+1))=p+1:=IP hp a c
theorem ayr:decide (0<=E (p+0)/\E (p+0)<(n5:Int))=true:=by rw[EQ hp a c];have:=hp.2.2.1;exact AG K
theorem ayh:decide (0<=E (p+E (0+1))/\E (p+E (0+1))<(n5:Int))=true:=by rw[OS hp a c];have:=hp.2.2.1;exact AG K
theorem av7:decide (0<=PX/\PX<(aw (av (q (E (p+0)).toNat)):Int))=true:=by rw[EQ hp a c];have h3:=hp.2.2.1;have:=hp.2.2.2.1 p.toNat K;exact AG K
theorem avS:decide (0<=E (PX+1)/\E (PX+1)<(aw (av (q (E (p+0)).toNat)):Int))=true:=by rw[EQ hp a c,Kv hp a c];have h3:=hp.2.2.1;have:=hp.2.2.2.1 p.toNat K;exact AG K
theorem azY:decide (0<=PX/\PX<(aw (av (q (E (p+E (0+1))).toNat)):Int))=true:=by rw[OS hp a c];have h3:=hp.2.2.1;have:=hp.2.2.2.1 (p+1).toNat K;exact AG K
theorem axL:decide (0<=E (PX+1)/\E (PX+1)<(aw (av (q (E (p+E (0+1))).toNat)):Int))=true:=by rw[OS hp a c,Kv hp a c];have h3:=hp.2.2.1;have:=hp.2.2.2.1 (p+1).toNat K;exact AG K
theorem azb:decide (0<=PX/\PX<(n3:Int))=true:=AG K
theorem az5:decide (0<=E (PX+1)/\E (PX+1)<(n3:Int))=true:=by rw[Kv hp a c];exact AG K
theorem azZ:decide (0<=p/\p<(n1:Int))=true:=AG K
theorem aoq:decide (0<=E (p+1)/\E (p+1)<(n1:Int))=true:=by rw[IP hp a c];exact AG K
theorem av5:cU (aA (f3 PX.toNat)) (aA (f3 (E (PX+1)).toNat)) h=0->False:=by rw[Kv hp a c,show(PX+1).toNat=PX.toNat+1 by omega];exact hp.2.2.2.2.2 _ K
theorem ayX:cU (aA (f1 p.toNat)) (aA (f1 (E (p+1)).toNat)) h=0->False:=by rw[IP hp a c,show(p+1).toNat=p.toNat+1 by omega];exact hp.2.2.2.2.1 _ K
theorem aq0:((1:Nat)<=n1/\n1<=1000)/\1<=n3/\n3<=1000:=by have:=hp.1;have:=hp.2.1;omega
end
def ad0:RT Empty:=dm (s0,Y) (.obp (((1:Nat)<=n1/\n1<=(1000:Nat))/\(1:Nat)<=n3/\n3<=(1000:Nat)) (.obt (.br (!fU n1 (A L f1) n3 (A L f3) x9 PV PT) (.ret (V.agg [D 0,D Z])) (.cb (.cb (.brt (.ob (dI (E (aS n1 (A L f1) x9 PT+0)) n5) (.ob (decide (0<=aS n3 (A L f3) PV PT/\aS n3 (A L f3) PV PT<(↑(aw (av (q (E (aS n1 (A L f1) x9 PT+0)).toNat))):Int))) (.ob (dI (E (aS n1 (A L f1) x9 PT+0)) n5) (.ob (decide (0<=E (aS n3 (A L f3) PV PT+1)/\E (aS n3 (A L f3) PV PT+1)<(↑(aw (av (q (E (aS n1 (A L f1) x9 PT+0)).toNat))):Int))) (.ob (dI (aS n3 (A L f3) PV PT) n3) (.ob (dI (E (aS n3 (A L f3) PV PT+1)) n3) (.cb (.obp (cU (aA (f3 (aS n3 (A L f3) PV PT).toNat)) (aA (f3 (E (aS n3 (A L f3) PV PT+(1:Int))).toNat)) PT=(0:Int)->False) (.obt (.obp (cU (aA (f3 (aS n3 (A L f3) PV PT).toNat)) (aA (f3 (E (aS n3 (A L f3) PV PT+(1:Int))).toNat)) PT=(0:Int)->False) (.obt (.obt (.brt (.ob (dI (E (aS n1 (A L f1) x9 PT+E (0+1))) n5) (.ob (decide (0<=aS n3 (A L f3) PV PT/\aS n3 (A L f3) PV PT<(↑(aw (av (q (E (aS n1 (A L f1) x9 PT+E (0+1))).toNat))):Int))) (.ob (dI (E (aS n1 (A L f1) x9 PT+E (0+1))) n5) (.ob (decide (0<=E (aS n3 (A L f3) PV PT+1)/\E (aS n3 (A L f3) PV PT+1)<(↑(aw (av (q (E (aS n1 (A L f1) x9 PT+E (0+1))).toNat))):Int))) (.ob (dI (aS n3 (A L f3) PV PT) n3) (.ob (dI (E (aS n3 (A L f3) PV PT+1)) n3) (.cb (.obp (cU (aA (f3 (aS n3 (A L f3) PV PT).toNat)) (aA (f3 (E (aS n3 (A L f3) PV PT+(1:Int))).toNat)) PT=(0:Int)->False) (.obt (.obp (cU (aA (f3 (aS n3 (A L f3) PV PT).toNat)) (aA (f3 (E (aS n3 (A L f3) PV PT+(1:Int))).toNat)) PT=(0:Int)->False) (.obt (.obt (.brf (.obt (.obt (.ob (dI (aS n1 (A L f1) x9 PT) n1) (.ob (dI (E (aS n1 (A L f1) x9 PT+1)) n1) (.cb (.obt (.obt (.ob (dI (aS n1 (A L f1) x9 PT) n1) (.ob (dI (E (aS n1 (A L f1) x9 PT+1)) n1) (.cb (.obp (cU (aA (f1 (aS n1 (A L f1) x9 PT).toNat)) (aA (f1 (E (aS n1 (A L f1) x9 PT+(1:Int))).toNat)) PT=(0:Int)->False) (.obt (.obp (cU (aA (f1 (aS n1 (A L f1) x9 PT).toNat)) (aA (f1 (E (aS n1 (A L f1) x9 PT+(1:Int))).toNat)) PT=(0:Int)->False) (.obt (.ret (V.agg [D (dT (d5 (dT (d5 (aA (bz (av (q (E (aS n1 (A L f1) x9 PT+0)).toNat)) (aS n3 (A L f3) PV PT).toNat)) (aA (bz (av (q (E (aS n1 (A L f1) x9 PT+0)).toNat)) (E (aS n3 (A L f3) PV PT+1)).toNat)) (aA (f3 (aS n3 (A L f3) PV PT).toNat)) (aA (f3 (E (aS n3 (A L f3) PV PT+1)).toNat)) PV PT) (cU (aA (f3 (aS n3 (A L f3) PV PT).toNat)) (aA (f3 (E (aS n3 (A L f3) PV PT+1)).toNat)) PT)) (dT (d5 (aA (bz (av (q (E (aS n1 (A L f1) x9 PT+E (0+1))).toNat)) (aS n3 (A L f3) PV PT).toNat)) (aA (bz (av (q (E (aS n1 (A L f1) x9 PT+E (0+1))).toNat)) (E (aS n3 (A L f3) PV PT+1)).toNat)) (aA (f3 (aS n3 (A L f3) PV PT).toNat)) (aA (f3 (E (aS n3 (A L f3) PV PT+1)).toNat)) PV PT) (cU (aA (f3 (aS n3 (A L f3) PV PT).toNat)) (aA (f3 (E (aS n3 (A L f3) PV PT+1)).toNat)) PT)) (aA (f1 (aS n1 (A L f1) x9 PT).toNat)) (aA (f1 (E (aS n1 (A L f1) x9 PT+1)).toNat)) x9 PT) (cU (aA (f1 (aS n1 (A L f1) x9 PT).toNat)) (aA (f1 (E (aS n1 (A L f1) x9 PT+1)).toNat)) PT)),D (eQ (d5 (eQ (d5 (aA (bz (av (q (E (aS n1 (A L f1) x9 PT+0)).toNat)) (aS n3 (A L f3) PV PT).toNat)) (aA (bz (av (q (E (aS n1 (A L f1) x9 PT+0)).toNat)) (E (aS n3 (A L f3) PV PT+1)).toNat)) (aA (f3 (aS n3 (A L f3) PV PT).toNat)) (aA (f3 (E (aS n3 (A L f3) PV PT+1)).toNat)) PV PT) (cU (aA (f3 (aS n3 (A L f3) PV PT).toNat)) (aA (f3 (E (aS n3 (A L f3) PV PT+1)).toNat)) PT)) (eQ (d5 (aA (bz (av (q (E (aS n1 (A L f1) x9 PT+E (0+1))).toNat)) (aS n3 (A L f3) PV PT).toNat)) (aA (bz (av (q (E (aS n1 (A L f1) x9 PT+E (0+1))).toNat)) (E (aS n3 (A L f3) PV PT+1)).toNat)) (aA (f3 (aS n3 (A L f3) PV PT).toNat)) (aA (f3 (E (aS n3 (A L f3) PV PT+1)).toNat)) PV PT) (cU (aA (f3 (aS n3 (A L f3) PV PT).toNat)) (aA (f3 (E (aS n3 (A L f3) PV PT+1)).toNat)) PT)) (aA (f1 (aS n1 (A L f1) x9 PT).toNat)) (aA (f1 (E (aS n1 (A L f1) x9 PT+1)).toNat)) x9 PT) (cU (aA (f1 (aS n1 (A L f1) x9 PT).toNat)) (aA (f1 (E (aS n1 (A L f1) x9 PT+1)).toNat)) PT))]))))))))))))))))))))))))))))))))))))))))))))))))
theorem s18:cV cX (aQ JJ Uy uB ahY [V.agg [V.str s0,V.sl n1 (A L f1),V.sl n3 (A L f3),V.sl n5 (A [Ty.sl L] q),D Z,D Y],D x9,D PV,D PT]) (ad0 s0 n1 f1 n3 f3 n5 q Z Y x9 PV PT):=bF
def il:Int:=bif !fU n1 (A L f1) n3 (A L f3) x9 PV PT then 0 else dT (d5 (dT (d5 (aA (bz (av (q (E (aS n1 (A L f1) x9 PT+0)).toNat)) (aS n3 (A L f3) PV PT).toNat)) (aA (bz (av (q (E (aS n1 (A L f1) x9 PT+0)).toNat)) (E (aS n3 (A L f3) PV PT+1)).toNat)) (aA (f3 (aS n3 (A L f3) PV PT).toNat)) (aA (f3 (E (aS n3 (A L f3) PV PT+1)).toNat)) PV PT) (cU (aA (f3 (aS n3 (A L f3) PV PT).toNat)) (aA (f3 (E (aS n3 (A L f3) PV PT+1)).toNat)) PT)) (dT (d5 (aA (bz (av (q (E (aS n1 (A L f1) x9 PT+E (0+1))).toNat)) (aS n3 (A L f3) PV PT).toNat)) (aA (bz (av (q (E (aS n1 (A L f1) x9 PT+E (0+1))).toNat)) (E (aS n3 (A L f3) PV PT+1)).toNat)) (aA (f3 (aS n3 (A L f3) PV PT).toNat)) (aA (f3 (E (aS n3 (A L f3) PV PT+1)).toNat)) PV PT) (cU (aA (f3 (aS n3 (A L f3) PV PT).toNat)) (aA (f3 (E (aS n3 (A L f3) PV PT+1)).toNat)) PT)) (aA (f1 (aS n1 (A L f1) x9 PT).toNat)) (aA (f1 (E (aS n1 (A L f1) x9 PT+1)).toNat)) x9 PT) (cU (aA (f1 (aS n1 (A L f1) x9 PT).toNat)) (aA (f1 (E (aS n1 (A L f1) x9 PT+1)).toNat)) PT)
def ij:Int:=bif !fU n1 (A L f1) n3 (A L f3) x9 PV PT then Z else eQ (d5 (eQ (d5 (aA (bz (av (q (E (aS n1 (A L f1) x9 PT+0)).toNat)) (aS n3 (A L f3) PV PT).toNat)) (aA (bz (av (q (E (aS n1 (A L f1) x9 PT+0)).toNat)) (E (aS n3 (A L f3) PV PT+1)).toNat)) (aA (f3 (aS n3 (A L f3) PV PT).toNat)) (aA (f3 (E (aS n3 (A L f3) PV PT+1)).toNat)) PV PT) (cU (aA (f3 (aS n3 (A L f3) PV PT).toNat)) (aA (f3 (E (aS n3 (A L f3) PV PT+1)).toNat)) PT)) (eQ (d5 (aA (bz (av (q (E (aS n1 (A L f1) x9 PT+E (0+1))).toNat)) (aS n3 (A L f3) PV PT).toNat)) (aA (bz (av (q (E (aS n1 (A L f1) x9 PT+E (0+1))).toNat)) (E (aS n3 (A L f3) PV PT+1)).toNat)) (aA (f3 (aS n3 (A L f3) PV PT).toNat)) (aA (f3 (E (aS n3 (A L f3) PV PT+1)).toNat)) PV PT) (cU (aA (f3 (aS n3 (A L f3) PV PT).toNat)) (aA (f3 (E (aS n3 (A L f3) PV PT+1)).toNat)) PT)) (aA (f1 (aS n1 (A L f1) x9 PT).toNat)) (aA (f1 (E (aS n1 (A L f1) x9 PT+1)).toNat)) x9 PT) (cU (aA (f1 (aS n1 (A L f1) x9 PT).toNat)) (aA (f1 (E (aS n1 (A L f1) x9 PT+1)).toNat)) PT)
def IX:V:=dm (s0,n5,Y) (.agg [D (il n1 f1 n3 f3 q x9 PV PT),D (ij n1 f1 n3 f3 q Z x9 PV PT)])
theorem ahM (hp:ge n1 f1 n3 f3 n5 q PT):aU cN (ad0 s0 n1 f1 n3 f3 n5 q Z Y x9 PV PT) (IX s0 n1 f1 n3 f3 n5 q Z Y x9 PV PT):=by have a0:=aq0 hp (e8 (A L f1) x9 PT (ge.a hp)) (e8 (A L f3) PV PT (ge.b hp));have a1:=ayr hp (e8 (A L f1) x9 PT (ge.a hp)) (e8 (A L f3) PV PT (ge.b hp));have a2:=ayh hp (e8 (A L f1) x9 PT (ge.a hp)) (e8 (A L f3) PV PT (ge.b hp));have a3:=av7 hp (e8 (A L f1) x9 PT (ge.a hp)) (e8 (A L f3) PV PT (ge.b hp));have a4:=avS hp (e8 (A L f1) x9 PT (ge.a hp)) (e8 (A L f3) PV PT (ge.b hp));have a5:=azY hp (e8 (A L f1) x9 PT (ge.a hp)) (e8 (A L f3) PV PT (ge.b hp));have iza24:=axL hp (e8 (A L f1) x9 PT (ge.a hp)) (e8 (A L f3) PV PT (ge.b hp));have id4:=azb hp (e8 (A L f1) x9 PT (ge.a hp)) (e8 (A L f3) PV PT (ge.b hp));have m64:=az5 hp (e8 (A L f1) x9 PT (ge.a hp)) (e8 (A L f3) PV PT (ge.b hp));have a9:=azZ hp (e8 (A L f1) x9 PT (ge.a hp)) (e8 (A L f3) PV PT (ge.b hp));have a10:=aoq hp (e8 (A L f1) x9 PT (ge.a hp)) (e8 (A L f3) PV PT (ge.b hp));have a11:=av5 hp (e8 (A L f1) x9 PT (ge.a hp)) (e8 (A L f3) PV PT (ge.b hp));have a12:=ayX hp (e8 (A L f1) x9 PT (ge.a hp)) (e8 (A L f3) PV PT (ge.b hp));exact aI (by first|with_reducible assumption|exact a11|exact a12) (ac (AP (λh0=>AF (by unfold IX il ij;try rw[h0];rfl)) (λh0=>AM (ac (AM (ac (dX (aF (by with_reducible assumption) (aF (by with_reducible assumption) (aF (by with_reducible assumption) (aF (by with_reducible assumption) (aF (by with_reducible assumption) (aF (by with_reducible assumption) (AM (ac (aI (by first|with_reducible assumption|exact a11|exact a12) (ac (aI (by first|with_reducible assumption|exact a11|exact a12) (ac (ac (dX (aF (by with_reducible assumption) (aF (by with_reducible assumption) (aF (by with_reducible assumption) (aF (by with_reducible assumption) (aF (by with_reducible assumption) (aF (by with_reducible assumption) (AM (ac (aI (by first|with_reducible assumption|exact a11|exact a12) (ac (aI (by first|with_reducible assumption|exact a11|exact a12) (ac (ac (gQ (ac (ac (aF (by with_reducible assumption) (aF (by with_reducible assumption) (AM (ac (ac (ac (aF (by with_reducible assumption) (aF (by with_reducible assumption) (AM (ac (aI (by first|with_reducible assumption|exact a11|exact a12) (ac (aI (by first|with_reducible assumption|exact a11|exact a12) (ac (AF (by unfold IX il ij;try rw[h0];rfl)))))))))))))))))))))))))))))))))))))))))))))))))))))
def adU:aD:=bP [.agg al,tI,tI,tI] (λ
 |[.agg [.str s0,.sl n1 f1,.sl n3 f3,.sl n5 q,.int _ Z,.int _ Y],.int _ x9,.int _ PV,.int _ PT]=>ge n1 f1 n3 f3 n5 q PT|_=>False) λ
 |[.agg [.str s0,.sl n1 f1,.sl n3 f3,.sl n5 q,.int _ Z,.int _ Y],.int _ x9,.int _ PV,.int _ PT]=>IX s0 n1 f1 n3 f3 n5 q Z Y x9 PV PT|_=>.any
theorem afk:b7 adU 170:=aT ayt λ_ hp=>c7 (s18 ..) (ahM _ _ _ _ _ _ _ _ _ _ _ _ hp)
def FB:bo:=(170,.con adU)::Uy
theorem fo8:ba Tryz.prog AQ AS FB:=.con afk (ayt)
inductive oR where|L0 (_:Int) (_:Bool) (_ _:Int)|L1 (_ _:Int) (_:Bool) (_ _:Int)
def akQ:oR->bT×List AD×Option Ex
 |.L0 PW Tq Qr Rm=>([(11,D PW),(10,V.pl 0 0),(9,V.bool Tq),(8,V.sl (bb n3 (A L f3) PT PZ Pk).length (A L (jr (bb n3 (A L f3) PT PZ Pk)))),(7,V.sl (bb n1 (A L f1) x9 PV Pk).length (A L (jr (bb n1 (A L f1) x9 PV Pk)))),(29,V.sl (bb n3 (A L f3) PT PZ Pk).length (A L (jr (bb n3 (A L f3) PT PZ Pk)))),(21,V.sl (bb n1 (A L f1) x9 PV Pk).length (A L (jr (bb n1 (A L f1) x9 PV Pk)))),(28,D Pk),(27,D PZ),(26,V.pl 1 3),(25,D PT),(24,V.pl 1 2),(23,V.sl n3 (A L f3)),(22,V.pl 2 2),(20,D Pk),(19,D PV),(18,V.pl 1 1),(17,D x9),(16,V.pl 1 0),(15,V.sl n1 (A L f1)),(14,V.pl 2 1),(6,V.pl 3 0),(4,V.pl 1 0),(3,V.pl 2 0),(0,V.agg [V.str s0,V.sl n1 (A L f1),V.sl n3 (A L f3),V.sl n5 (A [Ty.sl L] q),D Z,D Y]),(1,V.agg [D x9,D PV,D PT,D PZ]),(2,D Pk)],[AD.cells [D Qr,D Rm] 39,AD.cells [D x9,D PV,D PT,D PZ] 97,AD.cells [V.str s0,V.sl n1 (A L f1),V.sl n3 (A L f3),V.sl n5 (A [Ty.sl L] q),D Z,D Y] 88,AD.cells Au 39],none)|.L1 Q6 Qd Wh YJ YK=>([(12,D Q6),(33,V.kb true),(32,D (↑(bb n1 (A L f1) x9 PV Pk).length:Int)),(31,V.sl (bb n1 (A L f1) x9 PV Pk).length (A L (jr (bb n1 (A L f1) x9 PV Pk)))),(30,D Qd),(11,D Qd),(10,V.pl 0 0),(9,V.bool Wh),(8,V.sl (bb n3 (A L f3) PT PZ Pk).length (A L (jr (bb n3 (A L f3) PT PZ Pk)))),(7,V.sl (bb n1 (A L f1) x9 PV Pk).length (A L (jr (bb n1 (A L f1) x9 PV Pk)))),(29,V.sl (bb n3 (A L f3) PT PZ Pk).length (A L (jr (bb n3 (A L f3) PT PZ Pk)))),(21,V.sl (bb n1 (A L f1) x9 PV Pk).length (A L (jr (bb n1 (A L f1) x9 PV Pk)))),(28,D Pk),(27,D PZ),(26,V.pl 1 3),(25,D PT),(24,V.pl 1 2),(23,V.sl n3 (A L f3)),(22,V.pl 2 2),(20,D Pk),(19,D PV),(18,V.pl 1 1),(17,D x9),(16,V.pl 1 0),(15,V.sl n1 (A L f1)),(14,V.pl 2 1),(6,V.pl 3 0),(4,V.pl 1 0),(3,V.pl 2 0),(0,V.agg [V.str s0,V.sl n1 (A L f1),V.sl n3 (A L f3),V.sl n5 (A [Ty.sl L] q),D Z,D Y]),(1,V.agg [D x9,D PV,D PT,D PZ]),(2,D Pk)],[AD.cells [D YJ,D YK] 39,AD.cells [D x9,D PV,D PT,D PZ] 97,AD.cells [V.str s0,V.sl n1 (A L f1),V.sl n3 (A L f3),V.sl n5 (A [Ty.sl L] q),D Z,D Y] 88,AD.cells Au 39],none)
def amq:oR->JJ
 |.L0 ..=>(0,[])|.L1 ..=>(1,[])
def fc9:AN (cr JJ):=aQ JJ FB u0 ag5 [V.agg [V.str s0,V.sl n1 (A L f1),V.sl n3 (A L f3),V.sl n5 (A [Ty.sl L] q),D Z,D Y],V.agg [D x9,D PV,D PT,D PZ],D Pk]
def xP (cx:List Cx):Lp JJ:=eX (eC (fc9 s0 n1 f1 n3 f3 n5 q Z Y x9 PV PT PZ Pk) [])
def hs0 (cx:List Cx):Lp JJ:=eX (eC (oU FB u0 (0,[]) (xP s0 n1 f1 n3 f3 n5 q Z Y x9 PV PT PZ Pk []) (akQ s0 n1 f1 n3 f3 n5 q Z Y x9 PV PT PZ Pk (.L0 (0:Int) false (0:Int) (0:Int)))) [true])
def alD:JJ->Lp JJ
 |(0,cx)=>xP s0 n1 f1 n3 f3 n5 q Z Y x9 PV PT PZ Pk cx|(1,cx)=>hs0 s0 n1 f1 n3 f3 n5 q Z Y x9 PV PT PZ Pk cx|(_,cx)=>xP s0 n1 f1 n3 f3 n5 q Z Y x9 PV PT PZ Pk cx
def apZ:LD JJ oR:=⟨amq,alD s0 n1 f1 n3 f3 n5 q Z Y x9 PV PT PZ Pk,akQ s0 n1 f1 n3 f3 n5 q Z Y x9 PV PT PZ Pk⟩
def Bv (Z x9 PV PT PZ Pk Q6 Qd:Int):=ij n1 (A L f1) n3 (A L f3) (A [Ty.sl L] q) Z (aA (jr (bb n1 (A L f1) x9 PV Pk) Qd.toNat)) (aA (jr (bb n3 (A L f3) PT PZ Pk) Q6.toNat)) Pk
def Bm (x9 PV PT PZ Pk Q6 Qd:Int):=il n1 (A L f1) n3 (A L f3) (A [Ty.sl L] q) (aA (jr (bb n1 (A L f1) x9 PV Pk) Qd.toNat)) (aA (jr (bb n3 (A L f3) PT PZ Pk) Q6.toNat)) Pk
def yp (s0:ByteArray) (n1:Nat) (f1:be) (n3:Nat) (f3:be) (n5:Nat) (q:be) (Z Y x9 PV PT PZ Pk:Int):oR->RT oR
 |.L0 PW Tq Qr Rm=>.am (bb n1 (A L f1) x9 PV Pk).length (.br (decide (PW<(↑(bb n1 (A L f1) x9 PV Pk).length:Int))) (.enter (iR 0 4 []) (oR.L1 0 PW (Tq) Qr Rm) []) (.ret (V.agg [D Qr,D Rm])))|.L1 Q6 Qd Wh YJ YK=>.am (bb n3 (A L f3) PT PZ Pk).length (.br (decide (Q6<(↑(bb n3 (A L f3) PT PZ Pk).length:Int))) (.ob (decide (0<=Qd/\Qd<(↑(bb n1 (A L f1) x9 PV Pk).length:Int))) (.ob (decide (0<=Q6/\Q6<(↑(bb n3 (A L f3) PT PZ Pk).length:Int))) (.obp (((1:Nat)<=n1/\n1<=(1000:Nat))/\(1:Nat)<=n3/\n3<=(1000:Nat)) (.obt (.iv (.ii (.br (bif !fU n1 (A L f1) n3 (A L f3) (aA (jr (bb n1 (A L f1) x9 PV Pk) Qd.toNat)) (aA (jr (bb n3 (A L f3) PT PZ Pk) Q6.toNat)) Pk then bif decide (1<Qd) then true else decide (1<Q6) else false) (.next (iR 0 4 []) (oR.L1 (E (Q6+1)) Qd (Wh) YJ YK) []) (.ob (decide (0<=Qd/\Qd<(↑(bb n1 (A L f1) x9 PV Pk).length:Int))) (.ob (decide (0<=Q6/\Q6<(↑(bb n3 (A L f3) PT PZ Pk).length:Int))) (.obp (((2:Nat)<=n1/\n1<=(1000:Nat))/\((2:Nat)<=n3/\n3<=(1000:Nat))/\n1<=n5/\(∀(i:Nat),i<n5->n3<=aw (av (q i)))/\(∀(i:Nat),i+(1:Nat)<n1->E (E (aA (f1 (i+(1:Nat)))-aA (f1 i))*Pk)≠(0:Int))/\∀(i:Nat),i+(1:Nat)<n3->E (E (aA (f3 (i+(1:Nat)))-aA (f3 i))*Pk)≠(0:Int)) (.obt (.br (Wh) (.next (iR 0 4 []) (oR.L1 (E (Q6+1)) Qd (false) (min (Bm n1 f1 n3 f3 q x9 PV PT PZ Pk Q6 Qd) (Bm n1 f1 n3 f3 q x9 PV PT PZ Pk Q6 Qd)) (max (Bv n1 f1 n3 f3 q Z x9 PV PT PZ Pk Q6 Qd) (Bv n1 f1 n3 f3 q Z x9 PV PT PZ Pk Q6 Qd))) []) (.next (iR 0 4 []) (oR.L1 (E (Q6+1)) Qd (Wh) (min YJ (Bm n1 f1 n3 f3 q x9 PV PT PZ Pk Q6 Qd)) (max YK (Bv n1 f1 n3 f3 q Z x9 PV PT PZ Pk Q6 Qd))) []))))))))))))) (.next (iR 0 4 []) (oR.L0 (E (Qd+1)) (Wh) YJ YK) []))
def aez:RT oR:=dm (s0,f1,f3,n5,q,Z,Y,x9,PV,PT,PZ,Pk) (.obp (n1<=(1000:Nat)) (.obt (.obp (n3<=(1000:Nat)) (.obt (.enter [some (some 3),some (some 1),some (some 0),some (some 2)] (oR.L0 0 (true) 0 0) [])))))
theorem sdX:d0 FB u0 (apZ s0 n1 f1 n3 f3 n5 q Z Y x9 PV PT PZ Pk) (fc9 s0 n1 f1 n3 f3 n5 q Z Y x9 PV PT PZ Pk) (aez s0 n1 f1 n3 f3 n5 q Z Y x9 PV PT PZ Pk) (yp s0 n1 f1 n3 f3 n5 q Z Y x9 PV PT PZ Pk):=⟨bF,λs=>by cases s<;>exact bF⟩
def Fh (i k:Nat):Bool:=dm (q,Z) (bif !fU n1 f1 n3 f3 (aA (jr (bb n1 f1 x9 PV Pk) i)) (aA (jr (bb n3 f3 PT PZ Pk) k)) Pk then bif decide (1<(i:Int)) then true else decide (1<(k:Int)) else false)
def OE (i k:Nat):Int:=dm Z (il n1 f1 n3 f3 q (aA (jr (bb n1 f1 x9 PV Pk) i)) (aA (jr (bb n3 f3 PT PZ Pk) k)) Pk)
def OG (i k:Nat):Int:=ij n1 f1 n3 f3 q Z (aA (jr (bb n1 f1 x9 PV Pk) i)) (aA (jr (bb n3 f3 PT PZ Pk) k)) Pk
def Uz (i k:Nat) (o:Bool×Int×Int):Bool×Int×Int:=bif Fh n1 f1 n3 f3 q Z x9 PV PT PZ Pk i k then o else bif o.1 then(false,min (OE n1 f1 n3 f3 q Z x9 PV PT PZ Pk i k) (OE n1 f1 n3 f3 q Z x9 PV PT PZ Pk i k),max (OG n1 f1 n3 f3 q Z x9 PV PT PZ Pk i k) (OG n1 f1 n3 f3 q Z x9 PV PT PZ Pk i k)) else(o.1,min o.2.1 (OE n1 f1 n3 f3 q Z x9 PV PT PZ Pk i k),max o.2.2 (OG n1 f1 n3 f3 q Z x9 PV PT PZ Pk i k))
def ME (n1:Nat) (f1:be) (n3:Nat) (f3 q:be) (Z x9 PV PT PZ Pk:Int) (i:Nat) (o:Bool×Int×Int):Nat->Bool×Int×Int
 |0=>o|k+1=>Uz n1 f1 n3 f3 q Z x9 PV PT PZ Pk i k (ME n1 f1 n3 f3 q Z x9 PV PT PZ Pk i o k)
def Zf (n1:Nat) (f1:be) (n3:Nat) (f3 q:be) (Z x9 PV PT PZ Pk:Int):Nat->Bool×Int×Int
 |0=>(true,0,0)|i+1=>ME n1 f1 n3 f3 q Z x9 PV PT PZ Pk i (Zf n1 f1 n3 f3 q Z x9 PV PT PZ Pk i) (bb n3 f3 PT PZ Pk).length
def iY:Int:=(Zf n1 f1 n3 f3 q Z x9 PV PT PZ Pk (bb n1 f1 x9 PV Pk).length).2.1
def jh:Int:=(Zf n1 f1 n3 f3 q Z x9 PV PT PZ Pk (bb n1 f1 x9 PV Pk).length).2.2
section
variable (s0:ByteArray) (n1:Nat) (f1:be) (n3:Nat) (f3:be) (n5:Nat) (q:be) (Z:Int) (Y:Int) (x9:Int) (PV:Int) (PT:Int) (PZ:Int) (Pk:Int) (hp:ge n1 (A L f1) n3 (A L f3) n5 (A [Ty.sl L] q) Pk)
include hp
theorem ie7 (i:Nat) (hi:i<(bb n1 (A L f1) x9 PV Pk).length) (o:Bool×Int×Int) (nx:Ev (yp s0 n1 f1 n3 f3 n5 q Z Y x9 PV PT PZ Pk) (.L0 (E ((i:Int)+1)) (ME n1 (A L f1) n3 (A L f3) (A [Ty.sl L] q) Z x9 PV PT PZ Pk i o (bb n3 (A L f3) PT PZ Pk).length).1 (ME n1 (A L f1) n3 (A L f3) (A [Ty.sl L] q) Z x9 PV PT PZ Pk i o (bb n3 (A L f3) PT PZ Pk).length).2.1 (ME n1 (A L f1) n3 (A L f3) (A [Ty.sl L] q) Z x9 PV PT PZ Pk i o (bb n3 (A L f3) PT PZ Pk).length).2.2) (.agg [D (iY n1 (A L f1) n3 (A L f3) (A [Ty.sl L] q) Z x9 PV PT PZ Pk),D (jh n1 (A L f1) n3 (A L f3) (A [Ty.sl L] q) Z x9 PV PT PZ Pk)])) :
 ∀k,k<=(bb n3 (A L f3) PT PZ Pk).length->Ev (yp s0 n1 f1 n3 f3 n5 q Z Y x9 PV PT PZ Pk) (.L1 (k:Int) (i:Int) (ME n1 (A L f1) n3 (A L f3) (A [Ty.sl L] q) Z x9 PV PT PZ Pk i o k).1 (ME n1 (A L f1) n3 (A L f3) (A [Ty.sl L] q) Z x9 PV PT PZ Pk i o k).2.1 (ME n1 (A L f1) n3 (A L f3) (A [Ty.sl L] q) Z x9 PV PT PZ Pk i o k).2.2) (.agg [D (iY n1 (A L f1) n3 (A L f3) (A [Ty.sl L] q) Z x9 PV PT PZ Pk),D (jh n1 (A L f1) n3 (A L f3) (A [Ty.sl L] q) Z x9 PV PT PZ Pk)]):=by
 refine dv λk hk ih=>Ev.of rfl (bC λhn=>?_);by_cases Pj:k<(bb n3 (A L f3) PT PZ Pk).length
 ·have hw:E ((k:Int)+1)=((k+1:Nat):Int):=by rw[AX K K];omega
  have ih:=ih Pj;rw[← hw]at ih;have e:ME n1 (A L f1) n3 (A L f3) (A [Ty.sl L] q) Z x9 PV PT PZ Pk i o (k+1)=Uz n1 (A L f1) n3 (A L f3) (A [Ty.sl L] q) Z x9 PV PT PZ Pk i k (ME n1 (A L f1) n3 (A L f3) (A [Ty.sl L] q) Z x9 PV PT PZ Pk i o k):=rfl;rw[e]at ih;have di:=AG (p:=(0:Int)<=(i:Int)/\(i:Int)<((bb n1 (A L f1) x9 PV Pk).length:Int)) K;have dk:=AG (p:=(0:Int)<=(k:Int)/\(k:Int)<((bb n3 (A L f3) PT PZ Pk).length:Int)) K;refine cO (AG K) (aF di (aF dk (aI (aq0 hp (e8 (A L f1) 0 0 hp.1) (e8 (A L f3) 0 0 hp.2.1)) (ac (AE (AE (AE (AE (AE (AE (AP (λa=>aK ?_) (λa=>aF di (aF dk (aI hp (ac (AP (λc=>aK ?_) (λc=>aK ?_)))))))))))))))))
  ·have a:Fh n1 (A L f1) n3 (A L f3) (A [Ty.sl L] q) Z x9 PV PT PZ Pk i k=true:=a;unfold Uz at ih;rw[a]at ih;exact ih
  ·have a:Fh n1 (A L f1) n3 (A L f3) (A [Ty.sl L] q) Z x9 PV PT PZ Pk i k=false:=a;unfold Uz at ih;rw[a,c]at ih;exact ih
  ·have a:Fh n1 (A L f1) n3 (A L f3) (A [Ty.sl L] q) Z x9 PV PT PZ Pk i k=false:=a;unfold Uz at ih;rw[a,c]at ih;rw[c];exact ih
 ·have e:k=(bb n3 (A L f3) PT PZ Pk).length:=by omega
  refine cW (eM K) ?_;rw[e];exact aK nx
theorem x27:∀ i,i<=(bb n1 (A L f1) x9 PV Pk).length->Ev (yp s0 n1 f1 n3 f3 n5 q Z Y x9 PV PT PZ Pk) (.L0 (i:Int) (Zf n1 (A L f1) n3 (A L f3) (A [Ty.sl L] q) Z x9 PV PT PZ Pk i).1 (Zf n1 (A L f1) n3 (A L f3) (A [Ty.sl L] q) Z x9 PV PT PZ Pk i).2.1 (Zf n1 (A L f1) n3 (A L f3) (A [Ty.sl L] q) Z x9 PV PT PZ Pk i).2.2) (.agg [D (iY n1 (A L f1) n3 (A L f3) (A [Ty.sl L] q) Z x9 PV PT PZ Pk),D (jh n1 (A L f1) n3 (A L f3) (A [Ty.sl L] q) Z x9 PV PT PZ Pk)]):=by
 refine dv λi hi ih=>Ev.of rfl (bC λhn=>?_);by_cases Pj:i<(bb n1 (A L f1) x9 PV Pk).length
 ·have hw:E ((i:Int)+1)=((i+1:Nat):Int):=by rw[AX K K];omega
  have ih:=ih Pj;rw[← hw]at ih;exact cO (AG K) (aH (ie7 s0 n1 f1 n3 f3 n5 q Z Y x9 PV PT PZ Pk hp i Pj (Zf n1 (A L f1) n3 (A L f3) (A [Ty.sl L] q) Z x9 PV PT PZ Pk i) ih 0 (Bc _)))
 ·have e:i=(bb n1 (A L f1) x9 PV Pk).length:=by omega
  refine cW (eM K) ?_;rw[e];exact AF rfl
end
theorem aft (hp:ge n1 (A L f1) n3 (A L f3) n5 (A [.sl L] q) Pk):aU (Ev (yp s0 n1 f1 n3 f3 n5 q Z Y x9 PV PT PZ Pk)) (aez s0 n1 f1 n3 f3 n5 q Z Y x9 PV PT PZ Pk) (.agg [D (iY n1 (A L f1) n3 (A L f3) (A [.sl L] q) Z x9 PV PT PZ Pk),D (jh n1 (A L f1) n3 (A L f3) (A [.sl L] q) Z x9 PV PT PZ Pk)]):=by have ha:=hp.1;have hb:=hp.2.1;exact aI ha.2 (ac (aI hb.2 (ac (aH (x27 s0 n1 f1 n3 f3 n5 q Z Y x9 PV PT PZ Pk hp 0 (Bc _))))))
def acY:aD:=bP [.agg al,.agg gP,tI] (λ
 |[.agg [.str s0,.sl n1 f1,.sl n3 f3,.sl n5 q,.int _ Z,.int _ Y],.agg [.int _ x9,.int _ PV,.int _ PT,.int _ PZ],.int _ Pk]=>ge n1 f1 n3 f3 n5 q Pk|_=>False) λ
 |[.agg [.str s0,.sl n1 f1,.sl n3 f3,.sl n5 q,.int _ Z,.int _ Y],.agg [.int _ x9,.int _ PV,.int _ PT,.int _ PZ],.int _ Pk]=>.agg [D (iY n1 f1 n3 f3 q Z x9 PV PT PZ Pk),D (jh n1 f1 n3 f3 q Z x9 PV PT PZ Pk)]|_=>.any
theorem akw:b7 acY 114:=aT fo8 λ_ hp=>kt (sdX ..) (aft _ _ _ _ _ _ _ _ _ _ _ _ _ _ hp)
theorem aog {x:List V} {Pu:Int} (t:qR x) (u:qN (aw (av (I x))) (bz (av (I x)))) (v:qN (aw (av (I (I x)))) (bz (av (I (I x))))) (h:1<=Pu/\Pu<=30000) :
 ge (aw (av (I x))) (bz (av (I x))) (aw (av (I (I x)))) (bz (av (I (I x)))) (Ec x) (zM x) Pu:=by
 have key:∀{n:Nat} {f:be},qN n f->∀i:Nat,i+1<n->E (E (aA (f (i+1))-aA (f i))*Pu)≠0:=by intro n f w i hi;have hu:=w.u i hi;have r0:=w.r i K;have r1:=w.r (i+1) hi;rw[AX (x:=aA (f (i+1))-aA (f i)) K K];have M:(aA (f (i+1))-aA (f i))*Pu<=10000*Pu:=Eo K K;have Q:0<(aA (f (i+1))-aA (f i))*Pu:=HF K K;rw[AX K K];omega
 refine⟨⟨t.u.1,by have:=t.u.2;omega⟩,⟨t.v.1,by have:=t.v.2;omega⟩,by rw[t.n];exact Ah _,λi hi=>?_,key u,key v⟩;have:=t.row i hi;show _<=aw (av (zM x i));omega
theorem ayi {H:Nat} {G:be} {R:Nat} {N:be} {O:Int} (h:fx H G R N O=0) :
 (0<=O/\O<(R:Int))/\(0<=aR (N O.toNat)/\aR (N O.toNat)<(H:Int))/\iJ (A al (A al G)) (aR (N O.toNat)).toNat=0:=by
 unfold fx at h;have e:bW H (A al G) R (A ao N)=0:=by
  by_cases e:bW H (A al G) R (A ao N)=0
  ·exact e
  ·have:(bW H (A al G) R (A ao N)==0)=false:=by simpa using e
   rw[this]at h;exact h
 have v:zi H (A al G) R (A ao N):=uE e;rw[e]at h;have hb:(!aG O 0 (E ((R:Int)-1)))=false:=by
  cases hh:(!aG O 0 (E ((R:Int)-1))) with
  |false=>rfl|true=>rw[hh]at h;cases h
 have l2:=v.l2;have r:=As (Ku K hb);have lm:=(S2 (a:=O.toNat) v.l0 (v.lm O.toNat K)).t;have lm:0<=aR (N O.toNat)/\aR (N O.toNat)<(H:Int):=lm;exact⟨r,lm,v.tb _ K⟩
def Qk:bo:=(114,.con acY)::FB
theorem dvY:ba Tryz.prog AQ AS Qk:=.con akw (fo8)
def wu:RT Empty:=.ob (dI O R) (.cb (.ob (dI (aR (N O.toNat)) H) (.obp (((2:Nat)<=aw (av (I (G (aR (N O.toNat)).toNat)))/\aw (av (I (G (aR (N O.toNat)).toNat)))<=(1000:Nat))/\((2:Nat)<=aw (av (I (I (G (aR (N O.toNat)).toNat))))/\aw (av (I (I (G (aR (N O.toNat)).toNat))))<=(1000:Nat))/\aw (av (I (G (aR (N O.toNat)).toNat)))<=aw (av (I (I (I (G (aR (N O.toNat)).toNat)))))/\(∀(i:Nat),i<aw (av (I (I (I (G (aR (N O.toNat)).toNat)))))->aw (av (I (I (G (aR (N O.toNat)).toNat))))<=aw (av (bz (av (I (I (I (G (aR (N O.toNat)).toNat))))) i)))/\(∀(i:Nat),i+(1:Nat)<aw (av (I (G (aR (N O.toNat)).toNat)))->E (E (aA (bz (av (I (G (aR (N O.toNat)).toNat))) (i+(1:Nat)))-aA (bz (av (I (G (aR (N O.toNat)).toNat))) i))*PZ)≠(0:Int))/\∀(i:Nat),i+(1:Nat)<aw (av (I (I (G (aR (N O.toNat)).toNat))))->E (E (aA (bz (av (I (I (G (aR (N O.toNat)).toNat)))) (i+(1:Nat)))-aA (bz (av (I (I (G (aR (N O.toNat)).toNat)))) i))*PZ)≠(0:Int)) (.obt (.obp (nz 1000) (.obt (.obp (nz 1000) (.obt (.ret (V.tup [V.agg [D (dT (E (iY (aw (av (I (G (aR (N O.toNat)).toNat)))) (λi=>ap L (bz (av (I (G (aR (N O.toNat)).toNat))) i)) (aw (av (I (I (G (aR (N O.toNat)).toNat))))) (λi=>ap L (bz (av (I (I (G (aR (N O.toNat)).toNat)))) i)) (λi=>ap [Ty.sl L] (bz (av (I (I (I (G (aR (N O.toNat)).toNat))))) i)) (cq (G (aR (N O.toNat)).toNat)) Y x9 PV PT PZ*qk (bf (N O.toNat)) (bG (I (I (I (N O.toNat))))) (bG (I (I (I (I (I (N O.toNat))))))) x5 x6 Z)) 1000),D (eQ (E (jh (aw (av (I (G (aR (N O.toNat)).toNat)))) (λi=>ap L (bz (av (I (G (aR (N O.toNat)).toNat))) i)) (aw (av (I (I (G (aR (N O.toNat)).toNat))))) (λi=>ap L (bz (av (I (I (G (aR (N O.toNat)).toNat)))) i)) (λi=>ap [Ty.sl L] (bz (av (I (I (I (G (aR (N O.toNat)).toNat))))) i)) (cq (G (aR (N O.toNat)).toNat)) Y x9 PV PT PZ*qB (bf (N O.toNat)) (bG (I (I (N O.toNat)))) (bG (I (I (I (I (N O.toNat)))))) x5 x6 Z)) 1000)],D 0]))))))))))
def avB:RT Empty:=.cb (.br (dJ Y x9 PV PT PZ !=0) (.ret (V.tup [V.agg Au,D (dJ Y x9 PV PT PZ)])) (wu H G R N O x5 x6 Z Y x9 PV PT PZ))
def adx:RT Empty:=.obp ((aC H G)/\aC R N) (.obt (.br (fx H (A al G) R (A ao N) O==0) (.cb (.br (gk x5 x6 Z==0) (avB H G R N O x5 x6 Z Y x9 PV PT PZ) (.br (gk x5 x6 Z !=0) (.ret (V.tup [V.agg Au,D (gk x5 x6 Z)])) (wu H G R N O x5 x6 Z Y x9 PV PT PZ)))) (.br (fx H (A al G) R (A ao N) O==0) (avB H G R N O x5 x6 Z Y x9 PV PT PZ) (.br (fx H (A al G) R (A ao N) O !=0) (.ret (V.tup [V.agg Au,D (fx H (A al G) R (A ao N) O)])) (wu H G R N O x5 x6 Z Y x9 PV PT PZ)))))
theorem nx3:cV cX (aQ JJ Qk u0 ami [V.agg [V.sl H (A al G),V.sl R (A ao N)],D O,V.agg [D x5,D x6,D Z],V.agg [D Y,D x9,D PV,D PT],D PZ]) (adx H G R N O x5 x6 Z Y x9 PV PT PZ):=bF
def JR (x:List V) (a c d e h:Int):Int:=iY (aw (av (I x))) (bz (av (I x))) (aw (av (I (I x)))) (bz (av (I (I x)))) (zM x) (cq x) a c d e h
def Lm (x:List V) (a c d e h:Int):Int:=jh (aw (av (I x))) (bz (av (I x))) (aw (av (I (I x)))) (bz (av (I (I x)))) (zM x) (cq x) a c d e h
def OU:Int:=bif fx H G R N O==0 then bif gk x5 x6 Z==0 then dJ Y x9 PV PT PZ else gk x5 x6 Z else fx H G R N O
def ON:Int:=dm (H,R) (dT (E (JR (G (aR (N O.toNat)).toNat) Y x9 PV PT PZ*qk (bf (N O.toNat)) (bG (I (I (I (N O.toNat))))) (bG (I (I (I (I (I (N O.toNat))))))) x5 x6 Z)) 1000)
def OK:Int:=dm (H,R) (eQ (E (Lm (G (aR (N O.toNat)).toNat) Y x9 PV PT PZ*qB (bf (N O.toNat)) (bG (I (I (N O.toNat)))) (bG (I (I (I (I (N O.toNat)))))) x5 x6 Z)) 1000)
def jO:Int:=bif OU H G R N O x5 x6 Z Y x9 PV PT PZ==0 then ON H G R N O x5 x6 Z Y x9 PV PT PZ else 0
def jU:Int:=bif OU H G R N O x5 x6 Z Y x9 PV PT PZ==0 then OK H G R N O x5 x6 Z Y x9 PV PT PZ else 0
def mN:Int:=OU H G R N O x5 x6 Z Y x9 PV PT PZ
theorem aka (hp:aC H (A al G)/\aC R (A ao N)):aU cN (adx H G R N O x5 x6 Z Y x9 PV PT PZ) (.tup [.agg [D (jO H (A al G) R (A ao N) O x5 x6 Z Y x9 PV PT PZ),D (jU H (A al G) R (A ao N) O x5 x6 Z Y x9 PV PT PZ)],D (mN H (A al G) R (A ao N) O x5 x6 Z Y x9 PV PT PZ)]):=by
 have bad:∀ {e:Int},OU H (A al G) R (A ao N) O x5 x6 Z Y x9 PV PT PZ=e->e≠0->aU cN (.ret (V.tup [V.agg [D 0,D 0],D e])) (.tup [.agg [D (jO H (A al G) R (A ao N) O x5 x6 Z Y x9 PV PT PZ),D (jU H (A al G) R (A ao N) O x5 x6 Z Y x9 PV PT PZ)],D (mN H (A al G) R (A ao N) O x5 x6 Z Y x9 PV PT PZ)]):=λh h0=>AF (by unfold jO jU mN;rw[h,show(_==(0:Int))=false from by simpa using h0];rfl);have L1:fx H (A al G) R (A ao N) O=0->gk x5 x6 Z=0->dJ Y x9 PV PT PZ=0->aU cN (wu H G R N O x5 x6 Z Y x9 PV PT PZ) (.tup [.agg [D (jO H (A al G) R (A ao N) O x5 x6 Z Y x9 PV PT PZ),D (jU H (A al G) R (A ao N) O x5 x6 Z Y x9 PV PT PZ)],D (mN H (A al G) R (A ao N) O x5 x6 Z Y x9 PV PT PZ)]):=λh0 hw hr=>by
  have ht:OU H (A al G) R (A ao N) O x5 x6 Z Y x9 PV PT PZ=0:=by unfold OU;rw[h0,hw,hr];rfl
  have hb:=ayi h0;have tb:=BE hb.2.2;have up:=Qy hb.2.2;have hH:1<=PZ/\PZ<=30000:=by
   unfold dJ at hr;cases hh:aG PZ 1 30000 with
   |true=>exact wZ hh|false=>rw[hh]at hr;cases hr
  have vw:=aog (Pu:=PZ) tb up.1 up.2 hH;exact aF (AG hb.1) (AM (ac (aF (AG hb.2.1) (aI vw (ac (aI aO (ac (aI aO (ac (AF (by unfold jO jU mN;rw[ht];rfl)))))))))))
 refine aI hp (ac (AP (λh=>AM (ac (AP (λQ=>AM (ac (AP (λh3=>?_) (λh3=>L1 (DU h) (DU Q) (by simpa using h3))))) (λQ=>AP (λh3=>?_) (λh3=>?_))))) (λh=>AP (λQ=>?_) (λQ=>AP (λh3=>?_) (λh3=>?_)))))
 ·exact bad (by unfold OU;rw[h,Q];rfl) (by simpa using h3)
 ·exact bad (by unfold OU;rw[h,Q];rfl) (by simpa using h3)
 ·exact absurd (by simpa using h3:gk x5 x6 Z=0) (by simpa using Q)
 ·exact absurd Q (by rw[h];decide)
 ·exact bad (by unfold OU;rw[h];rfl) (by simpa using h3)
 ·exact absurd (by simpa using h3:fx H (A al G) R (A ao N) O=0) (by simpa using h)
def abB:aD:=bP [.agg [.sl al,.sl ao],tI,.agg cg,.agg gP,tI] (λ
 |[.agg [.sl H G,.sl R N],.int _ O,.agg [.int _ x5,.int _ x6,.int _ Z],.agg [.int _ Y,.int _ x9,.int _ PV,.int _ PT],.int _ PZ]=>aC H G/\aC R N|_=>False) λ
 |[.agg [.sl H G,.sl R N],.int _ O,.agg [.int _ x5,.int _ x6,.int _ Z],.agg [.int _ Y,.int _ x9,.int _ PV,.int _ PT],.int _ PZ]=>.tup [.agg [D (jO H G R N O x5 x6 Z Y x9 PV PT PZ),D (jU H G R N O x5 x6 Z Y x9 PV PT PZ)],D (mN H G R N O x5 x6 Z Y x9 PV PT PZ)]|_=>.any
theorem aks:b7 abB 60:=aT dvY λ_ hp=>c7 (nx3 ..) (aka _ _ _ _ _ _ _ _ _ _ _ _ _ hp)
theorem iw0 (x:Int):cY H G R N x=fx H G R N x:=by
 have c:bH H (A al G) R (A ao N)=bW H (A al G) R (A ao N):=congrArg (λp=>p.2.2) (nt H (A al G) R (A ao N));unfold cY fx;rw[c];generalize bW H (A al G) R (A ao N)=e;by_cases he:e=0
 ·subst he;rfl
 ·rw[show(e !=0)=true from by simpa using he,show(e==0)=false from by simpa using he];rfl
theorem ix8 (a b c:Int):(bif jo a b c then(7:Int) else 0)=gk a b c:=by unfold jo gk;have h:∀x l u,aB x l u=aG x l u:=λ_ _ _=>rfl;rw[h,h,h];cases aG a 0 200000<;>cases aG b 0 600<;>cases aG c 0 1000<;>rfl
end
end Go.Dx
