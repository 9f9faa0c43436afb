/- Part 5 of a proof. No conditions. -/
import Derived.Test.YtllggmkhjhjkpaaGreatDoorLs4
set_option maxRecDepth 100000
set_option linter.unusedVariables false
set_option linter.unusedSimpArgs false
namespace Go.Dx
open Go.IntKind (i64 u64 u8)
open Go.Sx Go.Proofs
variable (H:Nat) (G:bl) (x0:Int) (s0:ByteArray) (n1:Nat) (f1:bl) (x1:Int) (q:Nat) (W:bl) (x2:Int) (n3:Nat) (f3:bl) (x3:Int) (n4:Nat) (f4:bl) (x4:Int) (Z:Nat) (S:bl) (x5 x6 x7 x8 x9 XH XJ XT:Int)
noncomputable section
def A9:bo:=(148,.inl abK u0)::(164,.inl ix1 u0)::(149,.inl ybk u0)::(141,.inl acC u0)::(162,.inl aaw u0)::(143,.inl acr u0)::(114,.con WE)::Z4
theorem Oi:aX Tryz.prog BD CJ A9:=ij Tryz.func148 BF (ij Tryz.func164 BF (ij Tryz.func149 BF (ij Tryz.func141 BF (ij Tryz.func162 BF (ij Tryz.func143 BF (.con hys (Xu)))))))
inductive nd where|L0 (_:Int)|L2 (_ _:Int) (_:Nat) (_:ByteArray) (_:Nat) (_:bl) (_:Nat) (_:bl) (_:Nat) (_:bl) (_ _ _:Int)
def Ez:nd->bV×List AX×Option Ex
 |.L0 X8=>([(14,D X8),(13,D (H:Int)),(12,V.sl H (A au G)),(4,V.pl 0 0),(0,V.sl H (A au G)),(2,V.fn 111 [] [])],[AX.cells [V.fn 110 [] []] 187],none)|.L2 Xz Ze eb en z' ux z7 vA zL vD hv h₀ _=>([(8,D Xz),(7,D Ze),(0,V.sl eb λi=>A au G (0+i)),(1,V.fn 141 [] [V.pl 0 0,V.pl 1 0])],[AX.cells [V.fn 110 [] []] 187,AX.cells [V.str en,V.sl z' (A M ux),V.sl z7 (A M vA),V.sl zL (A [Ty.sl M] vD),D hv,D h₀] 128],none)
def ih7:nd->JJ
 |.L0 _=>(0,[])|.L2 _ _ _ _ _ _ _ _ _ _ _ _ YG=>(2,[Cx.i YG])
def K5:Bj (cN JJ):=bu JJ A9 u0 ab3 [V.sl H (A au G),V.fn 110 [] [],V.fn 111 [] []]
def ub (cx:List Cx):Lp JJ:=lc (kd (K5 H G) [])
def aiW (cx:List Cx):Lp JJ:=lc (kd (Kb A9 u0 (0,[]) (ub H G []) (Ez H G (.L0 (JB cx 0)))) [true,false])
def m68:JJ->Lp JJ
 |(0,cx)=>ub H G cx|(2,cx)=>aiW H G cx|(_,cx)=>ub H G cx
def ahm:LD JJ nd:=⟨ih7,m68 H G,Ez H G⟩
abbrev Pz:=[some (some 0),some (some 1)]
def pC:nd->RT nd
 |.L0 X8=>.br (decide (X8<(H:Int))) (.ob (dI X8 H) (.cb (.cb (.obp ((sv (aI (G X8.toNat))).size<=(9223372036854775807:Nat)) (.obt (.br (!js (sv (aI (G X8.toNat)))) (.brt (.ret (V.tup [D X8,D 6]))) (.ob (decide (0<=X8/\X8<=(H:Int))) (.asm (true=true->X8.toNat-0<=9223372036854775807) (.enter Pz (nd.L2 0 ((↑(X8.toNat-0):Int)) (X8.toNat-0) (sv (aI (G X8.toNat))) (aL (aI (L (G X8.toNat)))) (λi=>aw M (b7 (aI (L (G X8.toNat))) i)) (aL (aI (L (L (G X8.toNat))))) (λi=>aw M (b7 (aI (L (L (G X8.toNat)))) i)) (aL (aI (L (L (L (G X8.toNat)))))) (λi=>aw [Ty.sl M] (b7 (aI (L (L (L (G X8.toNat))))) i)) (cS (G X8.toNat)) (bq (G X8.toNat)) X8) []))))))))) (.ret (V.tup JK))|.L2 Xz Ze eb en z' ux z7 vA zL vD hv h₀ YG=>.br (decide (Xz<Ze)) (.ob (dI Xz eb) (.cb (.cb (.br ((sv (aI (G (0+Xz.toNat)))).toList==en.toList) (.br (decide (0<=Xz)) (.brt (.ret (V.tup [D YG,D 5]))) (.br (mT (aL (aI (L (G YG.toNat)))) (λi=>aw M (b7 (aI (L (G YG.toNat))) i)) (aL (aI (L (L (G YG.toNat))))) (λi=>aw M (b7 (aI (L (L (G YG.toNat)))) i)) (aL (aI (L (L (L (G YG.toNat)))))) (λi=>aw [Ty.sl M] (b7 (aI (L (L (L (G YG.toNat))))) i)) (cS (G YG.toNat)) (bq (G YG.toNat))!=0) (.ret (V.tup [D YG,D (mT (aL (aI (L (G YG.toNat)))) (λi=>aw M (b7 (aI (L (G YG.toNat))) i)) (aL (aI (L (L (G YG.toNat))))) (λi=>aw M (b7 (aI (L (L (G YG.toNat)))) i)) (aL (aI (L (L (L (G YG.toNat)))))) (λi=>aw [Ty.sl M] (b7 (aI (L (L (L (G YG.toNat))))) i)) (cS (G YG.toNat)) (bq (G YG.toNat)))])) (.next J9 (nd.L0 (E (YG+1))) []))) (.next Pz (nd.L2 (E (Xz+1)) Ze eb (en) z' ux z7 vA zL vD hv h₀ YG) []))))) (.brf (.br (mT (aL (aI (L (G YG.toNat)))) (λi=>aw M (b7 (aI (L (G YG.toNat))) i)) (aL (aI (L (L (G YG.toNat))))) (λi=>aw M (b7 (aI (L (L (G YG.toNat)))) i)) (aL (aI (L (L (L (G YG.toNat)))))) (λi=>aw [Ty.sl M] (b7 (aI (L (L (L (G YG.toNat))))) i)) (cS (G YG.toNat)) (bq (G YG.toNat))!=0) (.ret (V.tup [D YG,D (mT (aL (aI (L (G YG.toNat)))) (λi=>aw M (b7 (aI (L (G YG.toNat))) i)) (aL (aI (L (L (G YG.toNat))))) (λi=>aw M (b7 (aI (L (L (G YG.toNat)))) i)) (aL (aI (L (L (L (G YG.toNat)))))) (λi=>aw [Ty.sl M] (b7 (aI (L (L (L (G YG.toNat))))) i)) (cS (G YG.toNat)) (bq (G YG.toNat)))])) (.next J9 (nd.L0 (E (YG+1))) [])))
def J2:RT nd:=dm G (.am H (.enter J9 (nd.L0 0) []))
theorem hsp:gU A9 u0 (ahm H G) (K5 H G) (J2 H G) (pC H G):=⟨cD,λs=>by cases s<;>exact cD⟩
def zM (a:Nat):Int:=mT (aL (aI (L (G a)))) (λi=>aw M (b7 (aI (L (G a))) i)) (aL (aI (L (L (G a))))) (λi=>aw M (b7 (aI (L (L (G a)))) i)) (aL (aI (L (L (L (G a)))))) (λi=>aw [Ty.sl M] (b7 (aI (L (L (L (G a))))) i)) (cS (G a)) (bq (G a))
def zA (i j:Nat):Bool:=(sv (aI (G (0+j)))).toList==(sv (aI (G i))).toList
def jx (i:Nat):Int:=bif !js (sv (aI (G i))) then 6 else bif lq i (zA G i) then 5 else zM G i
def fL:Int:=fP H (jx G)
def JM:Int:=dP H (jx G)
theorem aem (hn:H<=9223372036854775807) (a:Nat) (hi:a<H) (hj:∀ j,j<a->(jx G j != 0)=false) (N:js (sv (aI (G a)))=true) (hx:(jx G a != 0)=false->Ev (pC H G) (.L0 (E ((a:Int)+1))) (.tup [D (fL H G),D (JM H G)])):Ev (pC H G) (.L2 0 ((↑(a-0):Int)) (a-0) (sv (aI (G a))) (aL (aI (L (G a)))) (λi=>aw M (b7 (aI (L (G a))) i)) (aL (aI (L (L (G a))))) (λi=>aw M (b7 (aI (L (L (G a)))) i)) (aL (aI (L (L (L (G a)))))) (λi=>aw [Ty.sl M] (b7 (aI (L (L (L (G a))))) i)) (cS (G a)) (bq (G a)) ((a:Int))) (.tup [D (fL H G),D (JM H G)]):=by
 refine yX (n:=a) I (zA G a) (P:=λx=>Ev (pC H G) (.L2 x ((↑(a-0):Int)) (a-0) (sv (aI (G a))) (aL (aI (L (G a)))) (λi=>aw M (b7 (aI (L (G a))) i)) (aL (aI (L (L (G a))))) (λi=>aw M (b7 (aI (L (L (G a)))) i)) (aL (aI (L (L (L (G a)))))) (λi=>aw [Ty.sl M] (b7 (aI (L (L (L (G a))))) i)) (cS (G a)) (bq (G a)) ((a:Int))) (.tup [D (fL H G),D (JM H G)])) (λj XD hq next=>Ev.of rfl (kO XD (il XD (aG (AY (aG (AY (Ct (λhb=>iY (Cg (Qp j)) (ku (Br ?_))) (λhb=>b9 (next hb)))))))))) (λhq=>Ev.of rfl (jW (w7 (Ct (λhb=>Br ?_) (λhb=>b9 (hx ?_))))))
 ·have hc:jx G a=5:=by unfold jx;rw[N,e7 j XD hb];rfl
  unfold fL JM;rw[(cM hi (by rw[hc];rfl) hj).1,(cM hi (by rw[hc];rfl) hj).2,hc]
 ·have hc:jx G a=zM G a:=by unfold jx;rw[N,eV hq];rfl
  unfold fL JM;rw[(cM hi (by rw[hc];exact hb) hj).1,(cM hi (by rw[hc];exact hb) hj).2,hc];rfl
 ·have hc:jx G a=zM G a:=by unfold jx;rw[N,eV hq];rfl
  rw[hc];exact hb
theorem aky (hp:aT H G):bj (Ev (pC H G)) (J2 H G) (.tup [D (fL H G),D (JM H G)]):=by
 refine ce λhn=>bm (yX hn (λi=>jx G i !=0) (P:=λx=>Ev (pC H G) (.L0 x) (.tup [D (fL H G),D (JM H G)])) (λi XD hj next=>Ev.of rfl (kO XD (il XD (aG (AY (aG (AY (Cv (hp i XD) (AY (Ct (λhb=>ku (Br ?_)) (λhb=>bf (Cg I) (H1 λ_=>bm (aem H G hn i XD hj (Cr hb) next))))))))))))) (λhj=>Ev.of rfl (jW (Br ?_))))
 ·have hc:jx G i=6:=by unfold jx;rw[show(!js (sv (aI (G i))))=true from hb];rfl
  unfold fL JM;rw[(cM XD (by rw[hc];rfl) hj).1,(cM XD (by rw[hc];rfl) hj).2,hc]
 ·unfold fL JM;rw[(gI hj).1,(gI hj).2]
theorem ov0 (hp:aT H (A au G)):bj (Ev (pC H G)) (J2 H G) (.tup [D (fL H (A au G)),D (JM H (A au G))]):=aky H G hp
def Ux:aH:=cG [.sl au,.fn 110 [] [],.fn 111 [] []] (λ
 |[.sl H G,.fn _ [] [],.fn _ [] []]=>aT H G|_=>False) λ
 |[.sl H G,.fn _ [] [],.fn _ [] []]=>.tup [D (fL H G),D (JM H G)]|_=>.any
theorem abp:dL Ux 109:=bH Oi λ_ hp=>ra (hsp ..) (ov0 _ _ hp)
inductive m6 where|L0 (_:Int)|L2 (_ _:Int) (_:Nat) (_:ByteArray) (_ _ _ _ _ _ _ _ _ _ _ _ _ _:Int)
def FA:m6->bV×List AX×Option Ex
 |.L0 X8=>([(14,D X8),(13,D (H:Int)),(12,V.sl H (A ao G)),(4,V.pl 0 0),(0,V.sl H (A ao G)),(2,V.fn 114 [] [V.pd [V.sl q (A au W),V.sl n4 (A ao f4)]])],[AX.cells [V.fn 113 [] []] 190],none)|.L2 Xz Ze eb en xS xT xc xd xf xh hv h₀ YG xK xN xQ xR _=>([(8,D Xz),(7,D Ze),(0,V.sl eb λi=>A ao G (0+i)),(1,V.fn 148 [] [V.pl 0 0,V.pl 1 0])],[AX.cells [V.fn 113 [] []] 190,AX.cells [V.str en,D xS,D xT,D xc,D xd,D xf,D xh,D hv,D h₀,D YG,D xK,D xN,D xQ,D xR] 120],none)
def ac6:m6->JJ
 |.L0 _=>(0,[])|.L2 _ _ _ _ _ _ _ _ _ _ _ _ _ _ _ _ _ Y5=>(2,[Cx.i Y5])
def NL:Bj (cN JJ):=bu JJ A9 u0 abI [V.sl H (A ao G),V.fn 113 [] [],V.fn 114 [] [V.pd [V.sl q (A au W),V.sl n4 (A ao f4)]]]
def vn (cx:List Cx):Lp JJ:=lc (kd (NL H G q W n4 f4) [])
def aig (cx:List Cx):Lp JJ:=lc (kd (Kb A9 u0 (0,[]) (vn H G q W n4 f4 []) (FA H G q W n4 f4 (.L0 (JB cx 0)))) [true,false])
def ia1:JJ->Lp JJ
 |(0,cx)=>vn H G q W n4 f4 cx|(2,cx)=>aig H G q W n4 f4 cx|(_,cx)=>vn H G q W n4 f4 cx
def aeW:LD JJ m6:=⟨ac6,ia1 H G q W n4 f4,FA H G q W n4 f4⟩
def po (H:Nat) (G:bl) (q:Nat) (W:bl) (n4:Nat) (f4:bl):m6->RT m6
 |.L0 X8=>.br (decide (X8<(H:Int))) (.ob (dI X8 H) (.cb (.cb (.obp ((sv (aI (G X8.toNat))).size<=(9223372036854775807:Nat)) (.obt (.br (!js (sv (aI (G X8.toNat)))) (.brt (.ret (V.tup [D X8,D 6]))) (.ob (decide (0<=X8/\X8<=(H:Int))) (.asm (true=true->X8.toNat-0<=9223372036854775807) (.enter Pz (m6.L2 0 ((↑(X8.toNat-0):Int)) (X8.toNat-0) (sv (aI (G X8.toNat))) (aW (G X8.toNat)) (bZ (G X8.toNat)) (cU (G X8.toNat)) (cS (G X8.toNat)) (bq (G X8.toNat)) (bq (L (G X8.toNat))) (bq (L (L (G X8.toNat)))) (bq (L (L (L (G X8.toNat))))) (bq (L (L (L (L (G X8.toNat)))))) (bq (L (L (L (L (L (G X8.toNat))))))) (bq (L (L (L (L (L (L (G X8.toNat)))))))) (bq (L (L (L (L (L (L (L (G X8.toNat))))))))) (bq (L (L (L (L (L (L (L (L (G X8.toNat)))))))))) X8) []))))))))) (.ret (V.tup JK))|.L2 Xz Ze eb en xS xT xc xd xf xh hv h₀ YG xK xN xQ xR Y5=>.br (decide (Xz<Ze)) (.ob (dI Xz eb) (.cb (.cb (.br ((sv (aI (G (0+Xz.toNat)))).toList==en.toList) (.br (decide (0<=Xz)) (.brt (.ret (V.tup [D Y5,D 5]))) (.br (pU (aW (G Y5.toNat)) (bZ (G Y5.toNat)) (cU (G Y5.toNat)) (cS (G Y5.toNat)) (bq (G Y5.toNat)) (bq (L (G Y5.toNat))) (bq (L (L (G Y5.toNat)))) (bq (L (L (L (G Y5.toNat))))) (bq (L (L (L (L (G Y5.toNat)))))) (bq (L (L (L (L (L (G Y5.toNat))))))) (bq (L (L (L (L (L (L (G Y5.toNat)))))))) (bq (L (L (L (L (L (L (L (G Y5.toNat))))))))) (bq (L (L (L (L (L (L (L (L (G Y5.toNat)))))))))) q !=0) (.ret (V.tup [D Y5,D (pU (aW (G Y5.toNat)) (bZ (G Y5.toNat)) (cU (G Y5.toNat)) (cS (G Y5.toNat)) (bq (G Y5.toNat)) (bq (L (G Y5.toNat))) (bq (L (L (G Y5.toNat)))) (bq (L (L (L (G Y5.toNat))))) (bq (L (L (L (L (G Y5.toNat)))))) (bq (L (L (L (L (L (G Y5.toNat))))))) (bq (L (L (L (L (L (L (G Y5.toNat)))))))) (bq (L (L (L (L (L (L (L (G Y5.toNat))))))))) (bq (L (L (L (L (L (L (L (L (G Y5.toNat)))))))))) q)])) (.next J9 (m6.L0 (E (Y5+1))) []))) (.next Pz (m6.L2 (E (Xz+1)) Ze eb (en) xS xT xc xd xf xh hv h₀ YG xK xN xQ xR Y5) []))))) (.brf (.br (pU (aW (G Y5.toNat)) (bZ (G Y5.toNat)) (cU (G Y5.toNat)) (cS (G Y5.toNat)) (bq (G Y5.toNat)) (bq (L (G Y5.toNat))) (bq (L (L (G Y5.toNat)))) (bq (L (L (L (G Y5.toNat))))) (bq (L (L (L (L (G Y5.toNat)))))) (bq (L (L (L (L (L (G Y5.toNat))))))) (bq (L (L (L (L (L (L (G Y5.toNat)))))))) (bq (L (L (L (L (L (L (L (G Y5.toNat))))))))) (bq (L (L (L (L (L (L (L (L (G Y5.toNat)))))))))) q !=0) (.ret (V.tup [D Y5,D (pU (aW (G Y5.toNat)) (bZ (G Y5.toNat)) (cU (G Y5.toNat)) (cS (G Y5.toNat)) (bq (G Y5.toNat)) (bq (L (G Y5.toNat))) (bq (L (L (G Y5.toNat)))) (bq (L (L (L (G Y5.toNat))))) (bq (L (L (L (L (G Y5.toNat)))))) (bq (L (L (L (L (L (G Y5.toNat))))))) (bq (L (L (L (L (L (L (G Y5.toNat)))))))) (bq (L (L (L (L (L (L (L (G Y5.toNat))))))))) (bq (L (L (L (L (L (L (L (L (G Y5.toNat)))))))))) q)])) (.next J9 (m6.L0 (E (Y5+1))) [])))
def LR:RT m6:=dm (G,q,W,n4,f4) (.am H (.enter J9 (m6.L0 0) []))
theorem hir:gU A9 u0 (aeW H G q W n4 f4) (NL H G q W n4 f4) (LR H G q W n4 f4) (po H G q W n4 f4):=⟨cD,λs=>by cases s<;>exact cD⟩
def zr (q a:Nat):Int:=pU (aW (G a)) (bZ (G a)) (cU (G a)) (cS (G a)) (bq (G a)) (bq (L (G a))) (bq (L (L (G a)))) (bq (L (L (L (G a))))) (bq (L (L (L (L (G a)))))) (bq (L (L (L (L (L (G a))))))) (bq (L (L (L (L (L (L (G a)))))))) (bq (L (L (L (L (L (L (L (G a))))))))) (bq (L (L (L (L (L (L (L (L (G a)))))))))) q
def yK (i j:Nat):Bool:=(sv (aI (G (0+j)))).toList==(sv (aI (G i))).toList
def jv (q i:Nat):Int:=bif !js (sv (aI (G i))) then 6 else bif lq i (yK G i) then 5 else zr G q i
def fI:Int:=fP H (jv G q)
def ef:Int:=dP H (jv G q)
theorem agr (hn:H<=9223372036854775807) (a:Nat) (hi:a<H) (hj:∀ j,j<a->(jv G q j != 0)=false) (N:js (sv (aI (G a)))=true) (hx:(jv G q a != 0)=false->Ev (po H G q W n4 f4) (.L0 (E ((a:Int)+1))) (.tup [D (fI H G q),D (ef H G q)])):Ev (po H G q W n4 f4) (.L2 0 ((↑(a-0):Int)) (a-0) (sv (aI (G a))) (aW (G a)) (bZ (G a)) (cU (G a)) (cS (G a)) (bq (G a)) (bq (L (G a))) (bq (L (L (G a)))) (bq (L (L (L (G a))))) (bq (L (L (L (L (G a)))))) (bq (L (L (L (L (L (G a))))))) (bq (L (L (L (L (L (L (G a)))))))) (bq (L (L (L (L (L (L (L (G a))))))))) (bq (L (L (L (L (L (L (L (L (G a)))))))))) ((a:Int))) (.tup [D (fI H G q),D (ef H G q)]):=by
 refine yX (n:=a) I (yK G a) (P:=λx=>Ev (po H G q W n4 f4) (.L2 x ((↑(a-0):Int)) (a-0) (sv (aI (G a))) (aW (G a)) (bZ (G a)) (cU (G a)) (cS (G a)) (bq (G a)) (bq (L (G a))) (bq (L (L (G a)))) (bq (L (L (L (G a))))) (bq (L (L (L (L (G a)))))) (bq (L (L (L (L (L (G a))))))) (bq (L (L (L (L (L (L (G a)))))))) (bq (L (L (L (L (L (L (L (G a))))))))) (bq (L (L (L (L (L (L (L (L (G a)))))))))) ((a:Int))) (.tup [D (fI H G q),D (ef H G q)])) (λj XD hq next=>Ev.of rfl (kO XD (il XD (aG (AY (aG (AY (Ct (λhb=>iY (Cg (Qp j)) (ku (Br ?_))) (λhb=>b9 (next hb)))))))))) (λhq=>Ev.of rfl (jW (w7 (Ct (λhb=>Br ?_) (λhb=>b9 (hx ?_))))))
 ·have hc:jv G q a=5:=by unfold jv;rw[N,e7 j XD hb];rfl
  unfold fI ef;rw[(cM hi (by rw[hc];rfl) hj).1,(cM hi (by rw[hc];rfl) hj).2,hc]
 ·have hc:jv G q a=zr G q a:=by unfold jv;rw[N,eV hq];rfl
  unfold fI ef;rw[(cM hi (by rw[hc];exact hb) hj).1,(cM hi (by rw[hc];exact hb) hj).2,hc];rfl
 ·have hc:jv G q a=zr G q a:=by unfold jv;rw[N,eV hq];rfl
  rw[hc];exact hb
theorem ajs (hp:aT H G):bj (Ev (po H G q W n4 f4)) (LR H G q W n4 f4) (.tup [D (fI H G q),D (ef H G q)]):=by
 refine ce λhn=>bm (yX hn (λi=>jv G q i !=0) (P:=λx=>Ev (po H G q W n4 f4) (.L0 x) (.tup [D (fI H G q),D (ef H G q)])) (λi XD hj next=>Ev.of rfl (kO XD (il XD (aG (AY (aG (AY (Cv (hp i XD) (AY (Ct (λhb=>ku (Br ?_)) (λhb=>bf (Cg I) (H1 λ_=>bm (agr H G q W n4 f4 hn i XD hj (Cr hb) next))))))))))))) (λhj=>Ev.of rfl (jW (Br ?_))))
 ·have hc:jv G q i=6:=by unfold jv;rw[show(!js (sv (aI (G i))))=true from hb];rfl
  unfold fI ef;rw[(cM XD (by rw[hc];rfl) hj).1,(cM XD (by rw[hc];rfl) hj).2,hc]
 ·unfold fI ef;rw[(gI hj).1,(gI hj).2]
theorem nn7 (hp:aT H (A ao G)):bj (Ev (po H G q W n4 f4)) (LR H G q W n4 f4) (.tup [D (fI H (A ao G) q),D (ef H (A ao G) q)]):=ajs H G q W n4 f4 hp
def Wb:aH:=cG [.sl ao,.fn 113 [] [],.fn 114 [] [.pd [.sl au,.sl ao]]] (λ
 |[.sl H G,.fn _ [] [],.fn _ [] [.pd [.sl q W,.sl n4 f4]]]=>aT H G|_=>False) λ
 |[.sl H G,.fn _ [] [],.fn _ [] [.pd [.sl q W,.sl n4 f4]]]=>.tup [D (fI H G q),D (ef H G q)]|_=>.any
theorem adt:dL Wb 112:=bH Oi λ_ hp=>ra (hir ..) (nn7 _ _ _ _ _ _ hp)
def Kd:bo:=(109,.con Ux)::(112,.con Wb)::A9
theorem JW:aX Tryz.prog BD CJ Kd:=.con abp (.con adt (Oi))
def Vd:RT Empty:=.am H (.ii (.asm ((!decide (10<(H:Int)))=true->q<=9223372036854775807) (.ii (.br (bif decide (10<(H:Int)) then true else decide (20<(q:Int))) (.ret (V.tup [D 0,D 0,D 3])) (.obp (aT H G) (.obt (.br (JM H (A au G)!=0) (.ret (V.tup [D 1,D (fL H (A au G)),D (JM H (A au G))])) (.obp (aT q W) (.obt (.br (ef q (A ao W) H !=0) (.ret (V.tup [D 2,D (fI q (A ao W) H),D (ef q (A ao W) H)])) (.ret (V.tup P8))))))))))))
theorem hco:eJ eL (bu JJ Kd u0 acW [V.agg [V.sl H (A au G),V.sl q (A ao W)]]) (Vd H G q W):=cD
def mg:Int:=bif bif decide (10<(H:Int)) then true else decide (20<(q:Int)) then 0 else bif JM H (A au G)!=0 then 1 else bif ef q (A ao W) H !=0 then 2 else 0
def lU:Int:=bif bif decide (10<(H:Int)) then true else decide (20<(q:Int)) then 0 else bif JM H (A au G)!=0 then fL H (A au G) else bif ef q (A ao W) H !=0 then fI q (A ao W) H else 0
def bN:Int:=bif bif decide (10<(H:Int)) then true else decide (20<(q:Int)) then 3 else bif JM H (A au G)!=0 then JM H (A au G) else bif ef q (A ao W) H !=0 then ef q (A ao W) H else 0
def xv:V:=.tup [D (mg H G q W),D (lU H G q W),D (bN H G q W)]
theorem nh2 (hp:aT H G/\aT q W):bj em (Vd H G q W) (xv H G q W):=H1 (λa0=>CE (CE (H1 (λa0=>CE (CE (Ct (λh0=>Br (by unfold xv mg lU bN;try rw[h0];rfl)) (λh0=>Cv (by first|assumption|(first|exact hp.1|exact hp.2)) (AY (Ct (λN=>Br (by unfold xv mg lU bN;try rw[h0];try rw[N];rfl)) (λN=>Cv (by first|assumption|(first|exact hp.1|exact hp.2)) (AY (Ct (λQ=>Br (by unfold xv mg lU bN;try rw[h0];try rw[N];try rw[Q];rfl)) (λQ=>Br (by unfold xv mg lU bN;try rw[h0];try rw[N];try rw[Q];rfl))))))))))))))
def VI:aH:=cG [.agg [.sl au,.sl ao]] (λ
 |[.agg [.sl H G,.sl q W]]=>aT H G/\aT q W|_=>False) λ
 |[.agg [.sl H G,.sl q W]]=>xv H G q W|_=>.any
theorem OZ:dL VI 82:=bH JW λ_ hp=>fb (hco ..) (nh2 _ _ _ _ hp)
def Bs (n3:Nat) (S:bl) (i:Nat):Bool:=(aL (aI (S i)):Int)!=(n3:Int)
def afm (i j:Nat):Bool:=bh (aE (b7 (aI (S i)) j)) 0 10000000
def uT (i:Nat):Bool:=HC n3 (afm S i)
def rZ:Bool:=bif bh x7 0 10000000 then bh x8 0 10000000 else false
def PZ (a b:Bool):Bool:=bif !a then true else !b
def KU (n1:Nat) (f1:bl) (n3:Nat) (f3:bl) (Z:Nat) (S:bl) (x7 x8:Int):Int :=
 bif PZ (bh (n1:Int) 2 12) (bh (n3:Int) 2 12) then 3 else bif PZ (FW n1 f1) (FW n3 f3) then 7 else bif PZ (ic n1 f1) (ic n3 f3) then 2 else bif(Z:Int)!=(n1:Int) then 6 else bif lq Z (Bs n3 S) then 6 else bif !(rZ x7 x8&&HC Z (uT n3 S)) then 7 else 0
def Nb (a j:Nat):Bool:=(sv (aI (G j))).toList==(sv (aI (G a))).toList
def oD (a:Nat):Int:=bif !EQ (sv (aI (G a))) then 6 else bif lq a (Nb G a) then 5 else KU (aL (aI (L (G a)))) (λi=>aw M (b7 (aI (L (G a))) i)) (aL (aI (L (L (G a))))) (λi=>aw M (b7 (aI (L (L (G a)))) i)) (aL (aI (L (L (L (G a)))))) (b7 (aI (L (L (L (G a)))))) (cS (G a)) (bq (G a))
def Xf:Bool:=bif x2==1 then XT !=0 else false
def I8 (a j:Nat):Bool:=(sv (aI (W j))).toList==(sv (aI (W a))).toList
def Sm (H:Nat) (W:bl) (a:Nat):Int:=C8 (bh (aW (W a)) 0 (E ((H:Int)-1))) (bh (bZ (W a)) 1 3) (bh (cU (W a)) 1 1000000&&(bh (cS (W a)) 1 5000000&&(bh (bq (W a)) 0 (cS (W a))&&(bh (bq (L (W a))) 0 1000&&(ol (bq (L (L (W a)))) (bq (L (L (L (W a))))) 0 1000&&(ol (bq (L (L (L (L (W a)))))) (bq (L (L (L (L (L (W a))))))) 0 1000&&(bh (bq (L (L (L (L (L (L (W a)))))))) 1 200000&&(bh (bq (L (L (L (L (L (L (L (W a))))))))) 0 1000&&(bh (bq (L (L (L (L (L (L (L (L (W a)))))))))) 0 3600))))))))) (Xf (bZ (W a)) (bq (L (L (L (L (L (L (L (L (W a)))))))))))
def pP (a:Nat):Int:=bif !EQ (sv (aI (W a))) then 6 else bif lq a (I8 W a) then 5 else Sm H W a
def adV:Int×Int×Int:=Ac q (pP H (A ao W)) 2 (0,0,0)
def G4 (H:Nat) (G:bl) (q:Nat) (W:bl):Int×Int×Int:=bif(bif decide (10<(H:Int)) then true else decide (20<(q:Int))) then(0,0,3) else Ac H (oD (A au G)) 1 (adV H q W)
def fw:Int:=(G4 H G q W).2.2
theorem Ret {n:Nat} {p X1:Nat->Bool} (h:∀ i,i<n->p i=X1 i):HC n p=HC n X1:=by
 cases hq:HC n X1 with
 |true=>exact gD λi hi=>by rw[h i hi];exact dh hq i hi
 |false=>
   cases hp:HC n p with
   |false=>rfl|true=>rw[gD λi hi=>by rw[← h i hi];exact dh hp i hi]at hq;cases hq
theorem nY (n:Nat) (f:bl) (lo hi:Int):dT n f lo hi=HC n λi=>bh (aE (f i)) lo hi:=by show(!(decide (0<=idx n λii=>qj (aE (f ii)) lo hi)))=_;rw[mi];unfold lq;rw[NR];exact Ret λi _=>by show(!(!aB (aE (f i)) lo hi))=aB (aE (f i)) lo hi;rw[NR]
theorem Sg (a b:Bool):PZ a b=!(a&&b):=by cases a<;>cases b<;>rfl
theorem C90 (s:ByteArray) (i:Nat):tE s i=true↔¬ (97<=(s.data.toList.getD i 0).toNat/\(s.data.toList.getD i 0).toNat<=122)/\¬ (48<=(s.data.toList.getD i 0).toNat/\(s.data.toList.getD i 0).toNat<=57)/\(s.data.toList.getD i 0).toNat≠45:=by
 have key:∀(p1 p2 p4 p5 p6:Bool),(!bif bif bif p1 then p2 else false then true else bif p4 then p5 else false then true else p6)=true↔¬(p1=true/\p2=true)/\¬(p4=true/\p5=true)/\¬(p6=true):=by decide
 unfold tE;rw[key];simp only[IJ,K8];omega
theorem aat (s:ByteArray):EI s=false↔(1<=s.size/\s.size<=24)/\97<=(s.data.toList.getD 0 0).toNat/\(s.data.toList.getD 0 0).toNat<=122:=by
 have key:∀(p1 p2 p4 p5:Bool),(bif bif bif p1 then true else p2 then true else p4 then true else p5)=false↔¬(p1=true)/\¬(p2=true)/\¬(p4=true)/\¬(p5=true):=by decide
 unfold EI;rw[key];simp only[IJ];omega
theorem GY (s:ByteArray):EQ s=js s:=by
 rw[Q8];unfold EQ js;simp only[DD,IJ,rG,LW];constructor
 ·intro h
  cases hc:EI s with
  |true=>rw[hc]at h;cases h
  |false=>
    rw[hc,cond_false]at h;have N:=(aat s).1 hc;refine⟨λi hi=>?_,I,I⟩;have Q:=dh h i hi;cases hb:yh ((s.data.toList.getD i 0).toNat:Int) (i:Int) with
    |false=>rfl
    |true=>
      obtain⟨g1,g2⟩:=(nn _ i).1 hb;rcases g2 with e|⟨g3,g4⟩
      ·subst e;exact(g1 N.2).elim
      ·rw[(C90 s i).2 ⟨g1,g3,g4⟩]at Q;cases Q
 ·rintro ⟨N,Q,h3⟩
  have h0:=N 0 Q;have hl:97<=(s.data.toList.getD 0 0).toNat/\(s.data.toList.getD 0 0).toNat<=122:=by apply Classical.byContradiction;intro hn;rw[(nn _ 0).2 ⟨hn,.inl rfl⟩]at h0;cases h0
  rw[(aat s).2 ⟨⟨I,h3⟩,hl⟩,cond_false];refine gD λi hi=>?_;cases hb:tE s i with
  |false=>rfl
  |true=>obtain⟨g1,g2,g3⟩:=(C90 s i).1 hb;have:=N i hi;rw[(nn _ i).2 ⟨g1,.inr ⟨g2,g3⟩⟩]at this;cases this
theorem agH:mT n1 f1 n3 f3 Z S x7 x8=KU n1 f1 n3 f3 Z S x7 x8:=by
 have e1:∀n f,dT n f (-5000) 5000=FW n f:=λn f=>nY n f _ _;unfold mT KU;rw[Sg,Sg,Sg,e1,e1];have e2:(lq Z (QT n3 S))=lq Z (Bs n3 S):=rfl;rw[e2];cases he:lq Z (Bs n3 S) with
 |true=>rfl
 |false=>
   have hrow:∀ i,i<Z->aL (aI (S i))=n3:=λi hi=>by
    cases hb:Bs n3 S i with
    |true=>rw[e7 i hi hb]at he;cases he|false=>unfold Bs at hb;simp at hb;omega
   have e3:lq Z (SZ S)=!HC Z (uT n3 S):=by unfold lq;rw[Ret (X1:=uT n3 S) λi hi=>by show(!(!dT (aL (aI (S i))) (A M λj=>aw M (b7 (aI (S i)) j)) 0 10000000))=_;rw[NR,nY,hrow i hi];rfl]
   have e4:Sr x7 x8=!rZ x7 x8:=by show(!dT 2 _ 0 10000000)=_;rw[nY];show(!((true&&bh x7 0 10000000)&&bh x8 0 10000000))=_;unfold rZ;cases bh x7 0 10000000<;>cases bh x8 0 10000000<;>rfl
   unfold qg;rw[e3,e4];show(bif _ then _ else bif _ then _ else bif _ then _ else bif _ then _ else _)=(bif _ then _ else bif _ then _ else bif _ then _ else bif _ then _ else _);cases rZ x7 x8<;>cases HC Z (uT n3 S)<;>rfl
theorem aba (f:bl) (a:Nat):jx f a=oD f a:=by unfold jx oD;rw[GY,show zA f a=Nb f a from funext λj=>by unfold zA Nb;rw[Ic]];unfold zM;rw[agH];rfl
theorem aab:fK x7 x8 0 1000=ol x7 x8 0 1000:=by unfold fK ol bh;by_cases N:(0:Int)<=x7<;>by_cases Q:x7<=x8<;>by_cases h3:x8<=1000<;>by_cases h4:x7<=1000<;>by_cases h5:(0:Int)<=x8<;>simp only[N,Q,h3,h4,h5,decide_true,decide_false,cond_true,cond_false]<;>omega
theorem aam {a k num X1 q':Bool} (h:num=true->X1=q'):C8 a k num X1=C8 a k num q':=by
 cases num with
 |false=>rfl|true=>rw[h rfl]
theorem abQ (f:bl) (n a:Nat):jv f n a=pP n f a:=by
 unfold jv pP;rw[GY,show yK f a=I8 f a from funext λj=>by unfold yK I8;rw[Ic]];unfold zr pU Sm;rw[aab,aab];congr 2;refine aam λh=>?_;simp only[DD]at h;have sN:=h.2.2.2.2.2.2.2.2;unfold PE Xf;unfold aB at sN;generalize bq (L (L (L (L (L (L (L (L (f a)))))))))=x at sN ⊢;have hx:0<=x:=by
  by_cases h0:(0:Int)<=x
  ·exact h0
  ·rw[fB h0]at sN;cases sN
 congr 1;by_cases e:x=0
 ·subst e;rfl
 ·rw[Cg I];simp[e]
theorem lz:(mg H G q W,lU H G q W,bN H G q W)=G4 H G q W:=by
 have e1:∀f,jx f=oD f:=λf=>funext λa=>aba f a;have e2:∀f n,jv f n=pP n f:=λf n=>funext λa=>abQ f n a;unfold mg lU bN G4 adV Ac fL JM fI ef;rw[e1,e2];cases (bif decide (10<(H:Int)) then true else decide (20<(q:Int))) with
 |true=>rfl
 |false=>simp only[cond_false];generalize dP H _=x;generalize fP H _=At;generalize dP q _=z;generalize fP q _=u;cases x !=0<;>cases z !=0<;>rfl
def mG:bo:=(82,.con VI)::Kd
theorem lX:aX Tryz.prog BD CJ mG:=.con OZ (JW)
def Vf:RT Empty:=.ret (D (E (E (x2*x0)+E (x3*x1))))
theorem hci:eJ eL (bu JJ mG u0 MD [V.agg [D x0,D x1],D x2,D x3]) (Vf x0 x1 x2 x3):=cD
def aR:Int:=E (E (x2*x0)+E (x3*x1))
def Nc:V:=D (aR x0 x1 x2 x3)
theorem aa0:bj em (Vf x0 x1 x2 x3) (Nc x0 x1 x2 x3):=Br (by unfold Nc aR;rfl)
def VE:aH:=cG [.agg cO,tI,tI] (λ_=>True) λ|[.agg [.int _ x0,.int _ x1],.int _ x2,.int _ x3]=>Nc x0 x1 x2 x3|_=>.any
theorem ig3:dL VE 69:=bH lX λ_ hp=>fb (hci ..) (aa0 _ _ _ _)
def Vr:RT Empty:=.ret (D (E (E (x2*x1)-E (x3*x0))))
theorem alu:eJ eL (bu JJ mG u0 Iy [V.agg [D x0,D x1],D x2,D x3]) (Vr x0 x1 x2 x3):=cD
def aQ:Int:=E (E (x2*x1)-E (x3*x0))
def IU:V:=D (aQ x0 x1 x2 x3)
theorem abd:bj em (Vr x0 x1 x2 x3) (IU x0 x1 x2 x3):=Br (by unfold IU aQ;rfl)
def Us:aH:=cG [.agg cO,tI,tI] (λ_=>True) λ|[.agg [.int _ x0,.int _ x1],.int _ x2,.int _ x3]=>IU x0 x1 x2 x3|_=>.any
theorem aao:dL Us 70:=bH lX λ_ hp=>fb (alu ..) (abd _ _ _ _)
def W8:RT Empty:=.ret (D (E (E (x0*x0)+E (x1*x1))))
theorem hop:eJ eL (bu JJ mG u0 NX [V.agg [D x0,D x1]]) (W8 x0 x1):=cD
def bW:Int:=E (E (x0*x0)+E (x1*x1))
def Ml:V:=D (bW x0 x1)
theorem ybj:bj em (W8 x0 x1) (Ml x0 x1):=Br (by unfold Ml bW;rfl)
def Wa:aH:=cG [.agg cO] (λ_=>True) λ|[.agg [.int _ x0,.int _ x1]]=>Ml x0 x1|_=>.any
theorem abi:dL Wa 71:=bH lX λ_ hp=>fb (hop ..) (ybj _ _)
def VG:RT Empty:=.ret (D (min (max x0 (-200000)) 200000))
theorem alP:eJ eL (bu JJ mG u0 ID [D x0]) (VG x0):=cD
def ck:Int:=min (max x0 (-200000)) 200000
def Lh:V:=D (ck x0)
theorem isq:bj em (VG x0) (Lh x0):=Br (by unfold Lh ck;rfl)
def Xt:aH:=cG M (λ_=>True) λ|[.int _ x0]=>Lh x0|_=>.any
theorem aa1:dL Xt 98:=bH lX λ_ hp=>fb (alP ..) (isq _)
def gA:Int:=max (-200000) (min x0 200000)
def U9:RT Empty:=.cb (.br (dV 0 x0 x1) (.ret (V.tup [D 0,D (max (E (x0*x0)) (E (x1*x1)))])) (.ret (V.tup [D (min (E (x0*x0)) (E (x1*x1))),D (max (E (x0*x0)) (E (x1*x1)))])))
theorem hnl:eJ eL (bu JJ mG u0 NP [D x0,D x1]) (U9 x0 x1):=cD
def lO:Int:=bif dV 0 x0 x1 then 0 else min (E (x0*x0)) (E (x1*x1))
def mq:Int:=max (E (x0*x0)) (E (x1*x1))
def GD:V:=.tup [D (lO x0 x1),D (mq x0 x1)]
theorem hza:bj em (U9 x0 x1) (GD x0 x1):=aG (AY (Ct (λh0=>Br (by unfold GD lO mq;try rw[h0];rfl)) (λh0=>Br (by unfold GD lO mq;try rw[h0];rfl))))
def WJ:aH:=cG cO (λ_=>True) λ|[.int _ x0,.int _ x1]=>GD x0 x1|_=>.any
theorem aco:dL WJ 73:=bH lX λ_ hp=>fb (hnl ..) (hza _ _)
def eE:Int:=bif bif decide (x0<=0) then decide (0<=x1) else false then 0 else min (E (x0*x0)) (E (x1*x1))
def GR:Bool:=ci x0 (-100000) 100000
def W0:RT Empty:=.cb (.ret (V.bool !dV x0 (-100000) 100000))
theorem hkl:eJ eL (bu JJ mG u0 LG [D x0]) (W0 x0):=cD
def lV:Bool:=!dV x0 (-100000) 100000
def Oy:V:=.bool (lV x0)
theorem abW:bj em (W0 x0) (Oy x0):=aG (AY (Br (by unfold Oy lV;rfl)))
def VD:aH:=cG M (λ_=>True) λ|[.int _ x0]=>Oy x0|_=>.any
theorem ab4:dL VD 68:=bH lX λ_ hp=>fb (hkl ..) (abW _)
def hle:Bool:=bif ci x0 (-1000) 1000 then bif ci x1 (-1000) 1000 then bif x0 !=0 then true else x1 !=0 else false else false
inductive sA where|L0 (_ _:Int)
def hm0:sA->bV×List AX×Option Ex
 |.L0 X8 Y1=>([(4,D X8),(3,D Y1),(0,V.sl H (A M G))],[],none)
def mmV:sA->JJ
 |.L0 ..=>(0,[])
def NQ:Bj (cN JJ):=bu JJ mG u0 lst [V.sl H (A M G)]
def AM (cx:List Cx):Lp JJ:=lc (kd (NQ H G) [false])
def na4:JJ->Lp JJ
 |(0,cx)=>AM H G cx|(_,cx)=>AM H G cx
def aib:LD JJ sA:=⟨mmV,na4 H G,hm0 H G⟩
def zZ:sA->RT sA
 |.L0 X8 Y1=>.am H (.br (decide (X8<(H:Int))) (.ob (dI X8 H) (.next [] (sA.L0 (E (X8+1)) (max Y1 (aE (G X8.toNat)))) [])) (.ret (D Y1)))
def LX:RT sA:=.am H (.br (decide ((H:Int)<1)) (.fail) (.ob (decide ((0:Int)<=0/\0<(H:Int))) (.enter [] (sA.L0 1 (aE (G 0))) [])))
theorem alm:gU mG u0 (aib H G) (NQ H G) (LX H G) (zZ H G):=⟨cD,λs=>by cases s<;>exact cD⟩
def tq (p:Nat->Int) (z:Int):Nat->Int
 |0=>z|k+1=>max (tq p z k) (p k)
def fD:Int:=tq (λi=>aE (G i)) (aE (G 0)) H
theorem al0 (hp:1<=H):bj (Ev (zZ H G)) (LX H G) (D (fD H G)):=by
 refine ce λhn=>ib (fB I) (bf (Cg I) (bm ?_));have key:=gG (n:=H) (P:=λi=>1<=i->Ev (zZ H G) (.L0 i (tq (λi=>aE (G i)) (aE (G 0)) i)) (D (fD H G))) λi hi ih N=>by
  refine Ev.of rfl (H1 λ_=>Ct (λh=>?_) (λh=>Br ?_))
  ·have XD:i<H:=by have:=HT h;omega
   refine il XD (b9 ?_);rw[uV XD hn];exact ih XD I
  ·have:i=H:=by have:=Hv h;omega
   subst this;rfl
 have:=key 1 hp (Dm _);rwa [show tq (λi=>aE (G i)) (aE (G 0)) 1=aE (G 0) from Int.max_self _]at this
theorem nh1 (hp:1<=H):bj (Ev (zZ H G)) (LX H G) (D (fD H (A M G))):=al0 H G hp
def VH:aH:=cG [.sl M] (λ
 |[.sl H G]=>1<=H|_=>False) λ
 |[.sl H G]=>D (fD H G)|_=>.any
theorem Le:dL VH 97:=bH lX λ_ hp=>ra (alm ..) (nh1 _ _ hp)
def XZ (l:Nat->Nat) (v:Nat->Nat->Int) (z:Int):Nat->Int
 |0=>z|k+1=>tq (v k) (XZ l v z k) (l k)
abbrev SD (z:Int) (k:Nat):Int:=XZ (λi=>aL (aI (S i))) (λi j=>aE (b7 (aI (S i)) j)) z k
def sK:Int:=SD S x7 Z
inductive qh where|L0 (_ _:Int)
def hmj:qh->bV×List AX×Option Ex
 |.L0 X8 Y1=>([(4,D X8),(3,D Y1),(0,D x0)],[],none)
def acu:qh->JJ
 |.L0 ..=>(0,[])
def Ls:Bj (cN JJ):=bu JJ mG u0 Is [D x0]
def Bw (cx:List Cx):Lp JJ:=lc (kd (Ls x0) [])
def aaY:JJ->Lp JJ
 |(0,cx)=>Bw x0 cx|(_,cx)=>Bw x0 cx
def ahW:LD JJ qh:=⟨acu,aaY x0,hmj x0⟩
def zh:qh->RT qh
 |.L0 X8 Y1=>.br (decide (0<X8)) (.br (decide (E (E (Y1+X8)*E (Y1+X8))<=x0)) (.obt (.next [] (qh.L0 (E (X8.tdiv 2)) (E (Y1+X8))) [])) (.obt (.next [] (qh.L0 (E (X8.tdiv 2)) Y1) []))) (.ret (D Y1))
def U0:RT qh:=dm x0 (.enter [] (qh.L0 1073741824 0) [])
theorem hnm:gU mG u0 (ahW x0) (Ls x0) (U0 x0) (zh x0):=⟨cD,λs=>by cases s<;>exact cD⟩
def fE:Nat->Nat
 |0=>0|n+1=>bif Nat.ble ((fE n+1)*(fE n+1)) (n+1) then fE n+1 else fE n
theorem oo:∀ n,fE n*fE n<=n/\n<(fE n+1)*(fE n+1)
 |0=>⟨Dm _,aA⟩
 |n+1=>by
   obtain⟨N,Q⟩:=oo n;unfold fE;cases hb:Nat.ble ((fE n+1)*(fE n+1)) (n+1) with
   |true=>
     have:=HS hb;refine⟨this,?_⟩;have e:(fE n+1+1)*(fE n+1+1)=(fE n+1)*(fE n+1)+2*(fE n+1)+1:=by grind
     show n+1<(fE n+1+1)*(fE n+1+1);omega
   |false=>
     have h3:¬(fE n+1)*(fE n+1)<=n+1:=λh=>by rw[KW h]at hb;cases hb
     exact⟨by show fE n*fE n<=n+1;omega,by show n+1<(fE n+1)*(fE n+1);omega⟩
theorem hag {n r:Nat} (N:r*r<=n) (Q:n<(r+1)*(r+1)):fE n=r:=by
 obtain⟨g1,g2⟩:=oo n;have a:¬fE n<r:=λh=>by have:=N2 (show fE n+1<=r from h) (show fE n+1<=r from h);omega
 have c:¬r<fE n:=λh=>by have:=N2 (show r+1<=fE n from h) (show r+1<=fE n from h);omega
 omega
def F80_0 (x:Int):Int:=(fE x.toNat:Int)
def kp:Nat:=(min x0 4611686018427387903).toNat
def d9:Int:=(fE (kp x0):Int)
theorem U3 {x:Int} {m:Nat} (N:1<=m) (hm:m<=2147483647):decide (E (E (m:Int)*E (m:Int))<=x)=decide (m*m<=kp x):=by
 have b:m*m<=2147483647*2147483647:=N2 hm hm;have b1:1<=m*m:=N2 N N;rw[C4 (x:=(m:Int)) I I,show(m:Int)*(m:Int)=((m*m:Nat):Int) from(Int.natCast_mul m m).symm];generalize m*m=X1 at *
 rw[C4 I I];unfold kp;exact decide_eq_decide.2 I
theorem aeL:∀ k:Nat,k<=30->∀ r:Nat,r*r<=kp x0->kp x0<(r+2 ^ (k+1))*(r+2 ^ (k+1))->r+2 ^ (k+1)<=2147483648->Ev (zh x0) (.L0 ((2 ^ k:Nat):Int) (r:Int)) (D (d9 x0)):=by
 intro k;induction k with
 |zero=>
   intro _ r N Q h3;have ig10:r+2<=2147483648:=h3;have h2':kp x0<(r+2)*(r+2):=Q;have fin:∀ X1:Nat,X1*X1<=kp x0->kp x0<(X1+1)*(X1+1)->Ev (zh x0) (.L0 (E (((1:Nat):Int).tdiv 2)) (X1:Int)) (D (d9 x0)):=λX1 g1 g2=>
    Ev.of rfl (ib rfl (Br (by unfold d9;rw[hag g1 g2])))
   have hs:=U3 (x:=x0) (m:=r+1) I I;have e1:(r:Int)+((1:Nat):Int)=((r+1:Nat):Int):=by omega
   refine Ev.of rfl (iY aA (Ct (λh=>AY (b9 ?_)) (λh=>AY (b9 ?_))))
   ·have h':decide ((r+1)*(r+1)<=kp x0)=true:=by rw[← hs,← e1];exact h
    have:=fin (r+1) (HT h') h2';rw[show E ((r:Int)+((2 ^ 0:Nat):Int))=((r+1:Nat):Int) from by rw[C4 I I];rfl];exact this
   ·have h':decide ((r+1)*(r+1)<=kp x0)=false:=by rw[← hs,← e1];exact h
    exact fin r N (Nat.lt_of_not_le (Hv h'))
 |succ k ih=>
   intro hk r N Q h3;have p1:2 ^ (k+1+1)=2*2 ^ (k+1):=by rw[Nat.pow_succ];omega
   have p0:1<=2 ^ (k+1):=Nat.one_le_two_pow;have p2:2 ^ (k+1)=2*2 ^ k:=by rw[Nat.pow_succ];omega
   have hs:=U3 (x:=x0) (m:=r+2 ^ (k+1)) I I;have e1:(r:Int)+((2 ^ (k+1):Nat):Int)=((r+2 ^ (k+1):Nat):Int):=by omega
   have e2:E (((2 ^ (k+1):Nat):Int).tdiv 2)=((2 ^ k:Nat):Int):=by rw[p2,show((2*2 ^ k:Nat):Int).tdiv 2=((2 ^ k:Nat):Int) by rw[MI I];omega];exact C4 I I
   have e3:E ((r:Int)+((2 ^ (k+1):Nat):Int))=((r+2 ^ (k+1):Nat):Int):=by rw[C4 I I];exact e1
   refine Ev.of rfl (iY (Cg I) (Ct (λh=>AY (b9 ?_)) (λh=>AY (b9 ?_))))
   ·have h':decide ((r+2 ^ (k+1))*(r+2 ^ (k+1))<=kp x0)=true:=by rw[← hs,← e1];exact h
    rw[e2,e3];exact ih I (r+2 ^ (k+1)) (HT h') (by rw[show r+2 ^ (k+1)+2 ^ (k+1)=r+2 ^ (k+1+1) by omega];exact Q) I
   ·have h':decide ((r+2 ^ (k+1))*(r+2 ^ (k+1))<=kp x0)=false:=by rw[← hs,← e1];exact h
    rw[e2];exact ih I r N (Nat.lt_of_not_le (Hv h')) I
theorem plR:bj (Ev (zh x0)) (U0 x0) (D (d9 x0)):=bm (aeL x0 30 (Dm _) 0 (Ho _) (by unfold kp;show _<4611686018427387904;omega) aA)
def WL:aH:=cG M (λ_=>True) λ|[.int _ x0]=>D (d9 x0)|_=>.any
theorem adp:dL WL 62:=bH lX λ_ hp=>ra (hnm ..) (plR _)
def uO:Nat:=(min x0 3999999999999999999).toNat
def gT:Int:=(fE (uO x0):Int)
def qw:bo:=(69,.con VE)::(70,.con Us)::(71,.con Wa)::(98,.con Xt)::(73,.con WJ)::(68,.con VD)::(97,.con VH)::(62,.con WL)::mG
theorem vT:aX Tryz.prog BD CJ qw:=.con ig3 (.con aao (.con abi (.con aa1 (.con aco (.con ab4 (.con Le (.con adp (lX))))))))
def Vy:RT Empty:=.cb (.br (decide (E (d9 x0*d9 x0)<x0)) (.ret (D (E (d9 x0+1)))) (.ret (D (d9 x0))))
theorem he':eJ eL (bu JJ qw u0 LF [D x0]) (Vy x0):=cD
def Iv:Int:=bif decide (E (d9 x0*d9 x0)<x0) then E (d9 x0+1) else d9 x0
def Gi:V:=D (Iv x0)
theorem hvs:bj em (Vy x0) (Gi x0):=aG (AY (Ct (λh0=>Br (by unfold Gi Iv;try rw[h0];rfl)) (λh0=>Br (by unfold Gi Iv;try rw[h0];rfl))))
def WT:aH:=cG M (λ_=>True) λ|[.int _ x0]=>Gi x0|_=>.any
theorem nc8:dL WT 60:=bH vT λ_ hp=>fb (he' ..) (hvs _)
def kt:Int:=bif decide (E (gT x0*gT x0)<x0) then E (gT x0+1) else gT x0
inductive sQ where|L0 (_:Int)
def hn0:sQ->bV×List AX×Option Ex
 |.L0 X8=>([(8,D X8),(7,D (H:Int)),(6,V.sl H (A M G)),(4,D 0),(0,V.sl H (A M G)),(1,V.fn 68 [] [])],[],none)
def okN:sQ->JJ
 |.L0 _=>(0,[])
def M6:Bj (cN JJ):=bu JJ qw u0 E2 [V.sl H (A M G),V.fn 68 [] []]
def Au (cx:List Cx):Lp JJ:=lc (kd (M6 H G) [])
def adn:JJ->Lp JJ
 |(0,cx)=>Au H G cx|(_,cx)=>Au H G cx
def ahX:LD JJ sQ:=⟨okN,adn H G,hn0 H G⟩
def Cc:sQ->RT sQ
 |.L0 X8=>.br (decide (X8<(H:Int))) (.ob (dI X8 H) (.cb (.br (lV (aE (G X8.toNat))) (.ret (D X8)) (.next [] (sQ.L0 (E (X8+1))) [])))) (.ret (D (-1)))
def Of:RT sQ:=dm G (.am H (.enter [] (sQ.L0 0) []))
theorem hpq:gU qw u0 (ahX H G) (M6 H G) (Of H G) (Cc H G):=⟨cD,λs=>by cases s<;>exact cD⟩
def Bb:Int  :=idx H λii=>lV (aE (G ii))
theorem aiF:bj (Ev (Cc H G)) (Of H G) (D (Bb H G)):=ce λhn=>bm (pu hn λi=>rfl)
theorem ie9:bj (Ev (Cc H G)) (Of H G) (D (Bb H (A M G))):=aiF H G
def Wr:aH:=cG [.sl M,.fn 68 [] []] (λ_=>True) λ|[.sl H G,.fn _ [] []]=>D (Bb H G)|_=>.any
theorem m66:dL Wr 99:=bH vT λ_ hp=>ra (hpq ..) (ie9 _ _)
inductive sF where|L0 (_ _:Int)
def hs3:sF->bV×List AX×Option Ex
 |.L0 X8 Y1=>([(4,D X8),(3,D Y1),(0,V.sl H (A M G))],[],none)
def ib0:sF->JJ
 |.L0 ..=>(0,[])
def I7:Bj (cN JJ):=bu JJ qw u0 mrg [V.sl H (A M G)]
def BH (cx:List Cx):Lp JJ:=lc (kd (I7 H G) [false])
def hst:JJ->Lp JJ
 |(0,cx)=>BH H G cx|(_,cx)=>BH H G cx
def ag9:LD JJ sF:=⟨ib0,hst H G,hs3 H G⟩
def zI:sF->RT sF
 |.L0 X8 Y1=>.am H (.br (decide (X8<(H:Int))) (.ob (dI X8 H) (.next [] (sF.L0 (E (X8+1)) (min Y1 (aE (G X8.toNat)))) [])) (.ret (D Y1)))
def OI:RT sF:=.am H (.br (decide ((H:Int)<1)) (.fail) (.ob (decide ((0:Int)<=0/\0<(H:Int))) (.enter [] (sF.L0 1 (aE (G 0))) [])))
theorem ybe:gU qw u0 (ag9 H G) (I7 H G) (OI H G) (zI H G):=⟨cD,λs=>by cases s<;>exact cD⟩
def OY (p:Nat->Int) (z:Int):Nat->Int
 |0=>z|k+1=>min (OY p z k) (p k)
def gn:Int:=OY (λi=>aE (G i)) (aE (G 0)) H
theorem ahj (hp:1<=H):bj (Ev (zI H G)) (OI H G) (D (gn H G)):=by
 refine ce λhn=>ib (fB I) (bf (Cg I) (bm ?_));have key:=gG (n:=H) (P:=λi=>1<=i->Ev (zI H G) (.L0 i (OY (λi=>aE (G i)) (aE (G 0)) i)) (D (gn H G))) λi hi ih N=>by
  refine Ev.of rfl (H1 λ_=>Ct (λh=>?_) (λh=>Br ?_))
  ·have XD:i<H:=by have:=HT h;omega
   refine il XD (b9 ?_);rw[uV XD hn];exact ih XD I
  ·have:i=H:=by have:=Hv h;omega
   subst this;rfl
 have:=key 1 hp (Dm _);rwa [show OY (λi=>aE (G i)) (aE (G 0)) 1=aE (G 0) from Int.min_self _]at this
theorem acd (hp:1<=H):bj (Ev (zI H G)) (OI H G) (D (gn H (A M G))):=ahj H G hp
def U7:aH:=cG [.sl M] (λ
 |[.sl H G]=>1<=H|_=>False) λ
 |[.sl H G]=>D (gn H G)|_=>.any
theorem M8:dL U7 96:=bH vT λ_ hp=>ra (ybe ..) (acd _ _ hp)
inductive sT where|L0 (_ _:Int)
def yaW (s0:ByteArray) (n1:Nat) (f1:bl) (n3:Nat) (f3:bl) (Z:Nat) (S:bl) (x7 x8:Int):sT->bV×List AX×Option Ex
 |.L0 X8 Y1=>([(11,D X8),(10,D (Z:Int)),(9,V.sl Z (A [Ty.sl M] S)),(3,D Y1)],[],none)
def ads:sT->JJ
 |.L0 ..=>(0,[])
def Kp:Bj (cN JJ):=bu JJ qw u0 aaj [V.agg [V.str s0,V.sl n1 (A M f1),V.sl n3 (A M f3),V.sl Z (A [Ty.sl M] S),D x7,D x8]]
def BW (cx:List Cx):Lp JJ:=lc (kd (Kp s0 n1 f1 n3 f3 Z S x7 x8) [])
def aar:JJ->Lp JJ
 |(0,cx)=>BW s0 n1 f1 n3 f3 Z S x7 x8 cx|(_,cx)=>BW s0 n1 f1 n3 f3 Z S x7 x8 cx
def aeD:LD JJ sT:=⟨ads,aar s0 n1 f1 n3 f3 Z S x7 x8,yaW s0 n1 f1 n3 f3 Z S x7 x8⟩
def zw (s0:ByteArray) (n1:Nat) (f1:bl) (n3:Nat) (f3:bl) (Z:Nat) (S:bl) (x7 x8:Int):sT->RT sT
 |.L0 X8 Y1=>.br (decide (X8<(Z:Int))) (.ob (dI X8 Z) (.obp ((1:Nat)<=aL (aI (S X8.toNat))) (.obt (.next [] (sT.L0 (E (X8+1)) (max Y1 (fD (aL (aI (S X8.toNat))) λi=>aw M (b7 (aI (S X8.toNat)) i)))) [])))) (.ret (D Y1))
def Ni:RT sT:=dm (s0,n1,f1,n3,f3,S,x8) (.am Z (.enter [] (sT.L0 0 x7) []))
theorem hkb:gU qw u0 (aeD s0 n1 f1 n3 f3 Z S x7 x8) (Kp s0 n1 f1 n3 f3 Z S x7 x8) (Ni s0 n1 f1 n3 f3 Z S x7 x8) (zw s0 n1 f1 n3 f3 Z S x7 x8):=⟨cD,λs=>by cases s<;>exact cD⟩
def AC (i:Nat):Int:=fD (aL (aI (S i))) λj=>aw M (b7 (aI (S i)) j)
def oz:Int:=tq (λi=>AC S i) x7 Z
theorem aii (hp:∀i,i<Z->1<=aL (aI (S i))):bj (Ev (zw s0 n1 f1 n3 f3 Z S x7 x8)) (Ni s0 n1 f1 n3 f3 Z S x7 x8) (D (oz Z S x7)):=by refine ce λhn=>bm (Tv hn (P:=λx=>Ev (zw s0 n1 f1 n3 f3 Z S x7 x8) (.L0 x (tq (λi=>AC S i) x7 x.toNat)) (D (oz Z S x7))) (λi XD nx=>?_) (Ev.of rfl (jW (Br rfl))));rw[show(E ((i:Int)+1)).toNat=i+1 by rw[uV XD hn];rfl]at nx;exact Ev.of rfl (kO XD (il XD (Cv (hp i XD) (AY (b9 nx)))))
theorem acL (hp:∀i,i<Z->1<=aL (aI ((A [.sl M] S) i))):bj (Ev (zw s0 n1 f1 n3 f3 Z S x7 x8)) (Ni s0 n1 f1 n3 f3 Z S x7 x8) (D (oz Z (A [.sl M] S) x7)):=aii s0 n1 f1 n3 f3 Z S x7 x8 hp
def Xd:aH:=cG [.agg au] (λ
 |[.agg [.str s0,.sl n1 f1,.sl n3 f3,.sl Z S,.int _ x7,.int _ x8]]=>∀i,i<Z->1<=aL (aI (S i))|_=>False) λ
 |[.agg [.str s0,.sl n1 f1,.sl n3 f3,.sl Z S,.int _ x7,.int _ x8]]=>D (oz Z S x7)|_=>.any
theorem aay:dL Xd 76:=bH vT λ_ hp=>ra (hkb ..) (acL _ _ _ _ _ _ _ _ _ hp)
def LY:bo:=(60,.con WT)::(99,.con Wr)::(96,.con U7)::(76,.con Xd)::qw
theorem Ly:aX Tryz.prog BD CJ LY:=.con nc8 (.con m66 (.con M8 (.con aay (vT))))
def uu5:kZ:=λ_=>5
def ahE:RT Empty:=.cb (.ret (V.bool (decide (0<=Bb H (A M G)))))
theorem aax:eJ eL (bu JJ LY u0 TS [V.sl H (A M G),V.fn 68 [] []]) (ahE H G):=cD
def yu:Bool:=decide (0<=Bb H (A M G))
def ZE:V:=.bool (yu H G)
theorem ahc:bj em (ahE H G) (ZE H G):=aG (AY (Br (by unfold ZE yu;rfl)))
def agx:aH:=cG [.sl M,.fn 68 [] []] (λ_=>True) λ|[.sl H G,.fn _ [] []]=>ZE H G|_=>.any
theorem agi:dL agx 67:=bH Ly λ_ hp=>fb (aax ..) (ahc _ _)
def Ll:bo:=(67,.con agx)::LY
theorem NJ:aX Tryz.prog BD CJ Ll:=.con agi (Ly)
def UN:RT Empty:=.cb (.ret (V.bool !yu H (A M G)))
theorem aln:eJ eL (bu JJ Ll u0 It [V.sl H (A M G)]) (UN H G):=cD
def qP:Bool:=!yu H (A M G)
def K7:V:=.bool (qP H G)
theorem ie7:bj em (UN H G) (K7 H G):=aG (AY (Br (by unfold K7 qP;rfl)))
def VB:aH:=cG [.sl M] (λ_=>True) λ|[.sl H G]=>K7 H G|_=>.any
theorem if3:dL VB 34:=bH NJ λ_ hp=>fb (aln ..) (ie7 _ _)
def Ha (m x:Int):Int:=bif decide (m<0) then gA (l7 (E (1000*m)) (gT (E (1000000*x)))) else gA (l7 (E (1000*m)) (kt (E (1000000*x))))
def Hy (m x:Int):Int:=bif decide (m<0) then gA (iz (E (1000*m)) (kt (E (1000000*x)))) else gA (iz (E (1000*m)) (gT (E (1000000*x))))
def R2 (i:Nat):Int:=aE (G i)
def E5:Int:=Ha (OY (R2 G) (R2 G 0) H) x2
def Fu:Int:=Hy (tq (R2 G) (R2 G 0) H) x2
def Qf (x:Int):Prop:=(kt (E (1000000*x))=0->False)/\(gT (E (1000000*x))=0->False)
def RE:bo:=(34,.con VB)::Ll
theorem CV:aX Tryz.prog BD CJ RE:=.con if3 (NJ)
def IB:RT Empty:=.brt (.obt (.obt (.obt (.cb (.obt (.brt (.obt (.obt (.obt (.cb (.obt (.brt (.obt (.obt (.obt (.cb (.obt (.brt (.obt (.obt (.obt (.cb (.obt (.brf (.obp ((1:Nat)<=(4:Nat)) (.obt (.obp ((1:Nat)<=(4:Nat)) (.obt (.br (decide (gn 4 (A M (bE [D (E (1000*aQ x0 x1 x2 x3)),D (E (1000*aQ x0 x1 x4 x5)),D (E (1000*aQ x0 x1 x6 x7)),D (E (1000*aQ x0 x1 x8 x9))] 0 1))<0)) (.br (decide (fD 4 (A M (bE [D (E (1000*aQ x0 x1 x2 x3)),D (E (1000*aQ x0 x1 x4 x5)),D (E (1000*aQ x0 x1 x6 x7)),D (E (1000*aQ x0 x1 x8 x9))] 0 1))<0)) (.obp (nz XJ) (.obt (.cb (.obp (nz XH) (.obt (.cb (.ret (V.tup [D (ck (de (gn 4 (A M (bE [D (E (1000*aQ x0 x1 x2 x3)),D (E (1000*aQ x0 x1 x4 x5)),D (E (1000*aQ x0 x1 x6 x7)),D (E (1000*aQ x0 x1 x8 x9))] 0 1))) XJ)),D (ck (c9 (fD 4 (A M (bE [D (E (1000*aQ x0 x1 x2 x3)),D (E (1000*aQ x0 x1 x4 x5)),D (E (1000*aQ x0 x1 x6 x7)),D (E (1000*aQ x0 x1 x8 x9))] 0 1))) XH))])))))))) (.obp (nz XJ) (.obt (.cb (.obp (nz XJ) (.obt (.cb (.ret (V.tup [D (ck (de (gn 4 (A M (bE [D (E (1000*aQ x0 x1 x2 x3)),D (E (1000*aQ x0 x1 x4 x5)),D (E (1000*aQ x0 x1 x6 x7)),D (E (1000*aQ x0 x1 x8 x9))] 0 1))) XJ)),D (ck (c9 (fD 4 (A M (bE [D (E (1000*aQ x0 x1 x2 x3)),D (E (1000*aQ x0 x1 x4 x5)),D (E (1000*aQ x0 x1 x6 x7)),D (E (1000*aQ x0 x1 x8 x9))] 0 1))) XJ))]))))))))) (.br (decide (fD 4 (A M (bE [D (E (1000*aQ x0 x1 x2 x3)),D (E (1000*aQ x0 x1 x4 x5)),D (E (1000*aQ x0 x1 x6 x7)),D (E (1000*aQ x0 x1 x8 x9))] 0 1))<0)) (.obp (nz XH) (.obt (.cb (.obp (nz XH) (.obt (.cb (.ret (V.tup [D (ck (de (gn 4 (A M (bE [D (E (1000*aQ x0 x1 x2 x3)),D (E (1000*aQ x0 x1 x4 x5)),D (E (1000*aQ x0 x1 x6 x7)),D (E (1000*aQ x0 x1 x8 x9))] 0 1))) XH)),D (ck (c9 (fD 4 (A M (bE [D (E (1000*aQ x0 x1 x2 x3)),D (E (1000*aQ x0 x1 x4 x5)),D (E (1000*aQ x0 x1 x6 x7)),D (E (1000*aQ x0 x1 x8 x9))] 0 1))) XH))])))))))) (.obp (nz XH) (.obt (.cb (.obp (nz XJ) (.obt (.cb (.ret (V.tup [D (ck (de (gn 4 (A M (bE [D (E (1000*aQ x0 x1 x2 x3)),D (E (1000*aQ x0 x1 x4 x5)),D (E (1000*aQ x0 x1 x6 x7)),D (E (1000*aQ x0 x1 x8 x9))] 0 1))) XH)),D (ck (c9 (fD 4 (A M (bE [D (E (1000*aQ x0 x1 x2 x3)),D (E (1000*aQ x0 x1 x4 x5)),D (E (1000*aQ x0 x1 x6 x7)),D (E (1000*aQ x0 x1 x8 x9))] 0 1))) XJ))]))))))))))))))))))))))))))))))))))))))
theorem ai0:eJ eL (bu JJ RE uu5 C6 [V.fn 70 [V.agg [D x0,D x1]] [],V.pd [D x2,D x3,D x4,D x5,D x6,D x7,D x8,D x9],V.pd [D XH],V.pd [D XJ]]) (IB x0 x1 x2 x3 x4 x5 x6 x7 x8 x9 XH XJ):=cD
def iH:Int:=bif decide (gn 4 (A M (bE [D (E (1000*aQ x0 x1 x2 x3)),D (E (1000*aQ x0 x1 x4 x5)),D (E (1000*aQ x0 x1 x6 x7)),D (E (1000*aQ x0 x1 x8 x9))] 0 1))<0) then ck (de (gn 4 (A M (bE [D (E (1000*aQ x0 x1 x2 x3)),D (E (1000*aQ x0 x1 x4 x5)),D (E (1000*aQ x0 x1 x6 x7)),D (E (1000*aQ x0 x1 x8 x9))] 0 1))) XJ) else ck (de (gn 4 (A M (bE [D (E (1000*aQ x0 x1 x2 x3)),D (E (1000*aQ x0 x1 x4 x5)),D (E (1000*aQ x0 x1 x6 x7)),D (E (1000*aQ x0 x1 x8 x9))] 0 1))) XH)
def iO:Int:=bif decide (fD 4 (A M (bE [D (E (1000*aQ x0 x1 x2 x3)),D (E (1000*aQ x0 x1 x4 x5)),D (E (1000*aQ x0 x1 x6 x7)),D (E (1000*aQ x0 x1 x8 x9))] 0 1))<0) then ck (c9 (fD 4 (A M (bE [D (E (1000*aQ x0 x1 x2 x3)),D (E (1000*aQ x0 x1 x4 x5)),D (E (1000*aQ x0 x1 x6 x7)),D (E (1000*aQ x0 x1 x8 x9))] 0 1))) XH) else ck (c9 (fD 4 (A M (bE [D (E (1000*aQ x0 x1 x2 x3)),D (E (1000*aQ x0 x1 x4 x5)),D (E (1000*aQ x0 x1 x6 x7)),D (E (1000*aQ x0 x1 x8 x9))] 0 1))) XJ)
def rv:V:=.tup [D (iH x0 x1 x2 x3 x4 x5 x6 x7 x8 x9 XH XJ),D (iO x0 x1 x2 x3 x4 x5 x6 x7 x8 x9 XH XJ)]
theorem fd1 (hp:(XH=0->False)/\(XJ=0->False)):bj em (IB x0 x1 x2 x3 x4 x5 x6 x7 x8 x9 XH XJ) (rv x0 x1 x2 x3 x4 x5 x6 x7 x8 x9 XH XJ):=ku (AY (AY (AY (aG (AY (AY (ku (AY (AY (AY (aG (AY (AY (ku (AY (AY (AY (aG (AY (AY (ku (AY (AY (AY (aG (AY (AY (w7 (Cv (by first|assumption|((first|exact hp.1|exact hp.2|decide))) (AY (Cv (by first|assumption|((first|exact hp.1|exact hp.2|decide))) (AY (Ct (λh0=>Ct (λN=>Cv (by first|assumption|((first|exact hp.1|exact hp.2|decide))) (AY (aG (AY (Cv (by first|assumption|((first|exact hp.1|exact hp.2|decide))) (AY (aG (AY (Br (by unfold rv iH iO;try rw[h0];try rw[N];rfl)))))))))) (λN=>Cv (by first|assumption|((first|exact hp.1|exact hp.2|decide))) (AY (aG (AY (Cv (by first|assumption|((first|exact hp.1|exact hp.2|decide))) (AY (aG (AY (Br (by unfold rv iH iO;try rw[h0];try rw[N];rfl))))))))))) (λh0=>Ct (λN=>Cv (by first|assumption|((first|exact hp.1|exact hp.2|decide))) (AY (aG (AY (Cv (by first|assumption|((first|exact hp.1|exact hp.2|decide))) (AY (aG (AY (Br (by unfold rv iH iO;try rw[h0];try rw[N];rfl)))))))))) (λN=>Cv (by first|assumption|((first|exact hp.1|exact hp.2|decide))) (AY (aG (AY (Cv (by first|assumption|((first|exact hp.1|exact hp.2|decide))) (AY (aG (AY (Br (by unfold rv iH iO;try rw[h0];try rw[N];rfl))))))))))))))))))))))))))))))))))))))))))))
def Kg:aH:=cG [.fn 70 [.agg cO] [],.pd [tI,tI,tI,tI,tI,tI,tI,tI],.pd M,.pd M] (λ
 |[.fn _ [.agg [.int _ x0,.int _ x1]] [],.pd [.int _ x2,.int _ x3,.int _ x4,.int _ x5,.int _ x6,.int _ x7,.int _ x8,.int _ x9],.pd [.int _ XH],.pd [.int _ XJ]]=>(XH=0->False)/\(XJ=0->False)|_=>False) λ
 |[.fn _ [.agg [.int _ x0,.int _ x1]] [],.pd [.int _ x2,.int _ x3,.int _ x4,.int _ x5,.int _ x6,.int _ x7,.int _ x8,.int _ x9],.pd [.int _ XH],.pd [.int _ XJ]]=>rv x0 x1 x2 x3 x4 x5 x6 x7 x8 x9 XH XJ|_=>.any
theorem alh:dL Kg 95:=bH CV λ_ hp=>fb (ai0 ..) (fd1 _ _ _ _ _ _ _ _ _ _ _ _ hp)
def Ko:RT Empty:=.brt (.obt (.obt (.obt (.cb (.obt (.brt (.obt (.obt (.obt (.cb (.obt (.brt (.obt (.obt (.obt (.cb (.obt (.brt (.obt (.obt (.obt (.cb (.obt (.brf (.obp ((1:Nat)<=(4:Nat)) (.obt (.obp ((1:Nat)<=(4:Nat)) (.obt (.br (decide (gn 4 (A M (bE [D (E (1000*aR x0 x1 x2 x3)),D (E (1000*aR x0 x1 x4 x5)),D (E (1000*aR x0 x1 x6 x7)),D (E (1000*aR x0 x1 x8 x9))] 0 1))<0)) (.br (decide (fD 4 (A M (bE [D (E (1000*aR x0 x1 x2 x3)),D (E (1000*aR x0 x1 x4 x5)),D (E (1000*aR x0 x1 x6 x7)),D (E (1000*aR x0 x1 x8 x9))] 0 1))<0)) (.obp (nz XJ) (.obt (.cb (.obp (nz XH) (.obt (.cb (.ret (V.tup [D (ck (de (gn 4 (A M (bE [D (E (1000*aR x0 x1 x2 x3)),D (E (1000*aR x0 x1 x4 x5)),D (E (1000*aR x0 x1 x6 x7)),D (E (1000*aR x0 x1 x8 x9))] 0 1))) XJ)),D (ck (c9 (fD 4 (A M (bE [D (E (1000*aR x0 x1 x2 x3)),D (E (1000*aR x0 x1 x4 x5)),D (E (1000*aR x0 x1 x6 x7)),D (E (1000*aR x0 x1 x8 x9))] 0 1))) XH))])))))))) (.obp (nz XJ) (.obt (.cb (.obp (nz XJ) (.obt (.cb (.ret (V.tup [D (ck (de (gn 4 (A M (bE [D (E (1000*aR x0 x1 x2 x3)),D (E (1000*aR x0 x1 x4 x5)),D (E (1000*aR x0 x1 x6 x7)),D (E (1000*aR x0 x1 x8 x9))] 0 1))) XJ)),D (ck (c9 (fD 4 (A M (bE [D (E (1000*aR x0 x1 x2 x3)),D (E (1000*aR x0 x1 x4 x5)),D (E (1000*aR x0 x1 x6 x7)),D (E (1000*aR x0 x1 x8 x9))] 0 1))) XJ))]))))))))) (.br (decide (fD 4 (A M (bE [D (E (1000*aR x0 x1 x2 x3)),D (E (1000*aR x0 x1 x4 x5)),D (E (1000*aR x0 x1 x6 x7)),D (E (1000*aR x0 x1 x8 x9))] 0 1))<0)) (.obp (nz XH) (.obt (.cb (.obp (nz XH) (.obt (.cb (.ret (V.tup [D (ck (de (gn 4 (A M (bE [D (E (1000*aR x0 x1 x2 x3)),D (E (1000*aR x0 x1 x4 x5)),D (E (1000*aR x0 x1 x6 x7)),D (E (1000*aR x0 x1 x8 x9))] 0 1))) XH)),D (ck (c9 (fD 4 (A M (bE [D (E (1000*aR x0 x1 x2 x3)),D (E (1000*aR x0 x1 x4 x5)),D (E (1000*aR x0 x1 x6 x7)),D (E (1000*aR x0 x1 x8 x9))] 0 1))) XH))])))))))) (.obp (nz XH) (.obt (.cb (.obp (nz XJ) (.obt (.cb (.ret (V.tup [D (ck (de (gn 4 (A M (bE [D (E (1000*aR x0 x1 x2 x3)),D (E (1000*aR x0 x1 x4 x5)),D (E (1000*aR x0 x1 x6 x7)),D (E (1000*aR x0 x1 x8 x9))] 0 1))) XH)),D (ck (c9 (fD 4 (A M (bE [D (E (1000*aR x0 x1 x2 x3)),D (E (1000*aR x0 x1 x4 x5)),D (E (1000*aR x0 x1 x6 x7)),D (E (1000*aR x0 x1 x8 x9))] 0 1))) XJ))]))))))))))))))))))))))))))))))))))))))
theorem aip:eJ eL (bu JJ RE uu5 C6 [V.fn 69 [V.agg [D x0,D x1]] [],V.pd [D x2,D x3,D x4,D x5,D x6,D x7,D x8,D x9],V.pd [D XH],V.pd [D XJ]]) (Ko x0 x1 x2 x3 x4 x5 x6 x7 x8 x9 XH XJ):=cD
def iN:Int:=bif decide (gn 4 (A M (bE [D (E (1000*aR x0 x1 x2 x3)),D (E (1000*aR x0 x1 x4 x5)),D (E (1000*aR x0 x1 x6 x7)),D (E (1000*aR x0 x1 x8 x9))] 0 1))<0) then ck (de (gn 4 (A M (bE [D (E (1000*aR x0 x1 x2 x3)),D (E (1000*aR x0 x1 x4 x5)),D (E (1000*aR x0 x1 x6 x7)),D (E (1000*aR x0 x1 x8 x9))] 0 1))) XJ) else ck (de (gn 4 (A M (bE [D (E (1000*aR x0 x1 x2 x3)),D (E (1000*aR x0 x1 x4 x5)),D (E (1000*aR x0 x1 x6 x7)),D (E (1000*aR x0 x1 x8 x9))] 0 1))) XH)
def iV:Int:=bif decide (fD 4 (A M (bE [D (E (1000*aR x0 x1 x2 x3)),D (E (1000*aR x0 x1 x4 x5)),D (E (1000*aR x0 x1 x6 x7)),D (E (1000*aR x0 x1 x8 x9))] 0 1))<0) then ck (c9 (fD 4 (A M (bE [D (E (1000*aR x0 x1 x2 x3)),D (E (1000*aR x0 x1 x4 x5)),D (E (1000*aR x0 x1 x6 x7)),D (E (1000*aR x0 x1 x8 x9))] 0 1))) XH) else ck (c9 (fD 4 (A M (bE [D (E (1000*aR x0 x1 x2 x3)),D (E (1000*aR x0 x1 x4 x5)),D (E (1000*aR x0 x1 x6 x7)),D (E (1000*aR x0 x1 x8 x9))] 0 1))) XJ)
def rA:V:=.tup [D (iN x0 x1 x2 x3 x4 x5 x6 x7 x8 x9 XH XJ),D (iV x0 x1 x2 x3 x4 x5 x6 x7 x8 x9 XH XJ)]
theorem alo (hp:(XH=0->False)/\(XJ=0->False)):bj em (Ko x0 x1 x2 x3 x4 x5 x6 x7 x8 x9 XH XJ) (rA x0 x1 x2 x3 x4 x5 x6 x7 x8 x9 XH XJ):=ku (AY (AY (AY (aG (AY (AY (ku (AY (AY (AY (aG (AY (AY (ku (AY (AY (AY (aG (AY (AY (ku (AY (AY (AY (aG (AY (AY (w7 (Cv (by first|assumption|((first|exact hp.1|exact hp.2|decide))) (AY (Cv (by first|assumption|((first|exact hp.1|exact hp.2|decide))) (AY (Ct (λh0=>Ct (λN=>Cv (by first|assumption|((first|exact hp.1|exact hp.2|decide))) (AY (aG (AY (Cv (by first|assumption|((first|exact hp.1|exact hp.2|decide))) (AY (aG (AY (Br (by unfold rA iN iV;try rw[h0];try rw[N];rfl)))))))))) (λN=>Cv (by first|assumption|((first|exact hp.1|exact hp.2|decide))) (AY (aG (AY (Cv (by first|assumption|((first|exact hp.1|exact hp.2|decide))) (AY (aG (AY (Br (by unfold rA iN iV;try rw[h0];try rw[N];rfl))))))))))) (λh0=>Ct (λN=>Cv (by first|assumption|((first|exact hp.1|exact hp.2|decide))) (AY (aG (AY (Cv (by first|assumption|((first|exact hp.1|exact hp.2|decide))) (AY (aG (AY (Br (by unfold rA iN iV;try rw[h0];try rw[N];rfl)))))))))) (λN=>Cv (by first|assumption|((first|exact hp.1|exact hp.2|decide))) (AY (aG (AY (Cv (by first|assumption|((first|exact hp.1|exact hp.2|decide))) (AY (aG (AY (Br (by unfold rA iN iV;try rw[h0];try rw[N];rfl))))))))))))))))))))))))))))))))))))))))))))
def Mc:aH:=cG [.fn 69 [.agg cO] [],.pd [tI,tI,tI,tI,tI,tI,tI,tI],.pd M,.pd M] (λ
 |[.fn _ [.agg [.int _ x0,.int _ x1]] [],.pd [.int _ x2,.int _ x3,.int _ x4,.int _ x5,.int _ x6,.int _ x7,.int _ x8,.int _ x9],.pd [.int _ XH],.pd [.int _ XJ]]=>(XH=0->False)/\(XJ=0->False)|_=>False) λ
 |[.fn _ [.agg [.int _ x0,.int _ x1]] [],.pd [.int _ x2,.int _ x3,.int _ x4,.int _ x5,.int _ x6,.int _ x7,.int _ x8,.int _ x9],.pd [.int _ XH],.pd [.int _ XJ]]=>rA x0 x1 x2 x3 x4 x5 x6 x7 x8 x9 XH XJ|_=>.any
theorem amr:dL Mc 95:=bH CV λ_ hp=>fb (aip ..) (alo _ _ _ _ _ _ _ _ _ _ _ _ hp)
def Pe (p:List V->Bool) (XU B:aH):aH:=λds=>cond (p ds) (XU ds) (B ds)
theorem DJ {P:Program} {f:FuncId} (p:List V->Bool) (XU B:aH) (hA:(vP XU).Ok P f) (hB:(vP B).Ok P f):(vP (Pe p XU B)).Ok P f:=by
 have key:∀ {w0 args lh K},vP (Pe p XU B) w0 args lh K->vP XU w0 args lh K∨vP B w0 args lh K:=by
  intro w0 args lh K ⟨ds,d,x12,r,N,Q,h3⟩;unfold Pe at Q;cases hc:p ds with
  |true=>rw[hc]at Q;exact .inl ⟨ds,d,x12,r,N,Q,h3⟩|false=>rw[hc]at Q;exact .inr ⟨ds,d,x12,r,N,Q,h3⟩
 exact ⟨λB m lh w args vs K hrel hargs YR=>(key YR).elim (λh=>hA.1 B m lh w args vs K hrel hargs h) (λh=>hB.1 B m lh w args vs K hrel hargs h),
  λ_ _ _ _ _ hk ⟨ds,d,p,r,N,Q,h3,h4,h5⟩=>⟨ds,d,p,r,N,Q,h3,h4,hk _ _ h5⟩,λ_ _ _ _ ⟨_,_,_,_,_,_,_,_,h⟩=>h⟩
def ab7:List V->Bool
 |.fn n _ _::_=>Nat.beq n (match (.fn 70 [] []:V) with|.fn k _ _=>k|_=>0)|_=>false
def WU:aH:=Pe ab7 Kg Mc
theorem hwf:(vP WU).Ok Tryz.prog 95:=DJ _ _ _ alh amr
end
end Go.Dx
namespace Go.Dx
open Go.IntKind (i64 u64 u8)
open Go.Sx
variable (H:Nat) (G:bl) (x0 x1:Int) (q:Nat) (W:bl) (x2 x3:Int) (n4:Nat) (f4:bl) (n6:Nat) (f6:bl)
noncomputable section
theorem qx (a l h:Int):jZ a l h=!bG a l h:=by
 unfold jZ bG;by_cases N:a<l
 ·rw[Cg N,fB (show ¬l<=a by omega)];rfl
 ·rw[fB N,Cg (show l<=a by omega)]
  by_cases Q:h<a
  ·rw[Cg Q,cond_false,cond_true];exact fB I
  ·rw[fB Q,cond_false,cond_true];exact Cg I
theorem aci {n:Nat} {p X1:Nat->Bool} (h:∀ i,i<n->p i=X1 i):lq n p=lq n X1:=by
 cases hq:lq n X1 with
 |true=>obtain⟨i,hi,hp⟩:=alw.1 hq;exact e7 i hi (by rw[h i hi];exact hp)
 |false=>
   refine eV λi hi=>?_;rw[h i hi];cases hp:X1 i with
   |false=>rfl|true=>rw[e7 i hi hp]at hq;cases hq
theorem kx (n:Nat) (f:bl):kr n f=!WG n f:=by unfold kr AR Hm;rw[mi];unfold lq WG;congr 1;congr 1;funext i;rw[qx];rfl
theorem als (s:ByteArray):∀ (k i:Nat) (r:List UInt8),s.size-i=k->(ByteArray.toList.loop s i r).length=r.length+k:=by
 intro k;induction k with
 |zero=>
   intro i r h;rw[ByteArray.toList.loop];have:¬i<s.size:=by omega
   simp[this]
 |succ k ih=>
   intro i r h;rw[ByteArray.toList.loop];have:i<s.size:=by omega
   simp only[this,J6];rw[ih (i+1) _ I];simp;omega
theorem G7 (s:ByteArray):(s.toList==(⟨#[]⟩:ByteArray).toList)=decide (s.size=0):=by
 have e:(⟨#[]⟩:ByteArray).toList=[]:=by decide +kernel
 rw[e];have hl:s.toList.length=s.size:=by unfold ByteArray.toList;rw[als s s.size 0 [] I];simp
 by_cases h:s.size=0
 ·rw[Cg h];have:s.toList=[]:=List.eq_nil_of_length_eq_zero I;rw[this];rfl
 ·rw[fB h]
  cases hs:s.toList with
  |nil=>rw[hs]at hl;simp at hl;omega|cons a l=>rfl
theorem kQ {α:Type} {p:α->Bool}:∀ {l:List α},l.dropWhile p=[]↔∀ x∈l,p x=true
 |[]=>by simp
 |a::l=>by
   rw[List.dropWhile_cons];cases h:p a with
   |true=>simp only[J6];rw[kQ];simp[h]|false=>simp[h]
theorem aih (l cs:List UInt8):Lib.trimS l cs=[]↔∀ b∈l,cs.contains b=true:=by
 unfold Lib.trimS Lib.trimLeftS Lib.trimRightS;rw[kQ];constructor
 ·intro h
  have N:l.reverse.dropWhile (cs.contains ·)=[]:=by
   cases hd:l.reverse.dropWhile (cs.contains ·) with
   |nil=>rfl
   |cons a r=>have ha:cs.contains a=true:=h a (by rw[hd];simp);have hh:=List.head_dropWhile_not (cs.contains ·) (l:=l.reverse) (by rw[hd];simp);simp only[hd,List.head_cons]at hh;rw[ha]at hh;cases hh
  rw[kQ]at N;exact λb hb=>N b (by simpa using hb)
 ·intro h b hb
  have:b∈l.reverse:=by have:=List.mem_reverse.1 hb;exact(List.dropWhile_sublist _).subset this
  exact h b (by simpa using this)
def PY (b:Nat):Bool:=(decide (97<=b)&&decide (b<=122))||((decide (48<=b)&&decide (b<=57))||decide (b=45))
theorem acK (b:UInt8):([97,98,99,100,101,102,103,104,105,106,107,108,109,110,111,112,113,114,115,116,117,118,119,120,121,122,48,49,50,51,52,53,54,55,56,57,45]:List UInt8).contains b=PY b.toNat:=by
 have key:∀n:Fin 256,([97,98,99,100,101,102,103,104,105,106,107,108,109,110,111,112,113,114,115,116,117,118,119,120,121,122,48,49,50,51,52,53,54,55,56,57,45]:List UInt8).contains (UInt8.ofNat n.val)=PY n.val:=by decide +kernel
 have:=key ⟨b.toNat,b.toNat_lt⟩;simpa using this
theorem Gq {l:List UInt8} {i:Nat} (h:i<l.length):l.getD i 0=l[i]:=by simp[List.getD,h]
theorem y8 (s:ByteArray) (i:Nat):(!PR s i)=(PY (s.data.toList.getD i 0).toNat&&(decide (0<i)||(decide (97<=(s.data.toList.getD i 0).toNat)&&decide ((s.data.toList.getD i 0).toNat<=122)))):=by unfold PR PY;generalize (s.data.toList.getD i 0).toNat=b;rw[Q8];simp only[PI,LW,DD,MX,IJ];split<;>split<;>(try split)<;>simp_all<;>omega
theorem GH (s:ByteArray):mR s=T0 s:=by
 unfold mR T0;rw[G7];have YD:s.size=s.data.toList.length:=by rw[P3];rfl
 by_cases h0:s.size=0
 ·rw[Cg h0,h0];rfl
 rw[fB h0];have e0:decide (0<(s.size:Int))=true:=Cg I;rw[e0];by_cases sO:(s.size:Int)<=24
 case neg=>rw[fB sO];simp
 rw[Cg sO];simp only[PC,cond_true,Bool.and_true];rw[G7];rw[Q8];have ht:(wM s (ByteArray.mk (Array.mk [97,98,99,100,101,102,103,104,105,106,107,108,109,110,111,112,113,114,115,116,117,118,119,120,121,122,48,49,50,51,52,53,54,55,56,57,45]))).size=0↔∀ b∈s.data.toList,PY b.toNat=true:=by
  rw[show(wM s (ByteArray.mk (Array.mk [97,98,99,100,101,102,103,104,105,106,107,108,109,110,111,112,113,114,115,116,117,118,119,120,121,122,48,49,50,51,52,53,54,55,56,57,45]))).size=(Lib.trimS s.data.toList [97,98,99,100,101,102,103,104,105,106,107,108,109,110,111,112,113,114,115,116,117,118,119,120,121,122,48,49,50,51,52,53,54,55,56,57,45]).length from by simp[wM,ByteArray.size]];rw[List.length_eq_zero_iff,aih];constructor
  ·intro h b hb;rw[← acK];exact h b hb
  ·intro h b hb;rw[acK];exact h b hb
 have hb:HC s.size (λi=>!PR s i)=true↔(∀ b∈s.data.toList,PY b.toNat=true)/\97<=(s.data.toList.getD 0 0).toNat/\(s.data.toList.getD 0 0).toNat<=122:=by
  rw[rG];constructor
  ·intro h
   refine⟨λb hb=>?_,?_⟩
   ·obtain⟨i,hi,rfl⟩:=List.getElem_of_mem hb;have:=h i I;rw[y8,DD]at this;rw[Gq hi]at this;exact this.1
   ·have:=h 0 I
    rw[y8]at this;simp only[DD,MX,IJ]at this;rcases this.2 with N|N
    ·omega
    ·exact N
  ·rintro⟨N,Q,h3⟩ i hi
   rw[y8];have YC:i<s.data.toList.length:=by omega
   rw[N _ (by rw[Gq YC];exact List.getElem_mem YC)];by_cases hz:i=0
   ·subst hz;rw[Cg Q,Cg h3];rfl
   ·simp;omega
 rw[hb,← ht];cases hd:decide ((wM s (ByteArray.mk (Array.mk [97,98,99,100,101,102,103,104,105,106,107,108,109,110,111,112,113,114,115,116,117,118,119,120,121,122,48,49,50,51,52,53,54,55,56,57,45]))).size=0) with
 |false=>have:=Hv hd;simp[this]
 |true=>
   have:=HT hd;simp only[cond_true,this,HJ];rw[show s.data.1.getD 0 0=s.data.toList.getD 0 0 from rfl];generalize (s.data.toList.getD 0 0).toNat=b;by_cases g:97<=b
   ·rw[Cg (show(97:Int)<=(b:Int) by omega)];simp only[cond_true,IJ];omega
   ·rw[fB (show ¬(97:Int)<=(b:Int) by omega)];simp;omega
theorem hoo (x At:Int):rD x At=!Ca x At:=by unfold rD Ca;exact kx _ _
section
variable (n:Nat) (f:bl)
include n f
theorem if0 (s:ByteArray):sg n f s=lq n λk=>(sv (aI (f k))).toList==s.toList:=by unfold sg HP;rw[mi];rfl
theorem hnw (s:ByteArray):rm n f s=lq n λk=>(sv (aI (f k))).toList==s.toList:=by unfold rm Hz;rw[mi];rfl
theorem acb:ki n f=lq n λi=>!Ca (aE (f i)) (aW (f i)):=by unfold ki Hb;rw[mi];exact aci λi _=>hoo _ _
end
theorem G2 (i:Nat):Qx H (A ap G) i=cR H G i:=by unfold Qx cR Vg TE VW;rw[GH,if0,acb];simp only[Hk,Nat.sub_zero,Ic,qx,NR];rfl
theorem F1 (i:Nat):S8 q (A AV W) i=cT W i:=by
 show ni (aE (W i)) (aW (W i)) (bZ (W i)) (cU (W i)) (cS (W i))=_;unfold cT ni UF;rw[kx];show(bif !!Ca _ _ then _ else _)=_;generalize Ca _ _=p;generalize bZ (W i)=a;generalize cU (W i)=z;generalize cS (W i)=w;cases p
 ·rfl
 ·simp only [Mq,PC,cond_true]
  rw[qx];cases ha:bG a 1 20000
  ·simp only [PC,Mq,cond_true,cond_false]
   by_cases hw:1<=w/\w<=1000
   ·have e:bG w 1 1000=false:=by unfold bG;rw[fB I,cond_false];exact fB I
    rw[e,C4 I I];unfold bG;by_cases hz:z<0
    ·rw[Cg hz];rfl
    ·rw[fB hz]
     by_cases f2:w<=z
     ·rw[Cg (show w-1<z by omega),Cg f2];rfl
     ·rw[fB (show ¬w-1<z by omega),fB f2,fB (show ¬1000<w by omega)];rfl
   ·have e:bG w 1 1000=true:=by
     unfold bG;by_cases N:w<1
     ·rw[Cg N];rfl
     ·rw[fB N,cond_false];exact Cg I
    rw[e];have:(bif bif decide (z<0) then true else decide (w<=z) then true else decide (1000<w))=true:=by
     by_cases hz:z<0
     ·rw[Cg hz];rfl
     ·rw[fB hz,cond_false]
      by_cases Q:w<=z
      ·rw[Cg Q];rfl
      ·rw[fB Q,cond_false];exact Cg I
    rw[this];cases !bG z 0 (E (w-1))<;>rfl
  ·rfl
theorem hxs:kR x0 x1 x2 x3=bif bif bif bif bif decide (x0<0) then true else decide (x1<=x0) then true else decide (1000<x1) then true else decide (x2<0) then true else decide (x3<=x2) then true else decide (1000<x3):=by
 have key:∀ a b:Int,((bif !bG b 1 1000 then bG a 0 (E (b-1)) else true)=true)↔(a<0∨b<=a∨1000<b):=by
  intro a b;unfold bG;by_cases N:b<1
  ·rw[Cg N];simp;omega
  ·rw [fB N]
   by_cases Q:1000<b
   ·rw[Cg Q];simp;omega
   ·rw[fB Q,C4 I I];simp only[cond_false,PC,cond_true,PI];split<;>simp_all<;>omega
 have e1:=key x0 x1;have e2:=key x2 x3;have:kR x0 x1 x2 x3=(bif !(bif !bG x1 1 1000 then bG x0 0 (E (x1-1)) else true) then(bif !bG x3 1 1000 then bG x2 0 (E (x3-1)) else true) else true):=by unfold kR;cases bG x1 1 1000<;>cases bG x0 0 (E (x1-1))<;>rfl
 rw[this];generalize (bif !bG x1 1 1000 then bG x0 0 (E (x1-1)) else true)=p at e1 ⊢;generalize (bif !bG x3 1 1000 then bG x2 0 (E (x3-1)) else true)=X1 at e2 ⊢;rw[Q8];simp only[PI];cases p<;>cases X1<;>simp_all<;>omega
theorem AQ (i:Nat):SA n4 (A ar f4) i=cF f4 i:=by
 show nl (aE (f4 i)) (aW (f4 i)) (bZ (f4 i)) (cU (f4 i)) (aL (aI (L (L (L (L (f4 i))))))) (λj=>aw lS (b7 (aI (L (L (L (L (f4 i)))))) j))=_;unfold cF nl RN;rw[kx];have:∀n (f:bl),ri n f=lq n λj=>s9 (f j):=by intro n f;unfold ri H5;rw[mi];exact aci λj _=>by rw[hxs];rfl
 rw[this];rfl
theorem aj1 (p X1 r t:Bool) (B:Int):(bif p then bif !X1 then bif !r then bif t then 7 else B else 7 else 7 else 7)=(bif bif bif bif !p then true else X1 then true else r then true else t then 7 else B):=by cases p<;>cases X1<;>cases r<;>cases t<;>rfl
theorem K6 (i:Nat):Qy n6 (A al f6) i=cC n6 f6 i:=by unfold Qy cC lg RO;rw[GH,hnw,kx];simp only[Hk,Nat.sub_zero,Ic];unfold Rn;simp only[qx,NR];rw[aj1];rfl
theorem fh {n:Nat} {c d:Nat->Int} (h:∀i,c i=d i):fP n c=fP n d/\dP n c=dP n d:=by have:c=d:=funext h;rw[this];exact⟨rfl,rfl⟩
theorem akP :
 (lD H G q W n4 f4 n6 f6,lA H G q W n4 f4 n6 f6,iI H G q W n4 f4 n6 f6)=Qb H G q W n4 f4 n6 f6:=by
 unfold lD lA iI Qb TT z1 z2 z3 Ac xG oT wO oO xo oC xM oF;rw[(fh (G2 H G)).1,(fh (G2 H G)).2,(fh (F1 q W)).1,(fh (F1 q W)).2,(fh (AQ n4 f4)).1,(fh (AQ n4 f4)).2,(fh (K6 n6 f6)).1,(fh (K6 n6 f6)).2];cases (bif bif bif decide (8<(H:Int)) then true else decide (12<(q:Int)) then true else decide (8<(n4:Int)) then true else decide (24<(n6:Int)))
 ·simp only [cond_false]
  cases N:dP H (cR H G)!=0
  ·simp only [cond_false]
   cases Q:dP q (cT W)!=0
   ·simp only [cond_false]
    cases h3:dP n4 (cF f4)!=0
    ·simp only[cond_false]
     cases h4:dP n6 (cC n6 f6)!=0
     ·rfl
     ·rfl
    ·rfl
   ·rfl
  ·rfl
 ·rfl
theorem Rh (ts:List Ty) (f:bl):A ts (A ts f)=A ts f:=by funext i;exact ea ts _
theorem adv {n:Nat} {c:Nat->Int} (h:dP n c=0):∀ i,i<n->c i=0:=by
 unfold dP at h;rcases My (n:=n) (p:=λi=>c i !=0) with ⟨_,Q⟩|⟨j,N,Q,h3,_⟩
 ·intro i hi;have:=Q i hi;simpa using this
 ·rw[Q]at h
  have:((j:Int)==-1)=false:=by rw[Qm];omega
  rw[this,cond_false,Hk]at h;rw[h]at h3;cases h3
section
variable {H:Nat} {G:bl} {q:Nat} {W:bl} {n4:Nat} {f4:bl} {n6:Nat} {f6:bl} {i j m l:Int}
structure WQ (H:Nat) (G:bl) (q:Nat) (W:bl) (n4:Nat) (f4:bl) (n6:Nat) (f6:bl):Prop where
 l0:H<=8
 l2:q<=12
 l4:n4<=8
 l6:n6<=24
 rd:∀i,i<H->cR H G i=0
 tr:∀i,i<q->cT W i=0
 fr:∀i,i<n4->cF f4 i=0
 cl:∀i,i<n6->cC n6 f6 i=0
theorem jU {n:Nat} {c:Nat->Int} {k:Int} {z:Int×Int×Int} (h:(Ac n c k z).2.2=0):(∀ i,i<n->c i=0)/\z.2.2=0:=by
 unfold Ac at h;cases hb:dP n c !=0 with
 |true=>rw[hb]at h;simp only[cond_true]at h;rw[h]at hb;cases hb
 |false=>rw[hb]at h;exact⟨adv (by simpa using hb),h⟩
theorem s7 (h:gq H G q W n4 f4 n6 f6=0):WQ H G q W n4 f4 n6 f6:=by
 unfold gq Qb at h;cases hl:TT H G q W n4 f4 n6 f6 with
 |true=>rw[hl]at h;cases h
 |false=>
   rw[hl,cond_false]at h;obtain⟨N,h⟩:=jU h;unfold z1 at h;obtain⟨Q,h⟩:=jU h;unfold z2 at h;obtain⟨h3,h⟩:=jU h;unfold z3 at h;obtain⟨h4,_⟩:=jU h;unfold TT at hl;simp only[PI,Bool.ite_eq_false_distrib]at hl;have:H<=8/\q<=12/\n4<=8/\n6<=24:=by refine⟨?_,?_,?_,?_⟩<;>(apply Classical.byContradiction;intro hn)<;>simp_all<;>omega
   exact⟨this.1,this.2.1,this.2.2.1,this.2.2.2,N,Q,h3,h4⟩
def mo (i m:Int):Bool:=bif decide (i<0) then true else decide (m<=i)
def Lc (e i m:Int):Int:=bif e==0 then(bif mo i m then 4 else 0) else e
def QH (e i m j l:Int):Int:=bif e==0 then(bif bif mo i m then true else mo j l then 4 else 0) else e
theorem zb:iI H G q W n4 f4 n6 f6=gq H G q W n4 f4 n6 f6:=congrArg (λt=>t.2.2) (akP H G q W n4 f4 n6 f6)
theorem yC {i:Int} {m:Nat} (hm:m<=9223372036854775807):bG i 0 (E ((m:Int)-1))=mo i m:=by
 unfold bG mo;rw[C4 I I];by_cases h:i<0
 ·rw[Cg h];rfl
 ·rw[fB h,cond_false,cond_false]
  by_cases g:(m:Int)<=i
  ·rw[Cg g];exact Cg I
  ·rw[fB g];exact fB I
theorem Tg {i:Int} {m:Nat} (hm:gq H (A ap G) q (A AV W) n4 (A ar f4) n6 (A al f6)=0->m<=9223372036854775807) :
 kn H (A ap G) q (A AV W) n4 (A ar f4) n6 (A al f6) 2 (A M (bE [D i,D m] 0 1))=Lc (gq H (A ap G) q (A AV W) n4 (A ar f4) n6 (A al f6)) i m:=by
 unfold kn Ds Lc;simp only[Rh,zb];cases he:gq H (A ap G) q (A AV W) n4 (A ar f4) n6 (A al f6)==0 with
 |false=>rfl
 |true=>rw[cond_true,cond_true];have:=hm (Jh he);rw[← yC this];show(bif !(true&&!bG i 0 (E ((m:Int)-1))) then _ else _)=_;rw[Bool.true_and,NR]
theorem agh {i j:Int} {m l:Nat} (hm:gq H (A ap G) q (A AV W) n4 (A ar f4) n6 (A al f6)=0->m<=9223372036854775807/\l<=9223372036854775807) :
 kn H (A ap G) q (A AV W) n4 (A ar f4) n6 (A al f6) 4 (A M (bE [D i,D m,D j,D l] 0 1))=QH (gq H (A ap G) q (A AV W) n4 (A ar f4) n6 (A al f6)) i m j l:=by
 unfold kn Ds QH;simp only[Rh,zb];cases he:gq H (A ap G) q (A AV W) n4 (A ar f4) n6 (A al f6)==0 with
 |false=>rfl
 |true=>rw[cond_true,cond_true];have:=hm (Jh he);rw[← yC this.1,← yC this.2];show(bif !((true&&!bG i 0 (E ((m:Int)-1)))&&!bG j 0 (E ((l:Int)-1))) then _ else _)=_;cases bG i 0 (E ((m:Int)-1))<;>cases bG j 0 (E ((l:Int)-1))<;>rfl
theorem BX {i m:Int}:eU H (A ap G) q (A AV W) n4 (A ar f4) n6 (A al f6) i m=Lc (gq H (A ap G) q (A AV W) n4 (A ar f4) n6 (A al f6)) i m:=by
 unfold eU xe Lc mo;simp only[Rh];generalize gq H (A ap G) q (A AV W) n4 (A ar f4) n6 (A al f6)=e;by_cases he:e=0
 ·subst he;cases (bif decide (i<0) then true else decide (m<=i))<;>rfl
 ·rw[show(e==0)=false from by simpa using he];rfl
theorem qn (x8 x9:Int):kE H G q W n4 f4 n6 f6 x8 x9=KN H G q W n4 f4 n6 f6 x8 x9/\oL H G q W n4 f4 n6 f6 x8 x9=UB H G q W n4 f4 n6 f6 x8 x9:=by
 have hc:=agh (H:=H) (G:=G) (q:=q) (W:=W) (n4:=n4) (f4:=f4) (n6:=n6) (f6:=f6) (i:=x9) (j:=x8) (m:=n4) (l:=n6) (λh=>⟨by have:=(s7 h).l4;omega,by have:=(s7 h).l6;omega⟩);have hd:=BX (H:=H) (G:=G) (q:=q) (W:=W) (n4:=n4) (f4:=f4) (n6:=n6) (f6:=f6) (i:=x9) (m:=n4);unfold kE KN oL UB;rw[show(xD (aE (f4 x9.toNat)) (aW (f4 x9.toNat)) (bZ (f4 x9.toNat)) (cU (f4 x9.toNat)) (aW (f6 x8.toNat)) (bZ (f6 x8.toNat)))=kq (E (bZ (f4 x9.toNat)-aE (f4 x9.toNat))) (E (cU (f4 x9.toNat)-aW (f4 x9.toNat))) (E (aW (f6 x8.toNat)-aE (f4 x9.toNat))) (E (bZ (f6 x8.toNat)-aW (f4 x9.toNat))) from rfl];rw[show kn H (A ap G) q (A AV W) n4 (A ar f4) n6 (A al f6) 4 (A M (bE [D x9,D n4,D x8,D n6] 0 1))=_ from hc];rw[show eU H (A ap G) q (A AV W) n4 (A ar f4) n6 (A al f6) x9 (n4:Int)=_ from hd];show(bif _ then false else decide (0<_))=(bif bif _ then mo x8 n6 else false then false else _)/\_=(bif bif _ then mo x8 n6 else false then _ else _);unfold Lc QH;generalize decide (0<kq _ _ _ _)=v;generalize gq _ _ _ _ _ _ _ _=e;generalize mo x8 _=b;generalize mo x9 _=a;by_cases he:e=0
 ·subst he;cases a<;>cases b<;>cases v<;>exact⟨rfl,rfl⟩
 ·rw[show(e==0)=false from by simpa using he]
  have:(e !=0)=true:=by simpa using he
  have Q:(e==0)=false:=by simpa using he
  simp only[cond_false,this,Q,cond_true,MA]
end
end
end Go.Dx
namespace Go.Dx
open Go.IntKind (i64 u64 u8)
open Go.Sx Go.Proofs
variable (H:Nat) (G:bl) (x0:Int) (s0:ByteArray) (x1:Int) (q:Nat) (W:bl) (x2 x3 x4:Int) (Z:Nat) (S:bl) (x5 x6:Int) (n7:Nat) (f7:bl) (x7 x8:Int) (T:Nat) (U:bl) (x9:Int) (R:Nat) (O:bl) (X2:Nat) (X0:bl) (XB:Nat) (X7:bl) (Ud XK XL XM XN:Int)
noncomputable section
structure zH (H:Nat) (G:bl) (q:Nat) (W:bl):Prop where
 l0:H<=10
 l2:q<=20
 tb:∀i,i<H->oD (A au G) i=0
 lm:∀i,i<q->pP H (A ao W) i=0
theorem yW {H:Nat} {G:bl} {q:Nat} {W:bl} (h:fw H G q W=0):zH H G q W:=by
 unfold fw G4 at h;cases hl:(bif decide (10<(H:Int)) then true else decide (20<(q:Int))) with
 |true=>rw[hl]at h;cases h
 |false=>
   rw[hl]at h;obtain⟨N,Q⟩:=jU h;obtain⟨h3,_⟩:=jU Q;have a:(decide (10<(H:Int)))=false:=by cases hh:decide (10<(H:Int)) with|false=>rfl|true=>rw[hh]at hl;cases hl
   rw[a]at hl;have b:=Hv hl;have a:=Hv a;exact⟨I,I,N,h3⟩
theorem qR {x a b:Int} (h:bh x a b=true):a<=x/\x<=b:=by
 unfold bh at h;cases N:decide (a<=x) with
 |false=>rw[N]at h;cases h|true=>rw[N]at h;exact⟨HT N,HT h⟩
theorem Ju {a b:Bool} (h:PZ a b=false):a=true/\b=true:=by unfold PZ at h;cases a<;>cases b<;>first|exact⟨rfl,rfl⟩|cases h
def yx (x:List V):Nat:=aL (aI (L (L (L x))))
def pY (x:List V):Nat->List V:=b7 (aI (L (L (L x))))
structure mw (x:List V):Prop where
 u:2<=aL (aI (L x))/\aL (aI (L x))<=12
 v:2<=aL (aI (L (L x)))/\aL (aI (L (L x)))<=12
 n:yx x=aL (aI (L x))
 row:∀i,i<yx x->aL (aI (pY x i))=aL (aI (L (L x)))
 side:0<=cS x/\cS x<=10000000
 sky:0<=bq x/\bq x<=10000000
 val:∀i,i<yx x->∀j,j<aL (aI (pY x i))->0<=aE (b7 (aI (pY x i)) j)/\aE (b7 (aI (pY x i)) j)<=10000000
theorem hZ {b:Bool} {k z:Int} (h:(bif b then k else z)=0) (hk:k≠0):b=false/\z=0:=by
 cases b with
 |true=>exact absurd h hk|false=>exact⟨rfl,h⟩
theorem Hn {b:Bool} (h:(!b)=false):b=true:=by cases b<;>first|rfl|cases h
theorem pQ {a b:Bool} (h:(a&&b)=true):a=true/\b=true:=by cases a<;>cases b<;>first|exact⟨rfl,rfl⟩|cases h
theorem aj2 {n:Nat} {p:Nat->Bool} (h:lq n p=false):∀ i,i<n->p i=false:=λi hi=>by
 cases hp:p i with
 |false=>rfl|true=>rw[e7 i hi hp]at h;cases h
theorem JI {G:bl} {a:Nat} (h:oD (A au G) a=0):mw (G a):=by
 unfold oD at h;obtain⟨_,h⟩:=hZ h aA;obtain⟨_,h⟩:=hZ h aA;unfold KU at h;obtain⟨N,h⟩:=hZ h aA;obtain⟨_,h⟩:=hZ h aA;obtain⟨_,h⟩:=hZ h aA;obtain⟨Q,h⟩:=hZ h aA;obtain⟨h3,h⟩:=hZ h aA;obtain⟨h4,_⟩:=hZ h aA;obtain⟨u,v⟩:=Ju N;have u:=qR u;have v:=qR v;have g:rZ (cS (G a)) (bq (G a))=true:=(pQ (Hn h4)).1;have w:HC (yx (G a)) (uT (aL (aI (L (L (G a))))) (A [.sl M] (pY (G a))))=true:=(pQ (Hn h4)).2;have row:∀i,i<yx (G a)->aL (aI (pY (G a) i))=aL (aI (L (L (G a)))):=λi hi=>by have:=aj2 h3 i hi;have:((aL (aI (pY (G a) i)):Int)!=(aL (aI (L (L (G a)))):Int))=false:=this;have:=Jh (by simpa using this:((aL (aI (pY (G a) i)):Int)==(aL (aI (L (L (G a)))):Int))=true);omega
 unfold rZ at g;have g1:bh (cS (G a)) 0 10000000=true:=by
  cases hh:bh (cS (G a)) 0 10000000 with
  |true=>rfl|false=>rw[hh]at g;cases g
 rw[g1]at g
 exact ⟨⟨by have:=u.1;exact Int.ofNat_le.1 this,by have:=u.2;exact Int.ofNat_le.1 this⟩,⟨by have:=v.1;exact Int.ofNat_le.1 this,by have:=v.2;exact Int.ofNat_le.1 this⟩,
  by have:((yx (G a):Int)!=(aL (aI (L (G a))):Int))=false:=Q
     have:=Jh (by simpa using this:((yx (G a):Int)==(aL (aI (L (G a))):Int))=true);omega,
  row,qR g1,qR g,λi hi j hj=>by rw[row i hi]at hj;exact qR (dh (dh w i hi) j hj)⟩
structure MV (H:Nat) (x:List V):Prop where
 t:0<=aW x/\aW x<H
 kind:1<=bZ x/\bZ x<=3
 lum:1<=cU x/\cU x<=1000000
theorem S9 {H:Nat} {W:bl} {a:Nat} (hn:H<=10) (h:pP H (A ao W) a=0):MV H (W a):=by unfold pP at h;obtain⟨_,h⟩:=hZ h aA;obtain⟨_,h⟩:=hZ h aA;unfold Sm C8 at h;obtain⟨N,h⟩:=hZ h aA;obtain⟨Q,h⟩:=hZ h aA;obtain⟨h3,h⟩:=hZ h aA;have N:=qR (Hn N:bh (aW (W a)) 0 (E ((H:Int)-1))=true);have Q:=qR (Hn Q:bh (bZ (W a)) 1 3=true);have h3:=qR ((pQ (Hn h3)).1:bh (cU (W a)) 1 1000000=true);rw[C4 I I]at N;exact⟨⟨N.1,I⟩,Q,h3⟩
def Hd (dx dy:Int):Prop:=(-1000<=dx/\dx<=1000)/\(-1000<=dy/\dy<=1000)/\(dx≠0∨dy≠0)
def Bd (x:Int):Prop:=-1000000000<=x/\x<=1000000000
theorem Ai {a b:Int} (ha:Bd a) (hb:-1000<=b/\b<=1000):-1000000000000<=a*b/\a*b<=1000000000000:=by unfold Bd at ha;have h:=N2 (show a.natAbs<=1000000000 by omega) (show b.natAbs<=1000 by omega);rw[← Int.natAbs_mul]at h;omega
theorem sqB {a:Int} (ha:-1000<=a/\a<=1000):0<=a*a/\a*a<=1000000/\(a≠0->1<=a*a):=by have h:=N2 (show a.natAbs<=1000 by omega) (show a.natAbs<=1000 by omega);rw[← Int.natAbs_mul_self' a];refine⟨I,I,λh0=>?_⟩;have:1<=a.natAbs*a.natAbs:=N2 (show 1<=a.natAbs by omega) (show 1<=a.natAbs by omega);omega
theorem OP {dx dy:Int} (h:Hd dx dy):1<=bW dx dy/\bW dx dy<=2000000:=by
 obtain⟨a,b,c⟩:=h;have N:=sqB a;have Q:=sqB b;unfold bW;rw[C4 (x:=dx*dx) I I,C4 (x:=dy*dy) I I,C4 I I];rcases c with c|c
 ·have:=N.2.2 c;omega
 ·have:=Q.2.2 c;omega
theorem tJ (x:Int):ck x=gA x:=by unfold ck gA;omega
theorem eqs {n:Nat}:fE n<=n:=by
 have h:=(oo n).1;cases hr:fE n with
 |zero=>omega
 |succ k=>rw[hr]at h;have:=N2 (show 1<=k+1 by omega) (Dm (k+1));omega
theorem ajI {n:Nat} (h:1<=n):1<=fE n:=by
 have Q:=(oo n).2;cases hr:fE n with
 |zero=>rw[hr]at Q;omega|succ k=>omega
theorem qG {x:Int} (h:x<=3999999999999999999):d9 x=gT x:=by unfold d9 gT kp uO;rw[show min x 4611686018427387903=x by omega,show min x 3999999999999999999=x by omega]
theorem DV {x:Int} (h:x<=3999999999999999999):Iv x=kt x:=by unfold Iv kt;rw[qG h]
theorem uU {x:Int} (N:1<=x):1<=gT x/\gT x<=3999999999999999999:=by
 unfold gT;have a:=ajI (n:=uO x) (by unfold uO;omega);have b:=eqs (n:=uO x);have:uO x<=3999999999999999999:=by unfold uO;omega
 omega
theorem ov2 {x:Int} (N:1<=x):1<=kt x:=by
 have:=uU N;unfold kt;cases decide (E (gT x*gT x)<x) with
 |true=>show 1<=E (gT x+1);rw[C4 I I];omega|false=>exact this.1
theorem rts {s:Int} (h:1<=s/\s<=2000000):Qf s:=by unfold Qf;rw[C4 (x:=1000000*s) I I];exact⟨λh0=>by have:=ov2 (x:=1000000*s) I;omega,λh0=>by have:=(uU (x:=1000000*s) I).1;omega⟩
def ox (x:Int):Prop:=-2000000000000<=x/\x<=2000000000000
theorem kj {a:Int} (h:ox a):E (1000*a)=1000*a:=by unfold ox at h;exact C4 I I
section
variable {a b c d s:Int} (ha:ox a) (hb:ox b) (hc:ox c) (hd:ox d) (hs:1<=s/\s<=2000000)
include a b c d s ha hb hc hd hs
theorem KF :
 (bif decide (min (min (min (min (E (1000*a)) (E (1000*a))) (E (1000*b))) (E (1000*c))) (E (1000*d))<0)
   then ck (de (min (min (min (min (E (1000*a)) (E (1000*a))) (E (1000*b))) (E (1000*c))) (E (1000*d))) (d9 (E (1000000*s))))
   else ck (de (min (min (min (min (E (1000*a)) (E (1000*a))) (E (1000*b))) (E (1000*c))) (E (1000*d))) (Iv (E (1000000*s)))))=Ha (min (min (min (min a a) c) b) d) s:=by
 have hm:ox (min (min (min (min a a) c) b) d):=by unfold ox at *;omega
 rw[kj ha,kj hb,kj hc,kj hd];unfold Ha;rw[kj hm,tJ,tJ,qG (by rw[C4 I I];omega),DV (by rw[C4 I I];omega)];rw[show min (min (min (min (1000*a) (1000*a)) (1000*b)) (1000*c)) (1000*d)=1000*min (min (min (min a a) c) b) d by omega];rw[show decide (1000*min (min (min (min a a) c) b) d<0)=decide (min (min (min (min a a) c) b) d<0) from decide_eq_decide.2 I];rfl
theorem JU :
 (bif decide (max (max (max (max (E (1000*a)) (E (1000*a))) (E (1000*b))) (E (1000*c))) (E (1000*d))<0)
   then ck (c9 (max (max (max (max (E (1000*a)) (E (1000*a))) (E (1000*b))) (E (1000*c))) (E (1000*d))) (Iv (E (1000000*s))))
   else ck (c9 (max (max (max (max (E (1000*a)) (E (1000*a))) (E (1000*b))) (E (1000*c))) (E (1000*d))) (d9 (E (1000000*s)))))=Hy (max (max (max (max a a) c) b) d) s:=by
 have hm:ox (max (max (max (max a a) c) b) d):=by unfold ox at *;omega
 rw[kj ha,kj hb,kj hc,kj hd];unfold Hy;rw[kj hm,tJ,tJ,qG (by rw[C4 I I];omega),DV (by rw[C4 I I];omega)];rw[show max (max (max (max (1000*a) (1000*a)) (1000*b)) (1000*c)) (1000*d)=1000*max (max (max (max a a) c) b) d by omega];rw[show decide (1000*max (max (max (max a a) c) b) d<0)=decide (max (max (max (max a a) c) b) d<0) from decide_eq_decide.2 I];rfl
end
theorem P4 {dx dy x At:Int} (h:Hd dx dy) (hx:Bd x) (hy:Bd At):ox (E (E (x*dy)-E (At*dx))):=by have N:=Ai hx h.2.1;have Q:=Ai hy h.1;unfold ox;rw[C4 (x:=x*dy) I I,C4 (x:=At*dx) I I,C4 I I];omega
theorem PS {dx dy x At:Int} (h:Hd dx dy) (hx:Bd x) (hy:Bd At):ox (E (E (x*dx)+E (At*dy))):=by have N:=Ai hx h.1;have Q:=Ai hy h.2.1;unfold ox;rw[C4 (x:=x*dx) I I,C4 (x:=At*dy) I I,C4 I I];omega
def LE:bo:=(95,.con WU)::RE
theorem Me:aX Tryz.prog BD CJ LE:=.con hwf (CV)
def eh:Int:=E5 4 (xw (dl 3 (dl 2 (dl 1 (λx=>[D (E (E (x0*x5)-E (x2*x4)))]) λx=>[D (E (E (x1*x5)-E (x2*x4)))]) λx=>[D (E (E (x0*x5)-E (x3*x4)))]) λx=>[D (E (E (x1*x5)-E (x3*x4)))])) (E (E (x4*x4)+E (x5*x5)))
def eT:Int:=Fu 4 (xw (dl 3 (dl 2 (dl 1 (λx=>[D (E (E (x0*x5)-E (x2*x4)))]) λx=>[D (E (E (x1*x5)-E (x2*x4)))]) λx=>[D (E (E (x0*x5)-E (x3*x4)))]) λx=>[D (E (E (x1*x5)-E (x3*x4)))])) (E (E (x4*x4)+E (x5*x5)))
def ei:Int:=E5 4 (xw (dl 3 (dl 2 (dl 1 (λx=>[D (E (E (x0*x4)+E (x2*x5)))]) λx=>[D (E (E (x1*x4)+E (x2*x5)))]) λx=>[D (E (E (x0*x4)+E (x3*x5)))]) λx=>[D (E (E (x1*x4)+E (x3*x5)))])) (E (E (x4*x4)+E (x5*x5)))
def eQ:Int:=Fu 4 (xw (dl 3 (dl 2 (dl 1 (λx=>[D (E (E (x0*x4)+E (x2*x5)))]) λx=>[D (E (E (x1*x4)+E (x2*x5)))]) λx=>[D (E (E (x0*x4)+E (x3*x5)))]) λx=>[D (E (E (x1*x4)+E (x3*x5)))])) (E (E (x4*x4)+E (x5*x5)))
def Wi:RT Empty:=.cb (.cb (.cb (.obp ((Iv (E ((1000000:Int)*bW x0 x1))=(0:Int)->False)/\(d9 (E ((1000000:Int)*bW x0 x1))=(0:Int)->False)) (.obt (.obp ((Iv (E ((1000000:Int)*bW x0 x1))=(0:Int)->False)/\(d9 (E ((1000000:Int)*bW x0 x1))=(0:Int)->False)) (.obt (.ret (V.agg [D (iH x0 x1 x2 x4 x2 x5 x3 x4 x3 x5 (Iv (E (1000000*bW x0 x1))) (d9 (E (1000000*bW x0 x1)))),D (iO x0 x1 x2 x4 x2 x5 x3 x4 x3 x5 (Iv (E (1000000*bW x0 x1))) (d9 (E (1000000*bW x0 x1)))),D (iN x0 x1 x2 x4 x2 x5 x3 x4 x3 x5 (Iv (E (1000000*bW x0 x1))) (d9 (E (1000000*bW x0 x1)))),D (iV x0 x1 x2 x4 x2 x5 x3 x4 x3 x5 (Iv (E (1000000*bW x0 x1))) (d9 (E (1000000*bW x0 x1))))]))))))))
theorem hi':eJ eL (bu JJ LE u0 zT [V.agg [D x0,D x1],D x2,D x3,D x4,D x5]) (Wi x0 x1 x2 x3 x4 x5):=cD
def hlt3:Int:=iH x0 x1 x2 x4 x2 x5 x3 x4 x3 x5 (Iv (E (1000000*bW x0 x1))) (d9 (E (1000000*bW x0 x1)))
def fe11:Int:=iO x0 x1 x2 x4 x2 x5 x3 x4 x3 x5 (Iv (E (1000000*bW x0 x1))) (d9 (E (1000000*bW x0 x1)))
def hno0:Int:=iN x0 x1 x2 x4 x2 x5 x3 x4 x3 x5 (Iv (E (1000000*bW x0 x1))) (d9 (E (1000000*bW x0 x1)))
def frzH:Int:=iV x0 x1 x2 x4 x2 x5 x3 x4 x3 x5 (Iv (E (1000000*bW x0 x1))) (d9 (E (1000000*bW x0 x1)))
theorem ajL {x0 x1 x2 x3 x4 x5:Int} (hd:Hd x0 x1) (Q:Bd x2) (h3:Bd x3) (h4:Bd x4) (h5:Bd x5):iH x0 x1 x2 x4 x2 x5 x3 x4 x3 x5 (Iv (E (1000000*bW x0 x1))) (d9 (E (1000000*bW x0 x1)))=eh x2 x3 x4 x5 x0 x1:=KF (P4 hd Q h4) (P4 hd Q h5) (P4 hd h3 h4) (P4 hd h3 h5) (OP hd)
theorem aj3 {x0 x1 x2 x3 x4 x5:Int} (hd:Hd x0 x1) (Q:Bd x2) (h3:Bd x3) (h4:Bd x4) (h5:Bd x5):iO x0 x1 x2 x4 x2 x5 x3 x4 x3 x5 (Iv (E (1000000*bW x0 x1))) (d9 (E (1000000*bW x0 x1)))=eT x2 x3 x4 x5 x0 x1:=JU (P4 hd Q h4) (P4 hd Q h5) (P4 hd h3 h4) (P4 hd h3 h5) (OP hd)
theorem akc {x0 x1 x2 x3 x4 x5:Int} (hd:Hd x0 x1) (Q:Bd x2) (h3:Bd x3) (h4:Bd x4) (h5:Bd x5):iN x0 x1 x2 x4 x2 x5 x3 x4 x3 x5 (Iv (E (1000000*bW x0 x1))) (d9 (E (1000000*bW x0 x1)))=ei x2 x3 x4 x5 x0 x1:=KF (PS hd Q h4) (PS hd Q h5) (PS hd h3 h4) (PS hd h3 h5) (OP hd)
theorem akl {x0 x1 x2 x3 x4 x5:Int} (hd:Hd x0 x1) (Q:Bd x2) (h3:Bd x3) (h4:Bd x4) (h5:Bd x5):iV x0 x1 x2 x4 x2 x5 x3 x4 x3 x5 (Iv (E (1000000*bW x0 x1))) (d9 (E (1000000*bW x0 x1)))=eQ x2 x3 x4 x5 x0 x1:=JU (PS hd Q h4) (PS hd Q h5) (PS hd h3 h4) (PS hd h3 h5) (OP hd)
theorem hsz (hp:Hd x0 x1/\Bd x2/\Bd x3/\Bd x4/\Bd x5):bj em (Wi x0 x1 x2 x3 x4 x5) (.agg [D (eh x2 x3 x4 x5 x0 x1),D (eT x2 x3 x4 x5 x0 x1),D (ei x2 x3 x4 x5 x0 x1),D (eQ x2 x3 x4 x5 x0 x1)]):=by
 obtain⟨hd,Q,h3,h4,h5⟩:=hp;have hs:=OP hd;have hr:=rts hs;have hw:E (1000000*bW x0 x1)<=3999999999999999999:=by rw[C4 I I];omega
 unfold Qf at hr;rw[← DV hw,← qG hw]at hr;exact aG (AY (aG (AY (aG (AY (Cv hr (AY (Cv hr (AY (Br (by rw[ajL hd Q h3 h4 h5,aj3 hd Q h3 h4 h5,akc hd Q h3 h4 h5,akl hd Q h3 h4 h5])))))))))))
def VQ:aH:=cG [.agg cO,tI,tI,tI,tI] (λ
 |[.agg [.int _ x0,.int _ x1],.int _ x2,.int _ x3,.int _ x4,.int _ x5]=>Hd x0 x1/\Bd x2/\Bd x3/\Bd x4/\Bd x5|_=>False) λ
 |[.agg [.int _ x0,.int _ x1],.int _ x2,.int _ x3,.int _ x4,.int _ x5]=>.agg [D (eh x2 x3 x4 x5 x0 x1),D (eT x2 x3 x4 x5 x0 x1),D (ei x2 x3 x4 x5 x0 x1),D (eQ x2 x3 x4 x5 x0 x1)]|_=>.any
theorem aaB:dL VQ 66:=bH Me λ_ hp=>fb (hi' ..) (hsz _ _ _ _ _ _ hp)
end
noncomputable section
theorem GI {p:Nat->Int} {z:Int}:∀ k:Nat,1<=k->tq p z k=max z (tq p (p 0) k)
 |0,h=>absurd h aA|1,_=>by show max z (p 0)=max z (max (p 0) (p 0));rw[Int.max_self]
 |k+2,_=>by show max (tq p z (k+1)) (p (k+1))=max z (max (tq p (p 0) (k+1)) (p (k+1)));rw[GI (k+1) I,Int.max_assoc]
theorem tP {Z:Nat} {S:bl} {z:Int} (h:∀ i,i<Z->1<=aL (aI (S i))):oz Z S z=sK Z S z:=by
 unfold oz sK;have:∀ k,k<=Z->tq (λi=>AC S i) z k=SD S z k:=λk=>by
  induction k with
  |zero=>intro _;rfl
  |succ k ih=>intro hk;show max (tq (λi=>AC S i) z k) (AC S k)=tq (λj=>aE (b7 (aI (S k)) j)) (SD S z k) (aL (aI (S k)));rw[ih I,GI _ (h k I)];rfl
 exact this Z (Dm _)
def xJ (x:List V):Int:=sK (yx x) (A [.sl M] (pY x)) (cS x)
def Im (H:Nat) (G:bl) (x4:Int):Int:=bif !ci x4 (-1) (E ((H:Int)-1)) then 4 else bif decide (0<=x4) then(bif decide (10000<xJ (G x4.toNat)) then 7 else 0) else 0
def TH (x:List V):Bool:=decide (100000000000<E (max (xJ (G (aW x).toNat)) (bq ((G (aW x).toNat)))*cU x))
def uh (a b c d e g:Bool):Int:=bif !a then 4 else bif !!b then(bif !!c then(bif !d then 7 else bif e then(bif g then 7 else 0) else 0) else 7) else 7
def oy (G:bl) (q:Nat) (W X0 X7:bl) (i:Nat):Int:=uh (ci (aE ((X0 i))) (-1) (E ((q:Int)-1))) (ci (aE ((X7 i))) 0 200000) (ci (aW ((X7 i))) 0 600) (ci (bZ ((X7 i))) 0 1000) (decide (0<=aE ((X0 i)))) (TH G (W (aE ((X0 i))).toNat))
section
variable {a b c d e g:Bool}
include a b c d e g
theorem UO (h:a=false):uh a b c d e g=4:=by subst h;rfl
theorem ag4 (h:a=true) (Q:b=false):uh a b c d e g=7:=by subst h Q;rfl
theorem ag6 (h:a=true) (Q:b=true) (h3:c=false):uh a b c d e g=7:=by subst h Q h3;rfl
theorem adL (h:a=true) (Q:b=true) (h3:c=true) (h4:d=false):uh a b c d e g=7:=by subst h Q h3 h4;rfl
theorem agl (h:a=true) (Q:b=true) (h3:c=true) (h4:d=true) (h5:e=false):uh a b c d e g=0:=by subst h Q h3 h4 h5;rfl
theorem ahl (h:a=true) (Q:b=true) (h3:c=true) (h4:d=true) (h5:e=true) (h6:g=true):uh a b c d e g=7:=by subst h Q h3 h4 h5 h6;rfl
theorem ae4 (h:a=true) (Q:b=true) (h3:c=true) (h4:d=true) (h5:e=true) (h6:g=false):uh a b c d e g=0:=by subst h Q h3 h4 h5 h6;rfl
end
def Dk (R X2 XB:Nat):Bool:=bif(X2:Int)!=(R:Int) then true else(XB:Int)!=(R:Int)
def Ie:Int×Int×Int:=bif fw H (A au G) q (A ao W)!=0 then(1,0,fw H (A au G) q (A ao W)) else bif gq Z (A ap S) n7 (A AV f7) T (A ar U) R (A al O)!=0 then(2,0,gq Z (A ap S) n7 (A AV f7) T (A ar U) R (A al O)) else bif Im H G x4 !=0 then(3,0,Im H G x4) else bif Dk R X2 XB then(4,0,2) else Ac R (oy G q W X0 X7) 4 (0,0,0)
def yN:Int:=(Ie H G q W x4 Z S n7 f7 T U R O X2 X0 XB X7).1
def yO:Int:=(Ie H G q W x4 Z S n7 f7 T U R O X2 X0 XB X7).2.1
def nZ:Int:=(Ie H G q W x4 Z S n7 f7 T U R O X2 X0 XB X7).2.2
theorem Cm {R X2 XB:Nat} (h:Dk R X2 XB=false):X2=R/\XB=R:=by
 unfold Dk at h;cases N:((X2:Int)!=(R:Int)) with
 |true=>rw[N]at h;cases h
 |false=>rw[N]at h;have h:((XB:Int)!=(R:Int))=false:=h;have N:=Jh (by simpa using N:((X2:Int)==(R:Int))=true);have h:=Jh (by simpa using h:((XB:Int)==(R:Int))=true);omega
def Gf:bo:=(66,.con VQ)::LE
theorem II:aX Tryz.prog BD CJ Gf:=.con aaB (Me)
theorem nm {x:Int} (h:(x !=0)=false):x=0:=Jh (by simpa using h:(x==0)=true)
theorem ahL {x:Int} (h:x≠0):(x !=0)=true:=by simpa using h
theorem M9 {b:Bool} (h:(!b)=true):b=false:=by cases b<;>first|rfl|cases h
theorem yP {b:Bool} (h:(!!b)=true):b=true:=by cases b<;>first|rfl|cases h
theorem agL {b:Bool} (h:(!!b)=false):b=false:=by cases b<;>first|rfl|cases h
section
variable {Uc:Type} {Nx:Uc->V->Prop} {r:V} {b:Bool} {x At:RT Uc}
include Uc Nx r b x At
theorem Mr (h:b=true) (hx:bj Nx x r):bj Nx (.br b x At) r:=Ct (λ_=>hx) (λh'=>by rw[h]at h';cases h')
theorem OU (h:b=false) (hx:bj Nx At r):bj Nx (.br b x At) r:=Ct (λh'=>by rw[h]at h';cases h') (λ_=>hx)
end
theorem mw.of_el {G:bl} {i:Nat} (h:mw (A au G i)):mw (G i):=⟨h.u,h.v,h.n,h.row,h.side,h.sky,h.val⟩
theorem yd {x:List V} (h:mw x):∀i:Nat,i<aL (aI (L (L (L x))))->1<=aL (aI (b7 (aI (L (L (L x)))) i)):=λi hi=>by have N:=h.row i hi;have Q:=h.v.1;show 1<=aL (aI (pY x i));omega
theorem xX {x:List V} (h:mw x):∀i:Nat,i<yx x->1<=aL (aI (A [.sl M] (pY x) i)):=yd h
theorem SU {x4:Int} {H:Nat} (h:ci x4 (-1) (E ((H:Int)-1))=true) (Q:decide (0<=x4)=true) (hn:H<=9223372036854775807):decide (0<=x4/\x4<(H:Int))=true:=by have:=qR h;rw[C4 I I]at this;have:=HT Q;exact Cg I
inductive oR where|L0 (_:Int)
def hb0:oR->bV×List AX×Option Ex
 |.L0 X8=>([(82,D X8),(81,D (X2:Int)),(80,V.sl X2 (A M X0)),(1,V.pl 0 0)],[AX.cells [V.sl H (A au G),V.sl q (A ao W),D x4,V.sl Z (A ap S),V.sl n7 (A AV f7),V.sl T (A ar U),V.sl R (A al O),V.sl X2 (A M X0),V.sl XB (A cr X7)] 35],none)
def adc:oR->JJ
 |.L0 _=>(0,[])
def KT:Bj (cN JJ):=bu JJ Gf u0 aaP [V.agg [V.sl H (A au G),V.sl q (A ao W),D x4,V.sl Z (A ap S),V.sl n7 (A AV f7),V.sl T (A ar U),V.sl R (A al O),V.sl X2 (A M X0),V.sl XB (A cr X7)]]
def Be (cx:List Cx):Lp JJ:=lc (kd (KT H G q W x4 Z S n7 f7 T U R O X2 X0 XB X7) [false,false,false,true,false,false])
def ic0:JJ->Lp JJ
 |(0,cx)=>Be H G q W x4 Z S n7 f7 T U R O X2 X0 XB X7 cx|(_,cx)=>Be H G q W x4 Z S n7 f7 T U R O X2 X0 XB X7 cx
def aht:LD JJ oR:=⟨adc,ic0 H G q W x4 Z S n7 f7 T U R O X2 X0 XB X7,hb0 H G q W x4 Z S n7 f7 T U R O X2 X0 XB X7⟩
def vb (H:Nat) (G:bl) (q:Nat) (W:bl) (x4:Int) (Z:Nat) (S:bl) (n7:Nat) (f7:bl) (T:Nat) (U:bl) (R:Nat) (O:bl) (X2:Nat) (X0:bl) (XB:Nat) (X7:bl):oR->RT oR
 |.L0 X8=>.br (decide (X8<(X2:Int))) (.ob (dI X8 X2) (.ob (dI X8 XB) (.am q (.cb (.br (!dV (aE (X0 X8.toNat)) (-1) (E ((q:Int)-1))) (.ret (V.tup [D 4,D X8,D 4])) (.cb (.obi (.br (!!dV (aE (X7 X8.toNat)) 0 200000) (.ob (!!dV (aE (X7 X8.toNat)) 0 200000) (.cb (.obi (.br (!!dV (aW (X7 X8.toNat)) 0 600) (.ob (!!dV (aW (X7 X8.toNat)) 0 600) (.cb (.br (!dV (bZ (X7 X8.toNat)) 0 1000) (.ret (V.tup [D 4,D X8,D 7])) (.br (decide (aE (X0 X8.toNat)<0)) (.next J9 (oR.L0 (E (X8+1))) []) (.ob (dI (aE (X0 X8.toNat)) q) (.ob (dI (aW (W (aE (X0 X8.toNat)).toNat)) H) (.obp (∀(i:Nat),i<aL (aI (L (L (L (G (aW (W (aE (X0 X8.toNat)).toNat)).toNat)))))->(1:Nat)<=aL (aI (b7 (aI (L (L (L (G (aW (W (aE (X0 X8.toNat)).toNat)).toNat))))) i))) (.obt (.br (decide (100000000000<E (max (oz (aL (aI (L (L (L (G (aW (W (aE (X0 X8.toNat)).toNat)).toNat)))))) (λi=>aw [Ty.sl M] (b7 (aI (L (L (L (G (aW (W (aE (X0 X8.toNat)).toNat)).toNat))))) i)) (cS (G (aW (W (aE (X0 X8.toNat)).toNat)).toNat))) (bq (G (aW (W (aE (X0 X8.toNat)).toNat)).toNat))*cU (W (aE (X0 X8.toNat)).toNat)))) (.ret (V.tup [D 4,D X8,D 7])) (.next J9 (oR.L0 (E (X8+1))) [])))))))))) (.ret (V.tup [D 4,D X8,D 7])))))) (.ret (V.tup [D 4,D X8,D 7])))))))))) (.ret (V.tup P8))
def IV:RT oR:=dm (X0,X7) (.obp ((aT H G)/\aT q W) (.obt (.br (bN H (A au G) q (A ao W)!=0) (.ret (V.tup [D 1,D 0,D (bN H (A au G) q (A ao W))])) (.obp ((aT Z S)/\aT R O) (.obt (.br (iI Z (A ap S) n7 (A AV f7) T (A ar U) R (A al O)!=0) (.ret (V.tup [D 2,D 0,D (iI Z (A ap S) n7 (A AV f7) T (A ar U) R (A al O))])) (.am R (.am H (.cb (.br (!dV x4 (-1) (E ((H:Int)-1))) (.ret (V.tup [D 3,D 0,D 4])) (.iv (.obi (.obj (decide (0<=x4)) (dI x4 H) (.obi (.br (decide (0<=x4)) (.ob (decide (0<=x4)) (.obp (∀(i:Nat),i<aL (aI (L (L (L (G x4.toNat)))))->(1:Nat)<=aL (aI (b7 (aI (L (L (L (G x4.toNat))))) i))) (.obt (.br (decide (10000<oz (aL (aI (L (L (L (G x4.toNat)))))) (λi=>aw [Ty.sl M] (b7 (aI (L (L (L (G x4.toNat))))) i)) (cS (G x4.toNat)))) (.ret (V.tup [D 3,D 0,D 7])) (.am X2 (.ii (.asm ((!(X2:Int)!=(R:Int))=true->XB<=9223372036854775807) (.ii (.obi (.br (bif(X2:Int)!=(R:Int) then true else(XB:Int)!=(R:Int)) (.ret (V.tup [D 4,D 0,D 2])) (.am X2 (.enter J9 (oR.L0 0) [])))))))))))) (.am X2 (.ii (.asm ((!(X2:Int)!=(R:Int))=true->XB<=9223372036854775807) (.ii (.obi (.br (bif(X2:Int)!=(R:Int) then true else(XB:Int)!=(R:Int)) (.ret (V.tup [D 4,D 0,D 2])) (.am X2 (.enter J9 (oR.L0 0) [])))))))))))))))))))))))
theorem alq:gU Gf u0 (aht H G q W x4 Z S n7 f7 T U R O X2 X0 XB X7) (KT H G q W x4 Z S n7 f7 T U R O X2 X0 XB X7) (IV H G q W x4 Z S n7 f7 T U R O X2 X0 XB X7) (vb H G q W x4 Z S n7 f7 T U R O X2 X0 XB X7):=⟨cD,λs=>by cases s<;>exact cD⟩
theorem F6 (hn:R<=9223372036854775807) (hT:∀ i,i<H->mw (G i)) (hL:∀ i:Nat,i<q->0<=aW (W i)/\aW (W i)<H):Ev (vb H G q W x4 Z S n7 f7 T U R O R X0 R X7) (.L0 0) (SX (Ac R (oy G q W X0 X7) 4 (0,0,0))):=by
 refine yX (n:=R) hn (λi=>oy G q W X0 X7 i !=0) (P:=λi=>Ev (vb H G q W x4 Z S n7 f7 T U R O R X0 R X7) (.L0 i) _) (λi XD hj next=>Ev.of rfl (kO XD (il XD (il XD (ce λhn2=>aG (AY ?_)))))) (λhj=>Ev.of rfl (jW (Br (by rw[EB 4 _ hj];rfl))));have XQ:∀e,e≠0->oy G q W X0 X7 i=e->cP (V.tup [D 4,D i,D e])=cP (SX (Ac R (oy G q W X0 X7) 4 (0,0,0))):=λe he hc=>by rw[hrc 4 _ XD (by rw[hc];exact ahL he) hj,hc];rfl
 have XE:oy G q W X0 X7 i=0->(oy G q W X0 X7 i !=0)=false:=λh=>by rw[h];rfl
 refine Ct (λh0=>Br (XQ 4 aA (UO (M9 h0)))) (λh0=>aG (AY (CE (Ct (λN=>bf N (aG (AY (CE ?_)))) (λN=>Br (XQ 7 aA (ag4 (Hn h0) (agL N))))))));refine Ct (λQ=>bf Q (aG (AY ?_))) (λQ=>Br (XQ 7 aA (ag6 (Hn h0) (yP N) (agL Q))));refine Ct (λh3=>Br (XQ 7 aA (adL (Hn h0) (yP N) (yP Q) (M9 h3)))) (λh3=>?_);refine Ct (λh4=>b9 (next (XE (agl (Hn h0) (yP N) (yP Q) (Hn h3) (fB (λhh:0<=aE (X0 (i:Int).toNat)=>by have:=HT h4;omega)))))) (λh4=>?_);have h5:decide (0<=aE (X0 (i:Int).toNat))=true:=Cg (by have:=Hv h4;omega);have y:=SU (Hn h0) h5 hn2;have ch:=HT y;have ht:=hL (aE (X0 (i:Int).toNat)).toNat I;have hr:=hT (aW (W (aE (X0 (i:Int).toNat)).toNat)).toNat I;refine bf y (bf (Cg ht) (Cv (yd hr) (AY ?_)));have hb:∀b,decide (100000000000<E (max (oz (yx (G (aW (W (aE (X0 (i:Int).toNat)).toNat)).toNat)) (A [.sl M] (pY (G (aW (W (aE (X0 (i:Int).toNat)).toNat)).toNat))) (cS (G (aW (W (aE (X0 (i:Int).toNat)).toNat)).toNat))) (bq (G (aW (W (aE (X0 (i:Int).toNat)).toNat)).toNat))*cU (W (aE (X0 (i:Int).toNat)).toNat)))=b->TH G (W (aE (X0 i)).toNat)=b:=λb h=>by rw[tP (xX hr)]at h;exact h
 exact Ct (λh6=>Br (XQ 7 aA (ahl (Hn h0) (yP N) (yP Q) (Hn h3) h5 (hb true h6)))) (λh6=>b9 (next (XE (ae4 (Hn h0) (yP N) (yP Q) (Hn h3) h5 (hb false h6)))))
theorem ak3 (hp:aT H G/\aT q W/\aT Z S/\aT R O):bj (Ev (vb H G q W x4 Z S n7 f7 T U R O X2 X0 XB X7)) (IV H G q W x4 Z S n7 f7 T U R O X2 X0 XB X7) (.tup [D (yN H G q W x4 Z S n7 f7 T U R O X2 X0 XB X7),D (yO H G q W x4 Z S n7 f7 T U R O X2 X0 XB X7),D (nZ H G q W x4 Z S n7 f7 T U R O X2 X0 XB X7)]):=by
 obtain⟨p0,p2,p5,p11⟩:=hp;show bj _ _ (SX (Ie H G q W x4 Z S n7 f7 T U R O X2 X0 XB X7));unfold Ie;rw[← show bN H (A au G) q (A ao W)=fw H (A au G) q (A ao W) from congrArg (λt=>t.2.2) (lz ..),← zb];refine Cv ⟨p0,p2⟩ (AY (Ct (λh=>Br (by rw[h];rfl)) (λh=>?_)));rw[h];have V2:=yW (H:=H) (G:=A au G) (q:=q) (W:=A ao W) ((congrArg (λt=>t.2.2) (lz ..)).symm.trans (nm h));have hT:∀i,i<H->mw (G i):=λi hi=>mw.of_el (JI (V2.tb i hi));have hL:∀i:Nat,i<q->0<=aW (W i)/\aW (W i)<H:=λi hi=>(S9 V2.l0 (V2.lm i hi)).t;refine Cv ⟨p5,p11⟩ (AY (Ct (λh'=>Br (by rw[h'];rfl)) (λh'=>?_)));rw[h'];have V3:=s7 (H:=Z) (G:=A ap S) (q:=n7) (W:=A AV f7) (n4:=T) (f4:=A ar U) (n6:=R) (f6:=A al O) (zb.symm.trans (nm h'));refine H1 λ_=>?_;refine ce λa7=>aG (AY (Ct (λN=>?_) (λN=>?_)))
 ·have hk:Im H G x4=4:=by
   unfold Im;rw[show ci x4 (-1) (E ((H:Int)-1))=false from M9 N];rfl
  exact Br (by rw[hk];rfl)
 ·have N:ci x4 (-1) (E ((H:Int)-1))=true:=Hn N
  refine CE (CE (CE (CE (CE (jy (λQ=>?_) (CE (Ct (λQ=>?_) (λQ=>?_))))))))
  ·exact SU N Q a7
  ·have hx:=HT (SU N Q a7)
   refine bf Q (Cv (yd (hT _ I)) (AY (Ct (λh3=>?_) (λh3=>?_))))
   ·have hk:Im H G x4=7:=by
     unfold Im xJ;rw[N,Q,← tP (xX (hT x4.toNat I))];exact congrArg (λb=>bif b then(7:Int) else 0) h3
    exact Br (by rw[hk];rfl)
   have hk:Im H G x4=0:=by unfold Im xJ;rw[N,Q,← tP (xX (hT x4.toNat I))];exact congrArg (λb=>bif b then(7:Int) else 0) h3
   rw[hk];cases hl:Dk R X2 XB with
   |true=>exact H1 λ_=>CE (CE (H1 λ_=>CE (CE (CE (Mr hl (Br rfl))))))
   |false=>obtain⟨e1,e2⟩:=Cm hl;refine H1 λ_=>CE (CE (H1 λ_=>CE (CE (CE (OU hl (H1 λ_=>bm ?_))))));subst e1 e2;exact F6 _ _ _ _ _ _ _ _ _ _ _ _ _ _ _ (by have:=V3.l6;omega) hT hL
  ·have hk:Im H G x4=0:=by
    unfold Im;rw[N,Q];rfl
   rw[hk];cases hl:Dk R X2 XB with
   |true=>exact H1 λ_=>CE (CE (H1 λ_=>CE (CE (CE (Mr hl (Br rfl))))))
   |false=>obtain⟨e1,e2⟩:=Cm hl;refine H1 λ_=>CE (CE (H1 λ_=>CE (CE (CE (OU hl (H1 λ_=>bm ?_))))));subst e1 e2;exact F6 _ _ _ _ _ _ _ _ _ _ _ _ _ _ _ (by have:=V3.l6;omega) hT hL
theorem acI (hp:aT H (A au G)/\aT q (A ao W)/\aT Z (A ap S)/\aT R (A al O)):bj (Ev (vb H G q W x4 Z S n7 f7 T U R O X2 X0 XB X7)) (IV H G q W x4 Z S n7 f7 T U R O X2 X0 XB X7) (.tup [D (yN H (A au G) q (A ao W) x4 Z (A ap S) n7 (A AV f7) T (A ar U) R (A al O) X2 (A M X0) XB (A cr X7)),D (yO H (A au G) q (A ao W) x4 Z (A ap S) n7 (A AV f7) T (A ar U) R (A al O) X2 (A M X0) XB (A cr X7)),D (nZ H (A au G) q (A ao W) x4 Z (A ap S) n7 (A AV f7) T (A ar U) R (A al O) X2 (A M X0) XB (A cr X7))]):=ak3 H G q W x4 Z S n7 f7 T U R O X2 X0 XB X7 hp
def Wp:aH:=cG [.agg [.sl au,.sl ao,tI,.sl ap,.sl AV,.sl ar,.sl al,.sl M,.sl cr]] (λ
 |[.agg [.sl H G,.sl q W,.int _ x4,.sl Z S,.sl n7 f7,.sl T U,.sl R O,.sl X2 X0,.sl XB X7]]=>aT H G/\aT q W/\aT Z S/\aT R O|_=>False) λ
 |[.agg [.sl H G,.sl q W,.int _ x4,.sl Z S,.sl n7 f7,.sl T U,.sl R O,.sl X2 X0,.sl XB X7]]=>.tup [D (yN H G q W x4 Z S n7 f7 T U R O X2 X0 XB X7),D (yO H G q W x4 Z S n7 f7 T U R O X2 X0 XB X7),D (nZ H G q W x4 Z S n7 f7 T U R O X2 X0 XB X7)]|_=>.any
theorem KI:dL Wp 55:=bH II λ_ hp=>ra (alq ..) (acI _ _ _ _ _ _ _ _ _ _ _ _ _ _ _ _ _ hp)
def FZ:bo:=(55,.con Wp)::Gf
theorem C2:aX Tryz.prog BD CJ FZ:=.con KI (II)
def eF:Int:=nZ H (A au G) q (A ao W) x4 Z (A ap S) n7 (A AV f7) T (A ar U) R (A al O) X2 (A M X0) XB (A cr X7)
def Pb:RT Empty:=.obp ((aT H G)/\(aT q W)/\(aT Z S)/\aT R O) (.obt (.ret (D (nZ H (A au G) q (A ao W) x4 Z (A ap S) n7 (A AV f7) T (A ar U) R (A al O) X2 (A M X0) XB (A cr X7)))))
theorem f11:eJ eL (bu JJ FZ u0 Pi [V.agg [V.sl H (A au G),V.sl q (A ao W),D x4,V.sl Z (A ap S),V.sl n7 (A AV f7),V.sl T (A ar U),V.sl R (A al O),V.sl X2 (A M X0),V.sl XB (A cr X7)]]) (Pb H G q W x4 Z S n7 f7 T U R O X2 X0 XB X7):=cD
def evBr:Int:=nZ H (A au G) q (A ao W) x4 Z (A ap S) n7 (A AV f7) T (A ar U) R (A al O) X2 (A M X0) XB (A cr X7)
theorem aiq (hp:aT H G/\aT q W/\aT Z S/\aT R O):bj em (Pb H G q W x4 Z S n7 f7 T U R O X2 X0 XB X7) (D (eF H G q W x4 Z S n7 f7 T U R O X2 X0 XB X7)):=Cv hp (AY (Br rfl))
theorem aaH (hp:aT H (A au G)/\aT q (A ao W)/\aT Z (A ap S)/\aT R (A al O)):bj em (Pb H G q W x4 Z S n7 f7 T U R O X2 X0 XB X7) (D (eF H (A au G) q (A ao W) x4 Z (A ap S) n7 (A AV f7) T (A ar U) R (A al O) X2 (A M X0) XB (A cr X7))):=aiq H G q W x4 Z S n7 f7 T U R O X2 X0 XB X7 hp
def Vi:aH:=cG [.agg [.sl au,.sl ao,tI,.sl ap,.sl AV,.sl ar,.sl al,.sl M,.sl cr]] (λ
 |[.agg [.sl H G,.sl q W,.int _ x4,.sl Z S,.sl n7 f7,.sl T U,.sl R O,.sl X2 X0,.sl XB X7]]=>aT H G/\aT q W/\aT Z S/\aT R O|_=>False) λ
 |[.agg [.sl H G,.sl q W,.int _ x4,.sl Z S,.sl n7 f7,.sl T U,.sl R O,.sl X2 X0,.sl XB X7]]=>D (eF H G q W x4 Z S n7 f7 T U R O X2 X0 XB X7)|_=>.any
theorem adq:dL Vi 22:=bH C2 λ_ hp=>fb (f11 ..) (aaH _ _ _ _ _ _ _ _ _ _ _ _ _ _ _ _ _ hp)
def UY:RT Empty:=.cb (.iv (.iv (.ii (.ret (V.bool (bif bif qP 4 (A M (bE [D x0,D x2,D x1,D x3] 0 1)) then decide (x0<=x2) else false then decide (x1<=x3) else false))))))
theorem hal:eJ eL (bu JJ FZ u0 LA [V.agg [D x0,D x1,D x2,D x3]]) (UY x0 x1 x2 x3):=cD
def gb:Bool:=bif bif qP 4 (A M (bE [D x0,D x2,D x1,D x3] 0 1)) then decide (x0<=x2) else false then decide (x1<=x3) else false
def MY:V:=.bool (gb x0 x1 x2 x3)
theorem its:bj em (UY x0 x1 x2 x3) (MY x0 x1 x2 x3):=aG (AY (CE (CE (CE (CE (CE (CE (CE (CE (CE (CE (Br (by unfold MY gb;rfl)))))))))))))
def Ue:aH:=cG [.agg lS] (λ_=>True) λ|[.agg [.int _ x0,.int _ x1,.int _ x2,.int _ x3]]=>MY x0 x1 x2 x3|_=>.any
theorem ac4:dL Ue 23:=bH C2 λ_ hp=>fb (hal ..) (its _ _ _ _)
def IE:bo:=(22,.con Vi)::(23,.con Ue)::FZ
theorem Kw:aX Tryz.prog BD CJ IE:=.con adq (.con ac4 (C2))
def dU:Int:=eh (E (x6-x1)) (E (x8-x1)) (E (x7-x2)) (E (x9-x2)) x4 x5
def dY:Int:=eT (E (x6-x1)) (E (x8-x1)) (E (x7-x2)) (E (x9-x2)) x4 x5
def dZ:Int:=ei (E (x6-x1)) (E (x8-x1)) (E (x7-x2)) (E (x9-x2)) x4 x5
def d0:Int:=eQ (E (x6-x1)) (E (x8-x1)) (E (x7-x2)) (E (x9-x2)) x4 x5
def UD:RT Empty:=dm (s0,x3) (.obp ((((-1000:Int)<=x4/\x4<=(1000:Int))/\((-1000:Int)<=x5/\x5<=(1000:Int))/\(x4≠(0:Int)∨x5≠(0:Int)))/\((-1000000000:Int)<=E (x6-x1)/\E (x6-x1)<=(1000000000:Int))/\((-1000000000:Int)<=E (x8-x1)/\E (x8-x1)<=(1000000000:Int))/\((-1000000000:Int)<=E (x7-x2)/\E (x7-x2)<=(1000000000:Int))/\(-1000000000:Int)<=E (x9-x2)/\E (x9-x2)<=(1000000000:Int)) (.obt (.ret (V.agg [D (eh (E (x6-x1)) (E (x8-x1)) (E (x7-x2)) (E (x9-x2)) x4 x5),D (eT (E (x6-x1)) (E (x8-x1)) (E (x7-x2)) (E (x9-x2)) x4 x5),D (ei (E (x6-x1)) (E (x8-x1)) (E (x7-x2)) (E (x9-x2)) x4 x5),D (eQ (E (x6-x1)) (E (x8-x1)) (E (x7-x2)) (E (x9-x2)) x4 x5)]))))
theorem alk:eJ eL (bu JJ IE u0 zU [V.agg [V.str s0,D x1,D x2,D x3,D x4,D x5],V.agg [D x6,D x7,D x8,D x9]]) (UD s0 x1 x2 x3 x4 x5 x6 x7 x8 x9):=cD
def ff11:Int:=eh (E (x6-x1)) (E (x8-x1)) (E (x7-x2)) (E (x9-x2)) x4 x5
def bs57:Int:=eT (E (x6-x1)) (E (x8-x1)) (E (x7-x2)) (E (x9-x2)) x4 x5
def fh11:Int:=ei (E (x6-x1)) (E (x8-x1)) (E (x7-x2)) (E (x9-x2)) x4 x5
def hsl0:Int:=eQ (E (x6-x1)) (E (x8-x1)) (E (x7-x2)) (E (x9-x2)) x4 x5
def gH (x:Int):Prop:=-400000000<=x/\x<=400000000
theorem S2 {a b:Int} (h:gH a) (h':gH b):Bd (E (a-b)):=by
 unfold gH at *
 unfold Bd;rw[C4 I I];omega
theorem hu' (hp:Hd x4 x5/\gH x1/\gH x2/\gH x6/\gH x7/\gH x8/\gH x9):bj em (UD s0 x1 x2 x3 x4 x5 x6 x7 x8 x9) (.agg [D (dU x1 x2 x4 x5 x6 x7 x8 x9),D (dY x1 x2 x4 x5 x6 x7 x8 x9),D (dZ x1 x2 x4 x5 x6 x7 x8 x9),D (d0 x1 x2 x4 x5 x6 x7 x8 x9)]):=by obtain⟨hd,N,Q,h6,h7,h8,h9⟩:=hp;exact Cv ⟨hd,S2 h6 N,S2 h8 N,S2 h7 Q,S2 h9 Q⟩ (AY (Br rfl))
def VR:aH:=cG [.agg al,.agg lS] (λ
 |[.agg [.str s0,.int _ x1,.int _ x2,.int _ x3,.int _ x4,.int _ x5],.agg [.int _ x6,.int _ x7,.int _ x8,.int _ x9]]=>Hd x4 x5/\gH x1/\gH x2/\gH x6/\gH x7/\gH x8/\gH x9|_=>False) λ
 |[.agg [.str s0,.int _ x1,.int _ x2,.int _ x3,.int _ x4,.int _ x5],.agg [.int _ x6,.int _ x7,.int _ x8,.int _ x9]]=>.agg [D (dU x1 x2 x4 x5 x6 x7 x8 x9),D (dY x1 x2 x4 x5 x6 x7 x8 x9),D (dZ x1 x2 x4 x5 x6 x7 x8 x9),D (d0 x1 x2 x4 x5 x6 x7 x8 x9)]|_=>.any
theorem ie8:dL VR 44:=bH Kw λ_ hp=>fb (alk ..) (hu' _ _ _ _ _ _ _ _ _ _ hp)
theorem aeM (a b c d:Int):gb a b c d=(ci a (-100000) 100000&&(ci c (-100000) 100000&&(ci b (-100000) 100000&&(ci d (-100000) 100000&&(decide (a<=c)&&decide (b<=d)))))):=by
 have h:qP 4 (A M (bE [D a,D c,D b,D d] 0 1))=(ci a (-100000) 100000&&(ci c (-100000) 100000&&(ci b (-100000) 100000&&ci d (-100000) 100000))):=by
  show(!(decide (0<=idx 4 λii=>lV (aE (A M (A M (bE [D a,D c,D b,D d] 0 1)) ii)))))=_;rw[mi];show(!(!(HC 4 λii=>!lV (aE (A M (A M (bE [D a,D c,D b,D d] 0 1)) ii)))))=_;rw[NR,Q8,rG];simp only[DD];have X1:∀x,(!lV x)=ci x (-100000) 100000:=λx=>NR _;constructor
  ·intro X9;exact⟨(X1 a).symm.trans (X9 0 aA),(X1 c).symm.trans (X9 1 aA),(X1 b).symm.trans (X9 2 aA),(X1 d).symm.trans (X9 3 aA)⟩
  ·rintro⟨h0,N,Q,h3⟩ i hi
   match i,hi with
   |0,_=>exact(X1 a).trans h0|1,_=>exact(X1 c).trans N|2,_=>exact(X1 b).trans Q|3,_=>exact(X1 d).trans h3
 unfold gb;rw[h];cases ci a (-100000) 100000<;>cases ci c (-100000) 100000<;>cases ci b (-100000) 100000<;>cases ci d (-100000) 100000<;>cases decide (a<=c)<;>cases decide (b<=d)<;>rfl
def aha (e a b c d:Int):Int:=bif e==0 then bif gb a b c d then 0 else 7 else e
theorem Cj {x k:Int} {z:Int×Int×Int} (h:(bif x != 0 then(k,(0:Int),x) else z).2.2=0):x=0/\z.2.2=0:=by
 cases hb:x !=0 with
 |true=>rw[hb]at h;rw[show x=0 from h]at hb;cases hb|false=>rw[hb]at h;exact⟨nm hb,h⟩
structure Zy (x:List V):Prop where
 px:-100000<=aW x/\aW x<=100000
 py:-100000<=bZ x/\bZ x<=100000
 ph:1<=cU x/\cU x<=200
 hd:Hd (cS x) (bq x)
theorem J5 {v a b:Int} (h:jZ v a b=true):a<=v/\v<=b:=by
 unfold jZ at h;cases N:decide (a<=v) with
 |false=>rw[N]at h;cases h|true=>rw[N]at h;exact⟨HT N,HT h⟩
theorem PN {a b:Bool} (h:(bif a then true else b)=false):a=false/\b=false:=by cases a<;>cases b<;>first|exact⟨rfl,rfl⟩|cases h
theorem akx {n:Nat} {f:bl} {i:Nat} (h:cC n (A al f) i=0):Zy (f i):=by
 unfold cC RO at h;obtain⟨_,h⟩:=hZ h aA;obtain⟨_,h⟩:=hZ h aA;unfold Rn at h;obtain⟨N,h⟩:=hZ h aA;obtain⟨Q,_⟩:=hZ h aA;obtain⟨N,hdy⟩:=PN N;obtain⟨N,hdx⟩:=PN N;obtain⟨N,hh⟩:=PN N;have N:=Hn N;unfold WG at N;have hx:jZ (aW (f i)) (-100000) 100000=true:=dh N 0 aA;have hy:jZ (bZ (f i)) (-100000) 100000=true:=dh N 1 aA;refine⟨J5 hx,J5 hy,J5 (Hn hh),J5 (Hn hdx),J5 (Hn hdy),?_⟩;have Q:(bif cS ((f i))==0 then bq ((f i))==0 else false)=false:=Q;cases hb:(cS ((f i))==0) with
 |false=>exact .inl λh=>by rw[h]at hb;cases hb
 |true=>rw[hb]at Q;exact .inr λh=>by have Q:(bq ((f i))==0)=false:=Q;rw[h]at Q;cases Q
structure I9 (H:Nat) (G:bl) (q:Nat) (W:bl) (x4:Int) (Z:Nat) (S:bl) (n7:Nat) (f7:bl) (T:Nat) (U:bl) (R:Nat) (O:bl) (X2:Nat) (X0:bl) (XB:Nat) (X7:bl):Prop where
 v2:zH H G q W
 v3:WQ Z (A ap S) n7 (A AV f7) T (A ar U) R (A al O)
 sf:Im H G x4=0
 ll:X2=R
 lu:XB=R
 tb:∀i,i<H->mw (G i)
 lm:∀i,i<q->MV H (W i)
 cl:∀i,i<R->Zy (O i)
 co:∀i,i<R->oy G q W X0 X7 i=0
theorem uz {H:Nat} {G:bl} {q:Nat} {W:bl} {x4:Int} {Z:Nat} {S:bl} {n7:Nat} {f7:bl} {T:Nat} {U:bl} {R:Nat} {O:bl} {X2:Nat} {X0:bl} {XB:Nat} {X7:bl} (h:eF H G q W x4 Z S n7 f7 T U R O X2 X0 XB X7=0):I9 H G q W x4 Z S n7 f7 T U R O X2 X0 XB X7:=by
 have h:(Ie H G q W x4 Z S n7 f7 T U R O X2 X0 XB X7).2.2=0:=h;unfold Ie at h;obtain⟨N,h⟩:=Cj h;obtain⟨Q,h⟩:=Cj h;obtain⟨h3,h⟩:=Cj h;have N:fw H G q W=0:=N;have V2:=yW N;have V3:=s7 Q;cases hl:Dk R X2 XB with
 |true=>rw[hl]at h;cases h
 |false=>rw[hl]at h;obtain⟨e1,e2⟩:=Cm hl;exact⟨V2,V3,h3,e1,e2,λi hi=>JI (V2.tb i hi),λi hi=>S9 V2.l0 (V2.lm i hi),λi hi=>akx (n:=R) (V3.cl i hi),(jU h).1⟩
def NZ:bo:=(44,.con VR)::IE
theorem Kz:aX Tryz.prog BD CJ NZ:=.con ie8 (Kw)
abbrev KY:=[D 0,D 0,D 0,D 0]
def Ou:RT Empty:=.obp ((aT H G)/\(aT q W)/\(aT Z S)/\aT R O) (.obt (.br (eF H (A au G) q (A ao W) x4 Z (A ap S) n7 (A AV f7) T (A ar U) R (A al O) X2 (A M X0) XB (A cr X7)!=0) (.ret (V.tup [V.agg KY,D (eF H (A au G) q (A ao W) x4 Z (A ap S) n7 (A AV f7) T (A ar U) R (A al O) X2 (A M X0) XB (A cr X7))])) (.am R (.cb (.br (!dV Ud 0 (E ((R:Int)-1))) (.ret (V.tup [V.agg KY,D 4])) (.cb (.br (!gb XK XL XM XN) (.ret (V.tup [V.agg KY,D 7])) (.ob (dI Ud R) (.obp ((((-1000:Int)<=cS (O Ud.toNat)/\cS (O Ud.toNat)<=(1000:Int))/\((-1000:Int)<=bq (O Ud.toNat)/\bq (O Ud.toNat)<=(1000:Int))/\(cS (O Ud.toNat)≠(0:Int)∨bq (O Ud.toNat)≠(0:Int)))/\((-400000000:Int)<=aW (O Ud.toNat)/\aW (O Ud.toNat)<=(400000000:Int))/\((-400000000:Int)<=bZ (O Ud.toNat)/\bZ (O Ud.toNat)<=(400000000:Int))/\((-400000000:Int)<=XK/\XK<=(400000000:Int))/\((-400000000:Int)<=XL/\XL<=(400000000:Int))/\((-400000000:Int)<=XM/\XM<=(400000000:Int))/\(-400000000:Int)<=XN/\XN<=(400000000:Int)) (.obt (.ret (V.tup [V.agg [D (dU (aW (O Ud.toNat)) (bZ (O Ud.toNat)) (cS (O Ud.toNat)) (bq (O Ud.toNat)) XK XL XM XN),D (dY (aW (O Ud.toNat)) (bZ (O Ud.toNat)) (cS (O Ud.toNat)) (bq (O Ud.toNat)) XK XL XM XN),D (dZ (aW (O Ud.toNat)) (bZ (O Ud.toNat)) (cS (O Ud.toNat)) (bq (O Ud.toNat)) XK XL XM XN),D (d0 (aW (O Ud.toNat)) (bZ (O Ud.toNat)) (cS (O Ud.toNat)) (bq (O Ud.toNat)) XK XL XM XN)],D 0]))))))))))))
theorem hs1:eJ eL (bu JJ NZ u0 abL [V.agg [V.sl H (A au G),V.sl q (A ao W),D x4,V.sl Z (A ap S),V.sl n7 (A AV f7),V.sl T (A ar U),V.sl R (A al O),V.sl X2 (A M X0),V.sl XB (A cr X7)],D Ud,V.agg [D XK,D XL,D XM,D XN]]) (Ou H G q W x4 Z S n7 f7 T U R O X2 X0 XB X7 Ud XK XL XM XN):=cD
def hfn0:Int:=bif eF H (A au G) q (A ao W) x4 Z (A ap S) n7 (A AV f7) T (A ar U) R (A al O) X2 (A M X0) XB (A cr X7)!=0 then 0 else bif !dV Ud 0 (E ((R:Int)-1)) then 0 else bif !gb XK XL XM XN then 0 else dU (aW (O Ud.toNat)) (bZ (O Ud.toNat)) (cS (O Ud.toNat)) (bq (O Ud.toNat)) XK XL XM XN
def hle0:Int:=bif eF H (A au G) q (A ao W) x4 Z (A ap S) n7 (A AV f7) T (A ar U) R (A al O) X2 (A M X0) XB (A cr X7)!=0 then 0 else bif !dV Ud 0 (E ((R:Int)-1)) then 0 else bif !gb XK XL XM XN then 0 else dY (aW (O Ud.toNat)) (bZ (O Ud.toNat)) (cS (O Ud.toNat)) (bq (O Ud.toNat)) XK XL XM XN
def hnc0:Int:=bif eF H (A au G) q (A ao W) x4 Z (A ap S) n7 (A AV f7) T (A ar U) R (A al O) X2 (A M X0) XB (A cr X7)!=0 then 0 else bif !dV Ud 0 (E ((R:Int)-1)) then 0 else bif !gb XK XL XM XN then 0 else dZ (aW (O Ud.toNat)) (bZ (O Ud.toNat)) (cS (O Ud.toNat)) (bq (O Ud.toNat)) XK XL XM XN
def fg11:Int:=bif eF H (A au G) q (A ao W) x4 Z (A ap S) n7 (A AV f7) T (A ar U) R (A al O) X2 (A M X0) XB (A cr X7)!=0 then 0 else bif !dV Ud 0 (E ((R:Int)-1)) then 0 else bif !gb XK XL XM XN then 0 else d0 (aW (O Ud.toNat)) (bZ (O Ud.toNat)) (cS (O Ud.toNat)) (bq (O Ud.toNat)) XK XL XM XN
def hlt1:Int:=bif eF H (A au G) q (A ao W) x4 Z (A ap S) n7 (A AV f7) T (A ar U) R (A al O) X2 (A M X0) XB (A cr X7)!=0 then eF H (A au G) q (A ao W) x4 Z (A ap S) n7 (A AV f7) T (A ar U) R (A al O) X2 (A M X0) XB (A cr X7) else bif !dV Ud 0 (E ((R:Int)-1)) then 4 else bif !gb XK XL XM XN then 7 else 0
def kY (e:Int) (n:Nat) (x a b c d:Int):Int:=bif e==0 then bif ci x 0 (E ((n:Int)-1)) then bif gb a b c d then 0 else 7 else 4 else e
def jl (e z:Int):Int:=bif e==0 then z else 0
theorem ajo {v:Int} {n:Nat} (h:ci v 0 (E ((n:Int)-1))=true) (hn:n<=9223372036854775807):0<=v/\v<(n:Int):=by have:=qR h;rw[C4 I I]at this;omega
theorem akQ {a b c d:Int} (h:gb a b c d=true):gH a/\gH b/\gH c/\gH d:=by rw[aeM]at h;obtain⟨N,h⟩:=pQ h;obtain⟨Q,h⟩:=pQ h;obtain⟨h3,h⟩:=pQ h;obtain⟨h4,_⟩:=pQ h;have N:=qR (x:=a) N;have Q:=qR (x:=c) Q;have h3:=qR (x:=b) h3;have h4:=qR (x:=d) h4;unfold gH;omega
theorem ic10 {dx dy:Int} (h:Hd dx dy):Qf (E (E (dx*dx)+E (dy*dy))):=rts (OP h)
theorem aaA {e z0 z1 z2 z3:Int} (h:(e==0)=false):cP (V.tup [V.agg [D 0,D 0,D 0,D 0],D e])=cP (V.tup [V.agg [D (bif e==0 then z0 else 0),D (bif e==0 then z1 else 0),D (bif e==0 then z2 else 0),D (bif e==0 then z3 else 0)],D e]):=by rw[h];rfl
theorem aiy (hp:aT H G/\aT q W/\aT Z S/\aT R O):bj em (Ou H G q W x4 Z S n7 f7 T U R O X2 X0 XB X7 Ud XK XL XM XN) (.tup [.agg [D (jl (kY (eF H G q W x4 Z S n7 f7 T U R O X2 X0 XB X7) R Ud XK XL XM XN) (dU (aW ((O Ud.toNat))) (bZ ((O Ud.toNat))) (cS ((O Ud.toNat))) (bq ((O Ud.toNat))) XK XL XM XN)),D (jl (kY (eF H G q W x4 Z S n7 f7 T U R O X2 X0 XB X7) R Ud XK XL XM XN) (dY (aW ((O Ud.toNat))) (bZ ((O Ud.toNat))) (cS ((O Ud.toNat))) (bq ((O Ud.toNat))) XK XL XM XN)),D (jl (kY (eF H G q W x4 Z S n7 f7 T U R O X2 X0 XB X7) R Ud XK XL XM XN) (dZ (aW ((O Ud.toNat))) (bZ ((O Ud.toNat))) (cS ((O Ud.toNat))) (bq ((O Ud.toNat))) XK XL XM XN)),D (jl (kY (eF H G q W x4 Z S n7 f7 T U R O X2 X0 XB X7) R Ud XK XL XM XN) (d0 (aW ((O Ud.toNat))) (bZ ((O Ud.toNat))) (cS ((O Ud.toNat))) (bq ((O Ud.toNat))) XK XL XM XN))],D (kY (eF H G q W x4 Z S n7 f7 T U R O X2 X0 XB X7) R Ud XK XL XM XN)]):=by
 refine Cv hp (AY (Ct (λh=>Br ?_) (λh=>?_)))
 ·have h:(eF H G q W x4 Z S n7 f7 T U R O X2 X0 XB X7 != 0)=true:=h
  have h':(eF H G q W x4 Z S n7 f7 T U R O X2 X0 XB X7==0)=false:=by simpa using h
  unfold jl kY;rw[h'];exact aaA h'
 have h:eF H G q W x4 Z S n7 f7 T U R O X2 X0 XB X7=0:=nm h;have Ya:=uz h;refine ce λhn=>aG (AY (Ct (λN=>Br ?_) (λN=>aG (AY (Ct (λQ=>Br ?_) (λQ=>?_))))))
 ·unfold jl kY;rw[h,show ci Ud 0 (E ((R:Int)-1))=false from M9 N];rfl
 ·unfold jl kY;rw[h,show ci Ud 0 (E ((R:Int)-1))=true from Hn N,M9 Q];rfl
 ·have hx:=ajo (Hn N) hn
  have C:=Ya.cl Ud.toNat I;have P:=akQ (Hn Q);refine bf (Cg hx) (Cv ⟨C.hd,?_,?_,P⟩ (AY (Br ?_)))
  ·have:=C.px;exact⟨I,I⟩
  ·have:=C.py;exact⟨I,I⟩
  ·unfold jl kY;rw[h,show ci Ud 0 (E ((R:Int)-1))=true from Hn N,Hn Q];rfl
theorem aad (hp:aT H (A au G)/\aT q (A ao W)/\aT Z (A ap S)/\aT R (A al O)):bj em (Ou H G q W x4 Z S n7 f7 T U R O X2 X0 XB X7 Ud XK XL XM XN) (.tup [.agg [D (jl (kY (eF H (A au G) q (A ao W) x4 Z (A ap S) n7 (A AV f7) T (A ar U) R (A al O) X2 (A M X0) XB (A cr X7)) R Ud XK XL XM XN) (dU (aW (((A al O) Ud.toNat))) (bZ (((A al O) Ud.toNat))) (cS (((A al O) Ud.toNat))) (bq (((A al O) Ud.toNat))) XK XL XM XN)),D (jl (kY (eF H (A au G) q (A ao W) x4 Z (A ap S) n7 (A AV f7) T (A ar U) R (A al O) X2 (A M X0) XB (A cr X7)) R Ud XK XL XM XN) (dY (aW (((A al O) Ud.toNat))) (bZ (((A al O) Ud.toNat))) (cS (((A al O) Ud.toNat))) (bq (((A al O) Ud.toNat))) XK XL XM XN)),D (jl (kY (eF H (A au G) q (A ao W) x4 Z (A ap S) n7 (A AV f7) T (A ar U) R (A al O) X2 (A M X0) XB (A cr X7)) R Ud XK XL XM XN) (dZ (aW (((A al O) Ud.toNat))) (bZ (((A al O) Ud.toNat))) (cS (((A al O) Ud.toNat))) (bq (((A al O) Ud.toNat))) XK XL XM XN)),D (jl (kY (eF H (A au G) q (A ao W) x4 Z (A ap S) n7 (A AV f7) T (A ar U) R (A al O) X2 (A M X0) XB (A cr X7)) R Ud XK XL XM XN) (d0 (aW (((A al O) Ud.toNat))) (bZ (((A al O) Ud.toNat))) (cS (((A al O) Ud.toNat))) (bq (((A al O) Ud.toNat))) XK XL XM XN))],D (kY (eF H (A au G) q (A ao W) x4 Z (A ap S) n7 (A AV f7) T (A ar U) R (A al O) X2 (A M X0) XB (A cr X7)) R Ud XK XL XM XN)]):=aiy H G q W x4 Z S n7 f7 T U R O X2 X0 XB X7 Ud XK XL XM XN hp
def Xj:aH:=cG [.agg [.sl au,.sl ao,tI,.sl ap,.sl AV,.sl ar,.sl al,.sl M,.sl cr],tI,.agg lS] (λ
 |[.agg [.sl H G,.sl q W,.int _ x4,.sl Z S,.sl n7 f7,.sl T U,.sl R O,.sl X2 X0,.sl XB X7],.int _ Ud,.agg [.int _ XK,.int _ XL,.int _ XM,.int _ XN]]=>aT H G/\aT q W/\aT Z S/\aT R O|_=>False) λ
 |[.agg [.sl H G,.sl q W,.int _ x4,.sl Z S,.sl n7 f7,.sl T U,.sl R O,.sl X2 X0,.sl XB X7],.int _ Ud,.agg [.int _ XK,.int _ XL,.int _ XM,.int _ XN]]=>.tup [.agg [D (jl (kY (eF H G q W x4 Z S n7 f7 T U R O X2 X0 XB X7) R Ud XK XL XM XN) (dU (aW ((O Ud.toNat))) (bZ ((O Ud.toNat))) (cS ((O Ud.toNat))) (bq ((O Ud.toNat))) XK XL XM XN)),D (jl (kY (eF H G q W x4 Z S n7 f7 T U R O X2 X0 XB X7) R Ud XK XL XM XN) (dY (aW ((O Ud.toNat))) (bZ ((O Ud.toNat))) (cS ((O Ud.toNat))) (bq ((O Ud.toNat))) XK XL XM XN)),D (jl (kY (eF H G q W x4 Z S n7 f7 T U R O X2 X0 XB X7) R Ud XK XL XM XN) (dZ (aW ((O Ud.toNat))) (bZ ((O Ud.toNat))) (cS ((O Ud.toNat))) (bq ((O Ud.toNat))) XK XL XM XN)),D (jl (kY (eF H G q W x4 Z S n7 f7 T U R O X2 X0 XB X7) R Ud XK XL XM XN) (d0 (aW ((O Ud.toNat))) (bZ ((O Ud.toNat))) (cS ((O Ud.toNat))) (bq ((O Ud.toNat))) XK XL XM XN))],D (kY (eF H G q W x4 Z S n7 f7 T U R O X2 X0 XB X7) R Ud XK XL XM XN)]|_=>.any
theorem adm:dL Xj 18:=bH Kz λ_ hp=>fb (hs1 ..) (aad _ _ _ _ _ _ _ _ _ _ _ _ _ _ _ _ _ _ _ _ _ _ hp)
end
end Go.Dx
namespace Go.Dx
open Go.Sx
section
variable {J:Type}
def Jz:V->cN J->cN J
 |.bool b,.res (.kb _)=>.res (.kb b)|r,_=>.res r
theorem alf (r:V) (a:cN J):pS r (Jz r a):=by unfold Jz;split<;>rfl
def pi (r:V):Bj (cN J)->Bj (cN J)
 |.ret a=>.ret (Jz r a)
 |.br b x At=>match b with|true=>.br true (pi r x) At|false=>.br false x (pi r At)
 |.ob _ x=>.ob true (pi r x)
 |.obi c d x=>match c with|true=>.obi true true (pi r x)|false=>.obi false d (pi r x)
 |.obp _ x=>.obp True (pi r x)|.obq a _ x=>.obq a a (pi r x)|.fail _=>.ret (.res r)|.loop ..=>.ret (.res r)|.all f=>.all λl=>pi r (f l)
 |.und x At=>.und (pi r x) (pi r At)|.asm p x=>.asm p (pi r x)
theorem akm {LP:eZ} (r:V):∀ t:Bj (cN J),bM LP (pi r t) (pS r):=by
 intro t;induction t with
 |ret a=>exact alf r a
 |br b x At hx hy=>
   cases b with
   |true=>exact⟨λ_=>hx,(λe=>by cases e)⟩|false=>exact⟨(λe=>by cases e),λ_=>hy⟩
 |ob b x hx=>exact⟨rfl,hx⟩
 |obi c d x hx=>
   cases c with
   |true=>exact⟨λ_=>rfl,hx⟩|false=>exact⟨(λe=>by cases e),hx⟩
 |obp p x hx=>exact⟨trivial,hx⟩|obq a b x hx=>exact⟨rfl,hx⟩|fail n=>exact(rfl:cP r=cP r)|loop fr b e h g k hk=>exact(rfl:cP r=cP r)|all f hf=>exact λl=>hf l
 |und x At hx hy=>exact⟨hx,hy⟩|asm p x hx=>exact λ_=>hx
theorem B5 {ct:bo} {un:kZ} {w0:World} {sf:aU} {ds:List V} {r:V} (h:pi r (bu J ct un sf ds)=bu J ct un sf ds):bM (dq w0 (SV ct)) (bu J ct un sf ds) (pS r):=by rw[← h];exact akm r _
end
def Kt (ts:List Ty) (pre:List V->Bool) (r:List V->V):aH:=λds=>cond (pre (ka ts ds)) (some ((lf ts ds [],ln ts ds []),True,r (ka ts ds))) none
theorem mB {P:Program} {f:FuncId} {ts:List Ty} {pre:List V->Prop} {preB:List V->Bool} {r:List V->V} (h:∀ ds,preB ds=true->pre ds) (hO:(vP (cG ts pre r)).Ok P f):(vP (Kt ts preB r)).Ok P f:=by
 refine⟨λB m lh w args vs K hrel hargs YR=>?_,λ_ _ _ _ _ hk ⟨ds,d,p,r,N,Q,h3,h4,h5⟩=>⟨ds,d,p,r,N,Q,h3,h4,hk _ _ h5⟩,λ_ _ _ _ ⟨_,_,_,_,_,_,_,_,h⟩=>h⟩;refine hO.sound B m lh w args vs K hrel hargs ?_
 let ⟨ds,d,p,r',N,Q,⟨Yq,h3⟩,h4,h5⟩:=YR
 unfold Kt at Q;cases hb:preB (ka ts ds) with
 |false=>rw[hb]at Q;cases Q
 |true=>
   rw[hb]at Q;simp only[cond_true,H2,Prod.mk.injEq]at Q
   let ⟨rfl,rfl,rfl⟩:=Q
   exact⟨ds,_,_,_,N,rfl,⟨Yq,h _ hb⟩,h4,h5⟩
def HF (p:V->V->Bool):List V->List V->Bool
 |[],[]=>true|v::vs,x::xs=>p v x&&HF p vs xs|_,_=>false
def Nn:Nat->V->V->Bool
 |0,_,_=>false
 |fu+1,v,x=>match v,x with
   |.int k a,.int k' b=>decide (k=k')&&decide (a=b)|.bool a,.bool b=>a==b|.kb a,.bool b=>a==b|.str a,.str b=>decide (a.data.toList=b.data.toList)|.agg xs,.agg ys=>HF (Nn fu) xs ys|.sl n f,.sl m g=>Nat.beq n m&&HC n λi=>HF (Nn fu) (f i) (g i)&&(g i).all V.fc
   |.sq n _ f,.sl m g=>Nat.beq n m&&HC n λi=>HF (Nn fu) (f i) (g i)&&(g i).all V.fc
   |.pd xs,.pd ys=>Nat.beq (bU xs) (bU ys)&&(HF (Nn fu) xs ys&&ys.all V.fc)|.fn f xs ys,.fn g us ws=>Nat.beq f g&&(HF (Nn fu) xs us&&HF (Nn fu) ys ws)|_,_=>false
theorem nu {w0:World} {lh:List av} {p:V->V->Bool} (hp:∀ v x a,p v x=true->vr w0 lh Nu.nil v a->vr w0 lh Nu.nil x a):∀ (vs xs:List V) (qs:List ah),HF p vs xs=true->bp w0 lh Nu.nil vs qs->bp w0 lh Nu.nil xs qs
 |[],[],qs,_,h=>h
 |v::vs,x::xs,qs,h,N=>by simp[HF,DD]at h;simp[bp]at N ⊢;obtain⟨At,ys,rfl,Q,h3⟩:=N;exact⟨At,ys,rfl,hp _ _ _ h.1 Q,nu hp vs xs ys h.2 h3⟩
 |[],_::_,_,h,_=>by simp[HF]at h
 |_::_,[],_,h,_=>by simp[HF]at h
theorem o7 {w0:World} {lh:List av}:∀ (fu:Nat) (v x:V) (a:ah),Nn fu v x=true->vr w0 lh Nu.nil v a->vr w0 lh Nu.nil x a
 |0,v,x,a,h,_=>by simp[Nn]at h
 |fu+1,v,x,a,h,y=>by
   simp only[Nn]at h;split at h
   ·simp only[DD,IJ]at h;let ⟨rfl,rfl⟩:=h;exact y
   ·have:=Jh h;subst this;exact y
   ·have:=Jh h;subst this;simp only[vr]at y ⊢;exact y
   ·rename_i s t
    have h0:=HT h;have:s=t:=by
     cases s with|mk d=>
     cases t with|mk e=>
     have:d=e:=Array.toList_inj.1 h0;rw[this]
    subst this;exact y
   ·simp only[vr]at y ⊢;obtain⟨qs,rfl,Q⟩:=y;exact⟨qs,rfl,nu (λv x a=>o7 fu v x a) _ _ _ h Q⟩
   ·simp only[DD]at h
    have hn:=G9 h.1;subst hn;simp only[vr]at y ⊢
    let ⟨p,c,esz,N,Q,h3,h4,h5⟩:=y
    refine⟨p,c,esz,N,Q,h3,h4,λi hi=>?_⟩
    let ⟨X1,qs,g1,g2,g3,g4⟩:=h5 i hi
    have hh:=dh h.2 i hi;simp only[DD]at hh;exact⟨X1,qs,g1,g2,nu (λv x a=>o7 fu v x a) _ _ _ hh.1 g3,hh.2⟩
   ·simp only[DD]at h
    have hn:=G9 h.1;subst hn;simp only[vr]at y ⊢
    let ⟨p,c,esz,N,Q,h3,h4,h5⟩:=y
    refine⟨p,c,esz,N,Q.1,h3,h4,λi hi=>?_⟩
    let ⟨X1,qs,g1,g2,g3,g4⟩:=h5 i hi
    have hh:=dh h.2 i hi;simp only[DD]at hh;exact⟨X1,qs,g1,g2,nu (λv x a=>o7 fu v x a) _ _ _ hh.1 g3,hh.2⟩
   ·simp only[DD]at h
    have hn:=G9 h.1;rw[bS,bS]at hn;simp only[vr]at y ⊢
    let ⟨p,qs,N,Q,h3,h4,h5⟩:=y
    exact⟨p,qs,N,Q,by rw[← hn];exact h3,nu (λv x a=>o7 fu v x a) _ _ _ h.2.1 h4,h.2.2⟩
   ·simp only[DD]at h
    have hn:=G9 h.1;subst hn;simp only[vr]at y ⊢
    let ⟨us,vs,N,Q,h3⟩:=y
    exact⟨us,vs,N,nu (λv x a=>o7 fu v x a) _ _ _ h.2.1 Q,nu (λv x a=>o7 fu v x a) _ _ _ h.2.2 h3⟩
   ·cases h
def Df:List (List V×V)->aH
 |[],_=>none|(ex,r)::l,ds=>cond (HF (Nn 8) ds ex) (some (([],[]),True,r)) (Df l ds)
theorem yM {P:Program} {f:FuncId} {C:aH} (hO:(vP C).Ok P f):∀ (l:List (List V×V)),(∀ e∈l,∃ d p,C e.1=some (d,p,e.2)/\d.1=d.2/\p)->(vP (Df l)).Ok P f:=by
 intro l hl;refine⟨λB m lh w args vs K hrel hargs YR=>?_,λ_ _ _ _ _ hk ⟨ds,d,p,r,N,Q,h3,h4,h5⟩=>⟨ds,d,p,r,N,Q,h3,h4,hk _ _ h5⟩,λ_ _ _ _ ⟨_,_,_,_,_,_,_,_,h⟩=>h⟩;refine hO.sound B m lh w args vs K hrel hargs ?_;obtain⟨ds,d,p,r',N,Q,_,h4,h5⟩:=YR;induction l with
 |nil=>simp[Df]at Q
 |cons e l ih=>
   simp[Df]at Q;cases hb:HF (Nn 8) ds e.1 with
   |true=>rw[hb]at Q;simp[cond_true,H2,Prod.mk.injEq]at Q;obtain⟨_,_,rfl⟩:=Q;obtain⟨d',p',e1,e2,e3⟩:=hl e (Li ..);exact⟨e.1,d',p',_,nu (λv x a=>o7 8 v x a) _ _ _ hb N,e1,⟨e2,e3⟩,h4,h5⟩
   |false=>rw[hb]at Q;exact ih (λe he=>hl e (Mw _ he)) Q
theorem Qu {ts:List Ty} {pre:List V->Prop} {r:List V->V} {raw:List V} {res:V} (hp:pre (ka ts (aw ts raw))) (hr:r (ka ts (aw ts raw))=res):∃ d p,cG ts pre r (aw ts raw)=some (d,p,res)/\d.1=d.2/\p :=
 ⟨_,_,by rw[cG,hr],gL ts raw [],hp⟩
theorem QK {α:Type} {a:α} {l:List α} {X4:α->Prop} (h:X4 a) (hl:∀ e∈l,X4 e):∀ e∈a::l,X4 e:=λe he=>by
 rcases List.mem_cons.1 he with rfl|he
 ·exact h
 ·exact hl e he
theorem Qj {α:Type} {X4:α->Prop}:∀e∈([]:List α),X4 e:=λe he=>by cases he
end Go.Dx
namespace Go.Dx
open Go.IntKind (i64 u64 u8)
open Go.Sx Go.Proofs
variable (H:Nat) (G:bl) (x0 x1:Int) (q:Nat) (W:bl) (x2 x3 x4:Int) (Z:Nat) (S:bl) (x5 x6:Int) (n7:Nat) (f7:bl) (T:Nat) (U:bl) (R:Nat) (O:bl) (X2:Nat) (X0:bl) (XB:Nat) (X7:bl) (Ud:Int) (YL:ByteArray) (XL XM XN Y8 Y9:Int)
noncomputable section
def uB:kZ:=λ_=>1000
def szB (n:Nat) (f:bl):Bool:=HC n λi=>Nat.ble (sv (aI (f i))).size 9223372036854775807
theorem mX {n:Nat} {f:bl} (h:szB n f=true):aT n f:=λi hi=>HS (dh h i hi)
def SQ:Nat->List V
 |0=>[.str ⟨#[119,105,100,101]⟩,.sl 3 (λ|0=>[D (-1000)]|1=>[D 0]|_=>[D 2000]),.sl 2 (λ|0=>[D (-1000)]|_=>[D 1000]),.sl 3 (λ|0=>[.sl 2 (λ|0=>[D 100]|_=>[D 300])]|1=>[.sl 2 (λ|0=>[D 200]|_=>[D 600])]|_=>[.sl 2 (λ|0=>[D 0]|_=>[D 100])]),D 50,D 5]|_=>[.str ⟨#[97,115,112,104,97,108,116]⟩,.sl 2 (λ|0=>[D (-5000)]|_=>[D 5000]),.sl 2 (λ|0=>[D (-5000)]|_=>[D 5000]),.sl 2 (λ|0=>[.sl 2 (λ|0=>[D 700]|_=>[D 700])]|_=>[.sl 2 (λ|0=>[D 700]|_=>[D 700])]),D 0,D 0]
def SP:Nat->List V:=λ_=>[.str ⟨#[104,101,97,100]⟩,D 0,D 1,D 8000,D 60000,D 500,D 50,D 2,D 4,D 3,D 5,D 100000,D 200,D 0]
def Ms:Nat->List V:=λ_=>[.str ⟨#[104,105,103,104]⟩,D 0,.sl 3 (λ|0=>JK|1=>[D 10000,D 0]|_=>[D 10000,D 10000]),D 4000]
def SO:Nat->List V:=λ_=>[.str ⟨#[99]⟩,D 0,D 0,D 80,D 0,D 1]
abbrev P6:=[D 0,D 0,D 1000]
def smS:V:=.agg [.sl 2 SQ,.sl 1 SP,D 1,.sl 1 Ms,.sl 0 Ms,.sl 0 Ms,.sl 1 SO,.sl 1 (λ_=>[D 0]),.sl 1 λ_=>P6]
def JL:List Ty:=[.agg [.sl au,.sl ao,tI,.sl ap,.sl AV,.sl ar,.sl al,.sl M,.sl cr]]
def Jr:aH:=Df [(aw JL [smS],.tup P8)]
theorem alT:(vP Jr).Ok Tryz.prog 55:=yM KI _ (QK (Qu (ts:=JL) (raw:=[smS]) (⟨mX BF,mX BF,mX BF,mX BF⟩) BF) (Qj))
def Mp:List Ty:=[.agg [.sl au,.sl ao]]
def MH:aH:=Df [(aw Mp [.agg [.sl 2 SQ,.sl 1 SP]],.tup P8)]
theorem hmx:(vP MH).Ok Tryz.prog 82:=yM OZ _ (QK (Qu (ts:=Mp) (raw:=[.agg [.sl 2 SQ,.sl 1 SP]]) (⟨mX BF,mX BF⟩) BF) (Qj))
def Tm:List Ty:=[.agg [.sl ap,.sl AV,.sl ar,.sl al]]
def agW:aH:=Df [(aw Tm [.agg [.sl 1 Ms,.sl 0 Ms,.sl 0 Ms,.sl 1 SO]],.tup P8)]
theorem ahA:(vP agW).Ok Tryz.prog 78:=yM ah2 _ (QK (Qu (ts:=Tm) (raw:=[.agg [.sl 1 Ms,.sl 0 Ms,.sl 0 Ms,.sl 1 SO]]) (⟨mX BF,mX BF⟩) BF) (Qj))
def pw:bo:=(18,.con Xj)::NZ
theorem nJ:aX Tryz.prog BD CJ pw:=.con adm (Kz)
def We:RT Empty:=dm (H,G,q,W,x4,Z,S,n7,f7,T,U,R,O,X2,X0,XB,X7,Ud,YL,XL,XM,Y8,Y9) (.ret (D (E (100*XN))))
theorem f10:eJ eL (bu JJ pw u0 Mo [V.agg [V.sl H (A au G),V.sl q (A ao W),D x4,V.sl Z (A ap S),V.sl n7 (A AV f7),V.sl T (A ar U),V.sl R (A al O),V.sl X2 (A M X0),V.sl XB (A cr X7),D Ud,V.str YL,D XL,D XM,D XN,D Y8,D Y9]]) (We H G q W x4 Z S n7 f7 T U R O X2 X0 XB X7 Ud YL XL XM XN Y8 Y9):=cD
def EH:Int:=E (100*XN)
def Kn:V:=dm (H,G,q,W,x4,Z,S,n7,f7,T,U,R,O,X2,X0,XB,X7,Ud,YL,XL,XM,Y8,Y9) (D (EH XN))
theorem abZ:bj em (We H G q W x4 Z S n7 f7 T U R O X2 X0 XB X7 Ud YL XL XM XN Y8 Y9) (Kn H G q W x4 Z S n7 f7 T U R O X2 X0 XB X7 Ud YL XL XM XN Y8 Y9):=Br (by unfold Kn EH;rfl)
def Vv:aH:=cG [.agg [.sl au,.sl ao,tI,.sl ap,.sl AV,.sl ar,.sl al,.sl M,.sl cr,tI,.str,tI,tI,tI,tI,tI]] (λ_=>True) λ|[.agg [.sl H G,.sl q W,.int _ x4,.sl Z S,.sl n7 f7,.sl T U,.sl R O,.sl X2 X0,.sl XB X7,.int _ Ud,.str YL,.int _ XL,.int _ XM,.int _ XN,.int _ Y8,.int _ Y9]]=>Kn H G q W x4 Z S n7 f7 T U R O X2 X0 XB X7 Ud YL XL XM XN Y8 Y9|_=>.any
theorem ht':dL Vv 56:=bH nJ λ_ hp=>fb (f10 ..) (abZ _ _ _ _ _ _ _ _ _ _ _ _ _ _ _ _ _ _ _ _ _ _ _ _)
def U1:RT Empty:=.ret (V.agg [D x0,D x0])
theorem hk2:eJ eL (bu JJ pw u0 ab2 [D x0]) (U1 x0):=cD
def IN:V:=.agg [D x0,D x0]
theorem ig4:bj em (U1 x0) (IN x0):=Br (by unfold IN ; rfl)
def Io:aH:=cG M (λ_=>True) λ|[.int _ x0]=>IN x0|_=>.any
theorem ME:dL Io 120:=bH nJ λ_ hp=>fb (hk2 ..) (ig4 _)
def V1:RT Empty:=.obp (nz (E (x5-x4))) (.obt (.obp (nz (E (x5-x4))) (.obt (.ret (V.agg [D (bO (E (E (x0*E (x5-x6))+E (x2*E (x6-x4)))) (E (x5-x4))),D (bD (E (E (x1*E (x5-x6))+E (x3*E (x6-x4)))) (E (x5-x4)))])))))
theorem hab:eJ eL (bu JJ pw u0 abN [V.agg [D x0,D x1],V.agg [D x2,D x3],D x4,D x5,D x6]) (V1 x0 x1 x2 x3 x4 x5 x6):=cD
def gz:Int:=bO (E (E (x0*E (x5-x6))+E (x2*E (x6-x4)))) (E (x5-x4))
def eM:Int:=bD (E (E (x1*E (x5-x6))+E (x3*E (x6-x4)))) (E (x5-x4))
def Em:V:=.agg [D (gz x0 x2 x4 x5 x6),D (eM x1 x3 x4 x5 x6)]
theorem ac0 (hp:E (x5-x4)≠0):bj em (V1 x0 x1 x2 x3 x4 x5 x6) (Em x0 x1 x2 x3 x4 x5 x6):=Cv (by first|assumption|(exact hp)) (AY (Cv (by first|assumption|(exact hp)) (AY (Br (by unfold Em gz eM;rfl)))))
def ybg:aH:=cG [.agg cO,.agg cO,tI,tI,tI] (λ
 |[.agg [.int _ x0,.int _ x1],.agg [.int _ x2,.int _ x3],.int _ x4,.int _ x5,.int _ x6]=>E (x5-x4)≠0|_=>False) λ
 |[.agg [.int _ x0,.int _ x1],.agg [.int _ x2,.int _ x3],.int _ x4,.int _ x5,.int _ x6]=>Em x0 x1 x2 x3 x4 x5 x6|_=>.any
theorem O4:dL ybg 119:=bH nJ λ_ hp=>fb (hab ..) (ac0 _ _ _ _ _ _ _ hp)
def KE:RT Empty:=.obp (nz 1000000) (.obt (.obp (nz 1000) (.obt (.obp (nz 1000) (.obt (.ret (D (bO (E (bO (E (bO (E (x0*max (E (1000000-E (x1*x3))) 0)) 1000000*max (E (1000-E (x2*x4))) 0)) 1000*x5)) 1000))))))))
theorem akH:eJ eL (bu JJ pw u0 yaO [D x0,D x1,D x2,V.agg [D x3,D x4,D x5],V.fn 51 [] []]) (KE x0 x1 x2 x3 x4 x5):=cD
def j7:Int:=bO (E (bO (E (bO (E (x0*max (E (1000000-E (x1*x3))) 0)) 1000000*max (E (1000-E (x2*x4))) 0)) 1000*x5)) 1000
def CS:V:=D (j7 x0 x1 x2 x3 x4 x5)
theorem h0':bj em (KE x0 x1 x2 x3 x4 x5) (CS x0 x1 x2 x3 x4 x5):=Cv (by first|assumption|(decide)) (AY (Cv (by first|assumption|(decide)) (AY (Cv (by first|assumption|(decide)) (AY (Br (by unfold CS j7;rfl)))))))
def NT:aH:=cG [tI,tI,tI,.agg cr,.fn 51 [] []] (λ_=>True) λ|[.int _ x0,.int _ x1,.int _ x2,.agg [.int _ x3,.int _ x4,.int _ x5],.fn _ [] []]=>CS x0 x1 x2 x3 x4 x5|_=>.any
theorem hcp:dL NT 85:=bH nJ λ_ hp=>fb (akH ..) (h0' _ _ _ _ _ _)
def OV:RT Empty:=.obp (nz 1000000) (.obt (.obp (nz 1000) (.obt (.obp (nz 1000) (.obt (.ret (D (bD (E (bD (E (bD (E (x0*max (E (1000000-E (x1*x3))) 0)) 1000000*max (E (1000-E (x2*x4))) 0)) 1000*x5)) 1000))))))))
theorem aiD:eJ eL (bu JJ pw u0 yaO [D x0,D x1,D x2,V.agg [D x3,D x4,D x5],V.fn 52 [] []]) (OV x0 x1 x2 x3 x4 x5):=cD
def j8:Int:=bD (E (bD (E (bD (E (x0*max (E (1000000-E (x1*x3))) 0)) 1000000*max (E (1000-E (x2*x4))) 0)) 1000*x5)) 1000
def Ci:V:=D (j8 x0 x1 x2 x3 x4 x5)
theorem hlk:bj em (OV x0 x1 x2 x3 x4 x5) (Ci x0 x1 x2 x3 x4 x5):=Cv (by first|assumption|(decide)) (AY (Cv (by first|assumption|(decide)) (AY (Cv (by first|assumption|(decide)) (AY (Br (by unfold Ci j8;rfl)))))))
def Pn:aH:=cG [tI,tI,tI,.agg cr,.fn 52 [] []] (λ_=>True) λ|[.int _ x0,.int _ x1,.int _ x2,.agg [.int _ x3,.int _ x4,.int _ x5],.fn _ [] []]=>Ci x0 x1 x2 x3 x4 x5|_=>.any
theorem hY':dL Pn 85:=bH nJ λ_ hp=>fb (aiD ..) (hlk _ _ _ _ _ _)
def acV:List V->Bool
 |[_,_,_,_,.fn n _ _]=>Nat.beq n (match (.fn 51 [] []:V) with|.fn k _ _=>k|_=>0)|_=>false
def NB:aH:=Pe acV NT Pn
theorem N4:(vP NB).Ok Tryz.prog 85:=DJ _ _ _ hcp hY'
theorem vF {b:Int} (h:(b !=0)=true):b≠0:=by simpa using h
def Nh:List V->Bool
 |[.int _ x0,.int _ x1]=>x1 !=0|_=>false
def KD:aH:=Kt cO Nh λ|[.int _ x0,.int _ x1]=>BL x0 x1|_=>.any
theorem hnd:(vP KD).Ok Tryz.prog 51:=mB (λds h=>by
 unfold Nh at h;split at h
 ·exact vF h
 ·cases h) OJ
def KG:List V->Bool
 |[.agg [.int _ x0,.int _ x1]]=>x1 !=0|_=>false
def Mv:aH:=Kt [.agg cO] KG λ|[.agg [.int _ x0,.int _ x1]]=>AH x0 x1|_=>.any
theorem ha2:(vP Mv).Ok Tryz.prog 59:=mB (λds h=>by
 unfold KG at h;split at h
 ·exact vF h
 ·cases h) Kv
def Lu:List V->Bool
 |[.int _ x0,.int _ x1]=>x1 !=0|_=>false
def yaP:aH:=Kt cO Lu λ|[.int _ x0,.int _ x1]=>FU x0 x1|_=>.any
theorem grR:(vP yaP).Ok Tryz.prog 52:=mB (λds h=>by
 unfold Lu at h;split at h
 ·exact vF h
 ·cases h) NK
def O9:List V->Bool
 |[.agg [.int _ x0,.int _ x1]]=>x1 !=0|_=>false
def JP:aH:=Kt [.agg cO] O9 λ|[.agg [.int _ x0,.int _ x1]]=>Ff x0 x1|_=>.any
theorem hat:(vP JP).Ok Tryz.prog 61:=mB (λds h=>by
 unfold O9 at h;split at h
 ·exact vF h
 ·cases h) Jp
def MC:List V->Bool
 |[.sl H G]=>Nat.ble 1 H|_=>false
def Mh:aH:=Kt [.sl M] MC λ|[.sl H G]=>D (fD H G)|_=>.any
theorem hdd:(vP Mh).Ok Tryz.prog 97:=mB (λds h=>by
 unfold MC at h;split at h
 ·exact HS h
 ·cases h) Le
def Jt:List V->Bool
 |[.sl H G]=>Nat.ble 1 H|_=>false
def Mg:aH:=Kt [.sl M] Jt λ|[.sl H G]=>D (gn H G)|_=>.any
theorem hin:(vP Mg).Ok Tryz.prog 96:=mB (λds h=>by
 unfold Jt at h;split at h
 ·exact HS h
 ·cases h) M8
def NU:List V->Bool
 |[.agg [.int _ x0,.int _ x1],.agg [.int _ x2,.int _ x3],.int _ x4,.int _ x5,.int _ x6]=>E (x5-x4)!=0|_=>false
def Kh:aH:=Kt [.agg cO,.agg cO,tI,tI,tI] NU λ|[.agg [.int _ x0,.int _ x1],.agg [.int _ x2,.int _ x3],.int _ x4,.int _ x5,.int _ x6]=>Em x0 x1 x2 x3 x4 x5 x6|_=>.any
theorem by1:(vP Kh).Ok Tryz.prog 119:=mB (λds h=>by
 unfold NU at h;split at h
 ·exact vF h
 ·cases h) O4
end
end Go.Dx
namespace Go.Dx
open Go.Sx
theorem ba.unhideG {B:dj} {m m':aJ} {lh new:List av} {w w':World} {X:List Nat} (h:ba B m lh w)
 (h':ba ⟨B.w0,w,λb=>∃k cs ty,k∉X/\lh[k]? = some (.cells cs ty)/\m k=some b,B.ds⟩ m' (hide X lh++new) w') (he:iq (hide X lh) m (hide X lh++new) m') :
 ba B m' (lh++new) w'/\iq lh m (lh++new) m':=by
 have hent:∀ k o,(lh++new)[k]? = some o->((hide X lh++new)[k]? = some o)∨(k∈X/\lh[k]? = some o/\(hide X lh++new)[k]? = some .hid):=λk o hk=>by
  rw[JS]at hk;split at hk
  ·rename_i XD
   rw[Ht (by rw[Go.Sx.hide_length];exact XD),Go.Sx.hide_get];by_cases hX:k∈X
   ·rw[DL hX,hk];exact .inr ⟨hX,rfl,rfl⟩
   ·rw[Ck hX];exact .inl hk
  ·rename_i Z1;left;rw[KM (by rw[Go.Sx.hide_length];omega),Go.Sx.hide_length];exact hk
 have hnoown:∀k cs ty b,k∈X->lh[k]? = some (.cells cs ty)->m k=some b->¬ ∃j cs ty,j∉X/\lh[j]? = some (av.cells cs ty)/\m j=some b:=λk cs ty b hX hk hb ⟨j,cs',ty',hj,hl,Xw⟩=>by exact hj (h.inj j k b cs' cs ty' ty hl hk Xw hb▸hX)
 refine⟨⟨h'.os.trans h.os,h'.tape.trans h.tape,h'.output.trans h.output,h'.size,h'.old,Jc h.fsize h'.fsize,λb hb ho=>?_,λk cs ty hk=>?_,λk k' b cs cs' ty ty' N Q hb Xw=>?_,λk hk=>?_,λk hk=>?_,h'.rng⟩,he.1,λk hk=>?_⟩
 ·rw [h'.kept b (LI hb h.fsize) (λ⟨k,cs,ty,_,hl,hm⟩=>?_)]
  ·exact h.kept b hb ho
  ·let ⟨b',_,Xw,_,_,_,h3⟩:=h.loc k cs ty hl
   rw[hm]at Xw;cases Xw;rcases h3 with h3|h3
   ·omega
   ·exact ho h3
 ·rcases hent k _ hk with hl|⟨hX,hl,_⟩
  ·let ⟨b,vs,hb,Y2,hh,N,Q⟩:=h'.loc k cs ty hl
   refine⟨b,vs,hb,Y2,hh,N,?_⟩;rcases Q with Q|⟨j,cs',ty',hj,bz,wR⟩
   ·exact .inl (Jc h.fsize Q)
   ·let ⟨b',_,Xw,_,_,_,h3⟩:=h.loc j cs' ty' bz
    rw[wR]at Xw;cases Xw;exact h3
  ·let ⟨b,vs,hb,Y2,hh,N,Q⟩:=h.loc k cs ty hl
   refine⟨b,vs,he.1 _ _ hb,cH he.1 _ _ Y2,?_,N,Q⟩;rw[h'.kept b (h.rng k b hb) (hnoown k cs ty b hX hl hb)];exact hh
 ·have mixed:∀ k k' b cs cs' ty ty',(hide X lh++new)[k]? = some (.cells cs ty)->k'∈X->lh[k']? = some (.cells cs' ty')->m' k=some b->m' k'=some b->False:=λk k' b cs cs' ty ty' hl hX YM hb Xw=>by
   let ⟨b0,_,Yb,_⟩:=h.loc k' cs' ty' YM
   have e:=he.1 _ _ Yb;rw[Xw]at e;cases e
   let ⟨b1,_,YX,_,_,_,Q⟩:=h'.loc k cs ty hl
   rw[hb]at YX;cases YX;rcases Q with Q|Q
   ·have h3:=h.rng k' b Yb;have h4:w.heap.size<=b:=Q;omega
   ·exact hnoown k' cs' ty' b hX YM Yb Q
  rcases hent k _ N with hl|⟨hX,hl,_⟩<;>rcases hent k' _ Q with YM|⟨vd,YM,_⟩
  ·exact h'.inj k k' b cs cs' ty ty' hl YM hb Xw
  ·exact(mixed k k' b cs cs' ty ty' hl vd YM hb Xw).elim
  ·exact(mixed k' k b cs' cs ty' ty YM hX hl Xw hb).elim
  ·let ⟨b0,_,Yb,_⟩:=h.loc k cs ty hl
   let ⟨b1,_,YX,_⟩:=h.loc k' cs' ty' YM
   have e:=he.1 _ _ Yb;rw[hb]at e;cases e;have e:=he.1 _ _ YX;rw[Xw]at e;cases e;exact h.inj k k' b cs cs' ty ty' hl YM Yb YX
 ·exact h'.dom k (by rw[Md]at hk ⊢;rw[Go.Sx.hide_length];exact hk)
 ·rcases hent k _ hk with hl|⟨hX,hl,YM⟩
  ·exact h'.dead k hl
  ·have hd:=h.dead k hl
   have hh:(hide X lh)[k]? = some .hid:=by rw[Go.Sx.hide_get,DL hX,hl];rfl
   rw[(he.2 k hh).2];exact hd
 ·have hh:(hide X lh)[k]? = some .hid:=by
   rw[Go.Sx.hide_get];split
   ·rw[hk];rfl
   ·exact hk
  let ⟨N,Q⟩:=he.2 k hh
  exact⟨by rw[Ht (List.getElem?_eq_some_iff.1 hk).1];exact hk,Q⟩
mutual
def cI:V->Prop
 |.int ..|.bool _|.kb _|.str _|.any=>True|.agg cs|.tup cs=>b8 cs|.sl n f=>∀i,i<n->b8 (f i)|_=>False
def b8:List V->Prop
 |[]=>True|v::vs=>cI v/\b8 vs
end
theorem alg:∀ (r v:V),cI r->cP v=cP r->v.fc=true->r.fc=true
 |.int ..,_,_,_,_=>rfl|.bool _,_,_,_,_=>rfl|.kb _,_,_,_,_=>rfl|.str _,_,_,_,_=>rfl|.any,_,_,_,_=>rfl|.sl ..,_,_,_,_=>rfl|.agg _,v,_,h,hf=>by cases v<;>first|(simp[cP]at h;done)|(cases hf;done)
 |.tup _,v,_,h,hf=>by cases v<;>first|(simp[cP]at h;done)|(cases hf;done)
 |.fn ..,_,hg,_,_=>by simp[cI]at hg
 |.pd ..,_,hg,_,_=>rfl|.pl ..,_,hg,_,_=>rfl|.pe ..,_,hg,_,_=>rfl|.ss ..,_,hg,_,_=>rfl|.gs ..,_,hg,_,_=>rfl|.ns,_,hg,_,_=>rfl|.np,_,hg,_,_=>rfl|.gd ..,_,hg,_,_=>by simp[cI]at hg
 |.yl ..,_,hg,_,_=>by simp[cI]at hg
 |.go ..,_,hg,_,_=>rfl|.sq ..,_,hg,_,_=>rfl
theorem Ah:∀ (rs vs:List V),b8 rs->cA vs=cA rs->vs.all V.fc=true->rs.all V.fc=true
 |[],_,_,_,_=>rfl|r::rs,[],_,h,_=>by simp[cA]at h
 |r::rs,v::vs,hg,h,hf=>by simp[cA,Hc]at h;simp[b8]at hg;simp only[Ib,DD]at hf ⊢;exact⟨alg r v hg.1 h.1 hf.1,Ah rs vs hg.2 h.2 hf.2⟩
section
variable {w0:World} {lh:List av}
mutual
theorem eqA:∀ (r v:V) (a:ah),cI r->cP v=cP r->vr w0 lh Nu.nil v a->vr w0 lh Nu.nil r a
 |.int k n,v,a,_,h,y=>by cases v<;>simp only[cP]at h<;>cases h;exact y
 |.bool b,v,a,_,h,y=>by cases v<;>simp[cP]at h<;>cases h<;>(simp[vr]at y ⊢;exact y)
 |.kb b,v,a,_,h,y=>by cases v<;>simp[cP]at h<;>cases h<;>(simp[vr]at y ⊢;exact y)
 |.str s,v,a,_,h,y=>by cases v<;>simp[cP]at h<;>cases h;exact y
 |.any,v,a,_,_,_=>by simp[vr]
 |.agg cs,v,a,hg,h,y=>by
   cases v<;>simp[cP,ah.agg.injEq]at h<;>first|(cases h;done)|skip
   simp[cI]at hg;simp[vr]at y ⊢
   let ⟨az,e,y⟩:=y
   exact⟨az,e,Ro cs _ az hg h y⟩
 |.tup cs,v,a,hg,h,y=>by
   cases v<;>simp[cP,ah.tup.injEq]at h<;>first|(cases h;done)|skip
   simp[cI]at hg;simp[vr]at y ⊢
   let ⟨az,e,y⟩:=y
   exact⟨az,e,Ro cs _ az hg h y⟩
 |.sl n f,v,a,hg,h,y=>by
   cases v<;>first|(simp[cP]at h;done)|skip
   let ⟨rfl,YO⟩:=DO h
   simp[cI]at hg;simp only[vr]at y ⊢
   let ⟨p,c,esz,N,Q,h3,h4,h5⟩:=y
   refine⟨p,c,esz,N,Q,h3,h4,λi hi=>?_⟩
   let ⟨X1,az,g1,g2,g3,g4⟩:=h5 i hi
   exact⟨X1,az,g1,g2,Ro (f i) _ az (hg i hi) (YO i hi) g3,Ah _ _ (hg i hi) (YO i hi) g4⟩
 |.fn ..,_,_,hg,_,_=>by simp[cI]at hg
 |.pd ..,_,_,hg,_,_=>by simp[cI]at hg
 |.pl ..,_,_,hg,_,_=>by simp[cI]at hg
 |.pe ..,_,_,hg,_,_=>by simp[cI]at hg
 |.ss ..,_,_,hg,_,_=>by simp[cI]at hg
 |.gs ..,_,_,hg,_,_=>by simp[cI]at hg
 |.ns,_,_,hg,_,_=>by simp[cI]at hg
 |.np,_,_,hg,_,_=>by simp[cI]at hg
 |.gd ..,_,_,hg,_,_=>by simp[cI]at hg
 |.yl ..,_,_,hg,_,_=>by simp[cI]at hg
 |.go ..,_,_,hg,_,_=>by simp[cI]at hg
 |.sq ..,_,_,hg,_,_=>by simp[cI]at hg
theorem Ro:∀ (rs vs:List V) (az:List ah),b8 rs->cA vs=cA rs->bp w0 lh Nu.nil vs az->bp w0 lh Nu.nil rs az
 |[],vs,az,_,h,y=>by
   cases vs with
   |nil=>exact y|cons v vs=>simp[cA]at h
 |r::rs,vs,az,hg,h,y=>by
   cases vs with
   |nil=>simp[cA]at h
   |cons v vs=>
     simp[cA,Hc]at h;simp[b8]at hg;simp[bp]at y ⊢
     let ⟨x,xs,e,N,Q⟩:=y
     exact⟨x,xs,e,eqA r v x hg.1 h.1 N,Ro rs vs xs hg.2 h.2 Q⟩
end
end
def HY:V->V
 |.sq n _ f=>.sl n f|v=>v
def QV:V->V
 |.agg cs=>.agg (cs.map HY)|.tup cs=>.tup (cs.map HY)|v=>HY v
theorem Fs {w0:World} {lh:List av} {ν:Nu} {v:V} {a:ah} (h:vr w0 lh ν v a):vr w0 lh ν (HY v) a:=by
 unfold HY;split
 ·simp only[vr]at h ⊢
  let ⟨p,c,esz,N,Q,h3,h4,h5⟩:=h
  exact⟨p,c,esz,N,Q.1,h3,h4,h5⟩
 ·exact h
theorem vg {w0:World} {lh:List av} {ν:Nu}:∀ {vs:List V} {qs:List ah},bp w0 lh ν vs qs->bp w0 lh ν (vs.map HY) qs
 |[],qs,h=>by simp[bp,OO]at h ⊢;exact h
 |v::vs,qs,h=>by
   simp[bp,Ja]at h ⊢
   let ⟨x,xs,e,N,Q⟩:=h
   exact⟨x,xs,e,Fs N,vg Q⟩
theorem aa7 {w0:World} {lh:List av} {ν:Nu} {v:V} {a:ah} (h:vr w0 lh ν v a):vr w0 lh ν (QV v) a:=by
 unfold QV;split
 ·simp[vr]at h ⊢
  let ⟨qs,e,h⟩:=h
  exact⟨qs,e,vg h⟩
 ·simp[vr]at h ⊢
  let ⟨qs,e,h⟩:=h
  exact⟨qs,e,vg h⟩
 ·exact Fs h
theorem HR.fz (w0:World) (l:List av):HR w0 ⟨λ_=>Option.none,l⟩ 0 0 [] l:=⟨λk o h=>by simp at h,λk k' x x' _ _ h=>by(cases h),λ_ _=>rfl,λ_ _ h=>by(cases h),lk _,λ_ _ _ h=>by(cases h)⟩
theorem aix {l l1:List av} {m m1:aJ} (hz:tf l l1) (he:iq l m l1 m1) (hl:∀ (k:Nat) (o:av),l[k]? = some o->o=.hid∨∃ az ty,o=.cells az ty):l1=l++l1.drop l.length:=by
 have hp:∀ k o,l[k]? = some o->l1[k]? = some o:=λk o hk=>by
  rcases hl k o hk with rfl|⟨az,ty,rfl⟩
  ·exact(he.2 k hk).1
  ·exact hz k az ty hk
 apply Kk;intro k;rw[JS];split
 ·rename_i XD;have:l[k]? = some l[k]:=KO XD;rw[hp k _ this,this]
 ·rename_i Z1;rw[LU];congr 1;omega
theorem hy0 {α:Type} {P:Program} {BD:List TypeId} {CJ:List gX} {ct:bo} {f:FuncId} {fn:Func} {sf:aU} {un:kZ} {C:aH} {K0:V->List AX->Bj α} {Q0:V->α->Prop} (hK0:∀ w0 r v h,bM (dq w0 (SV ct)) (K0 v h) (Q0 r)->Pp (pk h [v])/\cP (QV (qS h v))=cP r) (hT:aX P BD CJ ct) (hE:∀ t∈BD,dc P t) (hI:kG P BD CJ) (hf:P.funcs[f]? = some fn)
 (hn : (fn.name == "runtime.NumGoroutine") = false) (hc : ek P BD CJ fn = some sf) (hd : fN sf.ntmps sf.body = true) (hg : ∀ ds d p r, C ds = some (d, p, r) -> d.1 = d.2 -> p -> cI r)
 (h:∀w0 ds d p r,C ds=some (d,p,r)->d.1=d.2->p->bM (dq w0 (SV ct)) (mK (mA ct LV) (lZ ct) un LV sf ds [] K0) (Q0 r)):(vZ C).Ok P f:=by
 refine⟨λB m lh w args vs K hrel hargs YR=>?_,λ_ _ _ _ _ hk ⟨ds,d,p,r,X,N,Q,h3,h4,h5,h6⟩=>⟨ds,d,p,r,X,N,Q,h3,h4,h5,λx new hx=>hk _ _ (h6 x new hx)⟩,λ_ _ _ _ ⟨_,_,_,_,_,_,_,_,_,⟨x,new,hx⟩,h6⟩=>h6 x new hx⟩
 let ⟨ds,d,p,r,X,N,hX,Q,⟨Yq,h3⟩,_,h6⟩:=YR
 have hs:=nT (Sp:=λw0 args l K=>∃ ds d p r,bp w0 l Nu.nil ds args/\C ds=some (d,p,r)/\(d.1=d.2/\p)/\∀ x l',tf l l'->vr w0 l' Nu.nil r x->K x l') (hT.ok hE hI LV) hE hI hf hn hc (λw0 args l K hw ha ⟨ds,d,p,r,k1,k2,⟨k30,k3⟩,k4⟩=>by
  refine qd (ν:=⟨λ_=>none,l⟩) (nV:=0) (nS:=0) (nN w0 ct hT.dst LV) (oc w0 ct _ LV) hd (gP (λk x h=>by cases h) ds args k1) (HR.fz w0 l) (h w0 ds d p r k2 k30 k3) λv h' ν' a lh' q0 q1 q2 q3=>?_
  let ⟨b1,b2⟩:=hK0 _ _ _ _ q3
  have hh:=q1 0 0
  have y:bp w0 lh' Nu.nil [qS h' v] [a]:=qv hh b1 (by simp only[bp];exact⟨_,_,rfl,q2,rfl⟩)
  simp only[bp]at y
  let ⟨x,xs,e,y,_⟩:=y
  cases e
  exact⟨a,lh',.inl ⟨rfl,(⟨.inr rfl,trivial⟩:lw [_] [_])⟩,k4 a lh' (nQ q0.2 hh.zl) (eqA _ _ _ (hg _ _ _ _ k2 k30 k3) b2 (aa7 y))⟩)
 let ⟨e1,e2⟩:=hs _ m (hide X lh) w args vs (λr' l'=>tf (hide X lh) l'/\vr B.w0 l' Nu.nil r r') (hrel.hide X) hargs ⟨ds,d,p,r,N,Q,⟨Yq,h3⟩,λx l' hz hx=>⟨hz,hx⟩⟩
 refine⟨e1,e2.mono λee w' ⟨v,r',m1,l1,he,y,hext,hr,hz,hx⟩=>?_⟩
 have hfull:=aix hz hext λk o hk=>by
  rw[Go.Sx.hide_get]at hk
  split at hk
  ·cases hg:lh[k]? with
   |none=>rw[hg]at hk;cases hk
   |some o'=>rw[hg]at hk;cases hk;exact .inl rfl
  ·rename_i hkX
   rcases hX k hkX with hc|hc
   ·right
    rw[hk]at hc
    cases o with
    |cells az ty=>exact⟨az,ty,rfl⟩
    |_=>cases hc
   ·rw[IP hc]at hk;cases hk
 generalize l1.drop (hide X lh).length=new at hfull
 subst hfull
 let ⟨g1,g2⟩:=ba.unhideG hrel hr hext
 exact⟨v,r',m1,lh++new,he,y,g2,g1,h6 r' new hx⟩
theorem TN {P:Program} {f:FuncId} {e:Nat} {ty:TypeId} {C:aH} (h:(vL e ty C).Ok P f) (hL:∀ ds d p r,C ds=some (d,p,r)->d.1=d.2->p->Su e r/\∃ n f,r=.sl n f/\∀ i,i<n->(f i).all V.fc=true):(vN C).Ok P f:=by
 refine⟨λB m lh w args vs K hrel hargs ⟨ds,d,p,r,N,Q,h3,h5,h6⟩=>?_,λ_ _ _ _ _ hk ⟨ds,d,p,r,N,Q,h3,h4,h5⟩=>⟨ds,d,p,r,N,Q,h3,h4,λx new hx=>hk _ _ (h5 x new hx)⟩,λw0 _ lh _ ⟨_,_,_,_,_,_,_,h4,h5⟩=>let ⟨x,new,hx⟩:=h4 w0 lh;h5 x new hx⟩;obtain⟨ho,n,f,rfl,oN⟩:=hL _ _ _ _ Q h3.1 h3.2;have Zm:=ho
 let ⟨n',f',hl,hmax,YO,_⟩:=Zm
 simp[oS,H2,Prod.mk.injEq]at hl
 let ⟨rfl,rfl⟩:=hl
 refine h.sound B m lh w args vs K hrel hargs ⟨ds,d,p,_,n,f,N,Q,h3,rfl,ho,λx new hx=>?_⟩;show K x (lh++new);refine h6 x new ?_;simp only[vr];rcases hx with ⟨rfl,rfl⟩|⟨b,c,az,hb,ZA,rfl,sP,ZS,hall⟩
 ·exact⟨none,0,e,rfl,Dm _,hmax,trivial,λi hi=>absurd hi (Ln _)⟩
 ·have hbl':(List.replicate lh.length av.dead++new)[b]? = some (.cells az ty):=by
   rw[KM (by simpa using hb)];rw[KM hb]at ZA;simpa using ZA
  refine⟨some (.l b 0),c,e,rfl,ZS,hmax,⟨az,ty,hbl',Ho _⟩,λi hi=>⟨.l b 0,cA (f i),rfl,?_,(fi (YO i hi).2 _).2 rfl,oN i hi⟩⟩;have Y3:i*e+e<=az.length:=by rw[sP,← Hs];exact Hw e I
  show lds B.w0 _ (.l b (0+i*e)) e=_;rw[Ic];simp only[lds,hbl'];rw[DL Y3,hall i hi]
theorem JQ {e n:Nat} {f:bl} (ho:Su e (.sl n f)) (oN:∀ i,i<n->(f i).all V.fc=true):Od (.sl n f):=λw0 lh=>by
 let ⟨n',f',hl,hmax,YO,_⟩:=ho
 simp[oS,H2,Prod.mk.injEq]at hl
 let ⟨rfl,rfl⟩:=hl
 let ⟨N,Q⟩:=yo (e:=e) (f:=f) (n:=n) λi hi=>by rw[uW];exact(mf (YO i hi).1).1
 refine⟨.slice (some (.l lh.length 0)) n n,[.cells ((List.range n).flatMap λi=>cA (f i)) 0],?_⟩;simp only[vr];have hbl':(List.replicate lh.length av.dead++[av.cells ((List.range n).flatMap λi=>cA (f i)) 0])[lh.length]? = some (.cells ((List.range n).flatMap λi=>cA (f i)) 0):=by rw[KM aD];simp
 refine⟨some (.l lh.length 0),n,e,rfl,Dm _,hmax,⟨_,0,hbl',Ho _⟩,λi hi=>⟨.l lh.length 0,cA (f i),rfl,?_,(fi (YO i hi).2 _).2 rfl,oN i hi⟩⟩;have Y3:i*e+e<=n*e:=by rw[← Hs];exact Hw e I
 show lds w0 _ (.l lh.length (0+i*e)) e=_;rw[Ic];simp only[lds,hbl'];rw[DL (by rw[N];exact Y3),Q i hi]
theorem ajN {P:Program} {f:FuncId} {e:Nat} {ty:TypeId} {C:aH} (h:(vL e ty C).Ok P f) (hL:∀ ds d p r,C ds=some (d,p,r)->d.1=d.2->p->Su e r/\∃ n f,r=.sl n f/\∀ i,i<n->(f i).all V.fc=true):(vN C).Ok P f/\∀ ds d p r,C ds=some (d,p,r)->d.1=d.2->p->Od r :=
 ⟨TN h hL,λds d p r N Q h3=>by obtain⟨ho,n,f,rfl,oN⟩:=hL ds d p r N Q h3;exact JQ ho oN⟩
end Go.Dx
namespace Go.Dx
open Go.Sx
section
variable {J:Type}
def JG (J:Type) (ct:bo) (un:kZ) (sf:aU) (ds:List V):Bj (cN J):=mK (mA ct LV) (lZ ct) un LV sf ds [] λv h=>Oc (pk h [v]) (.ret (.res (QV (qS h v))))
theorem hc1 {P:Program} {BD:List TypeId} {CJ:List gX} {ct:bo} {f:FuncId} {fn:Func} {sf:aU} {un:kZ} {ts:List Ty} {pre:List V->Prop} {r:List V->V} (hT:aX P BD CJ ct) (hE:∀ t∈BD,dc P t) (hI:kG P BD CJ) (hf:P.funcs[f]? = some fn)
 (hn : (fn.name == "runtime.NumGoroutine") = false) (hc : ek P BD CJ fn = some sf) (hd : fN sf.ntmps sf.body = true) (ho : ge ts = true) (hg : ∀ ds, pre (aw ts ds) -> cI (r (aw ts ds)))
 (h:∀w0 ds,pre (aw ts ds)->bM (dq w0 (SV ct)) (JG J ct un sf (aw ts ds)) (pS (r (aw ts ds)))):(vZ (cG ts pre r)).Ok P f:=by
 refine⟨λB m lh w args vs K hrel hargs YR=>?_,λ_ _ _ _ _ hk ⟨ds,d,p,r,X,N,Q,h3,h4,h5,h6⟩=>⟨ds,d,p,r,X,N,Q,h3,h4,h5,λx new hx=>hk _ _ (h6 x new hx)⟩,λ_ _ _ _ ⟨_,_,_,_,_,_,_,_,_,⟨x,new,hx⟩,h6⟩=>h6 x new hx⟩
 let ⟨ds,d,p,r',X,N,hX,Q,⟨Yq,h3⟩,h5,h6⟩:=YR
 simp only[cG,H2,Prod.mk.injEq]at Q
 let ⟨rfl,rfl,rfl⟩:=Q
 have Ym:=(jj ts ds [] [] ho Yq).1
 rw[(gx ts ds [] [] Yq).1]at h3 h5 h6
 have key2:=hy0 (C:=λds'=>some ((ds',aw ts ds),pre (aw ts ds),r (aw ts ds))) (P:=P) (f:=f) (un:=un) (K0:=λv h=>Oc (pk h [v]) (Bj.ret (cN.res (J:=J) (QV (qS h v))))) (Q0:=pS (J:=J)) (λw0 r v h hs=>⟨(vK hs).1,by have Q:=(vK hs).2;simp[bM,pS]at Q;exact Q⟩) hT hE hI hf hn hc hd (λds' d' p' r' e he hp=>by
  simp only[H2,Prod.mk.injEq]at e
  let ⟨rfl,rfl,rfl⟩:=e
  exact hg ds hp) (λw0 ds' d' p' r' e he hp=>by
  simp only[H2,Prod.mk.injEq]at e
  let ⟨rfl,rfl,rfl⟩:=e
  simp only at he
  subst he
  exact h w0 ds hp)
 exact key2.sound B m lh w args vs K hrel hargs ⟨aw ts ds,_,_,_,X,fA ts ds args Ym N,hX,rfl,⟨rfl,h3⟩,h5,h6⟩
theorem yE {ts:List Ty} {pre:List V->Prop} {r:List V->V} (hL:∀ ds,bF ts ds->pre (aw ts ds)->∀ w0 lh args,bp w0 lh Nu.nil (aw ts ds) args->∃ x new,vr w0 (lh++new) Nu.nil (r (aw ts ds)) x) (ho:ge ts=true):∀ ds d p r',cG ts pre r ds=some (d,p,r')->d.1=d.2->p->∀ w0 lh args,bp w0 lh Nu.nil ds args->∃ x new,vr w0 (lh++new) Nu.nil r' x:=by
 intro ds d p r' h N Q w0 lh args ha;simp only[cG,H2,Prod.mk.injEq]at h
 let ⟨rfl,rfl,rfl⟩:=h
 have Ym:=(jj ts ds [] [] ho N).1;rw[(gx ts ds [] [] N).1]at Q ⊢;exact hL ds Ym Q w0 lh args (fA ts ds args Ym ha)
end
theorem Dp {w0:World} {lh:List av} {e n:Nat} {f:bl} (hn:n<=9223372036854775807) (YO:∀ i,i<n->lY e (f i)=true/\(cA (f i)).all bC=true/\(f i).all V.fc=true):∃ x new,vr w0 (lh++new) Nu.nil (.sl n f) x:=by
 let ⟨x,new,hx⟩:=JQ (e:=e) (n:=n) (f:=f) ⟨n,f,rfl,hn,λi hi=>⟨(YO i hi).1,(YO i hi).2.1⟩,by simp[CQ,cA]⟩ (λi hi=>(YO i hi).2.2) w0 lh
 refine⟨x,new,kJ (λk az ty hk=>?_) _ x hx⟩;rw[JS]at hk;split at hk
 ·rename_i XD;simp at XD;simp[XD]at hk
 ·rename_i Z1;simp at Z1;rw[KM Z1];simpa using hk
end Go.Dx
namespace Go.Dx
open Go.IntKind (i64 u64 u8)
open Go.Sx Go.Proofs
variable (H:Nat) (G:bl) (x0:Int) (s0:ByteArray) (n1:Nat) (f1:bl) (x1 x2:Int) (n3:Nat) (f3:bl) (x3 x4:Int) (Z:Nat) (S:bl) (x7 x8:Int) (T:Nat) (U:bl) (x9:Int) (R:Nat) (O:bl) (XT XC XA:Int)
noncomputable section
def zu:bo:=(56,.con Vv)::(120,.con Io)::(119,.con ybg)::(85,.con NB)::pw
theorem FM:aX Tryz.prog BD CJ zu:=.con ht' (.con ME (.con O4 (.con N4 (nJ))))
inductive sX where|L0 (_:Int) (_:Nat) (_:bl)
def hr3:sX->bV×List AX×Option Ex
 |.L0 X8 Y7 ZY=>([(9,D X8),(8,D (H:Int)),(7,V.sl H (A M G)),(4,V.gs 0 Y7),(1,V.pd [D x2])],[AX.gl 1 Y7 (A M ZY) 3],none)
def aa2:sX->JJ
 |.L0 ..=>(0,[])
def MP:Bj (cN JJ):=Og JJ 1 3 zu u0 ne6 [V.sl H (A M G),V.pd [D x2]]
def AF (cx:List Cx):Lp JJ:=lc (kd (MP H G x2) [])
def acz:JJ->Lp JJ
 |(0,cx)=>AF H G x2 cx|(_,cx)=>AF H G x2 cx
def afq:LD JJ sX:=⟨aa2,acz H G x2,hr3 H G x2⟩
def zR:sX->RT sX
 |.L0 X8 Y7 ZY=>.br (decide (X8<(H:Int))) (.ob (dI X8 H) (.obt (.ob (decide (Y7<=Y7/\(Y7+1)*8<=140737488355328)&&!Nat.beq 8 0) (.next [some (some 2)] (sX.L0 (E (X8+1)) (Y7+1) (dl Y7 (A M ZY) λx=>[D (E (aE (G X8.toNat)*x2))])) [⟨0,M,Y7+1,dl Y7 (A M ZY) λx=>[D (E (aE (G X8.toNat)*x2))],zo (fp rfl _ _) (Sf rfl _ rfl)⟩])))) (.ob (decide (Y7<=Y7)) (.ret (V.sl Y7 (A M ZY))))
def Jg:RT sX:=dm (G,x2) (.am H (.enter [some none] (sX.L0 0 0 (λi=>[])) []))
theorem hh1:gU zu u0 (afq H G x2) (MP H G x2) (Jg H G x2) (zR H G x2):=⟨cD,λs=>by cases s<;>exact cD⟩
def bc (h:Int):Nat->List V:=λi=>[D (E (aE (G i)*h))]
theorem FQ {n:Nat} {f g:bl} (h:∀i,i<n->cA (f i)=cA (g i)):cP (.sl n f)=cP (.sl n g):=by simp only[cP];congr 1;exact Qn λi hi=>by rw[h i (List.mem_range.1 hi)]
theorem hnp {ts:List Ty} {pre:List V->Prop} {r:List V->V} {X4:V->Prop} (hL:∀ds,pre (aw ts ds)->X4 (r (aw ts ds))):∀ds d p r',cG ts pre r ds=some (d,p,r')->d.1=d.2->p->X4 r':=by intro ds d p r' h N Q;simp only[cG,H2,Prod.mk.injEq]at h;obtain⟨rfl,rfl,rfl⟩:=h;rw[(gx ts ds [] [] N).1]at Q ⊢;exact hL ds Q
theorem E8 {a b:Nat} (h:a<b):Nat.blt a b=true:=KW h
theorem Mf {a b:Nat} (h:b<=a):Nat.blt a b=false:=by
 cases hb:Nat.blt a b with
 |false=>rfl|true=>have:=HS hb;omega
theorem aeh (sO:H<=1000):∀ k,k<=H->∀ f:bl,(∀ j,j<k->aw M (f j)=bc G x2 j)->Ev (zR H G x2) (.L0 (k:Int) k f) (.sl H (A M (bc G x2))):=by
 refine gG λk hk ih f hf=>?_;refine Ev.of rfl ?_;by_cases XD:k<H
 ·have fg:E ((k:Int)+1)=((k+1:Nat):Int):=by rw[C4 I I];omega
  refine iY (Cg I) (bf (Cg I) (AY (bf ?_ (b9 ?_))))
  ·simp only[DD];exact⟨Cg ⟨Dm _,I⟩,rfl⟩
  ·rw [fg,Hk]
   refine ih XD _ λj hj=>?_;unfold dl;by_cases pO:j<k
   ·rw[E8 pO];show aw _ (aw _ (f j))=_;rw[ea];exact hf j pO
   ·have:j=k:=by omega
    subst this;rw[Mf (Dm _)];rfl
 ·have e:k=H:=by omega
  subst e;refine ib (fB I) (bf (Cg (Dm _)) (Br ?_));exact FQ λi hi=>by show cA (aw _ (f i))=cA (aw _ (bc G x2 i));rw[hf i hi];rfl
theorem aiH (hp:H<=1000):bj (Ev (zR H G x2)) (Jg H G x2) (.sl H (A M (bc G x2))):=ce λ_=>bm (aeh H G x2 hp 0 (Ho _) _ λj hj=>absurd hj (Ln _))
theorem aaK (hp:H<=1000):bj (Ev (zR H G x2)) (Jg H G x2) (.sl H (A M (bc (A M G) x2))):=aiH H G x2 hp
def hl1:List Ty:=[.sl M,.pd M]
def agA:List V->Prop
 |[.sl H _,.pd [.int _ _]]=>H<=1000|_=>False
def aej:List V->V
 |[.sl H G,.pd [.int _ x2]]=>.sl H (A M (bc G x2))|_=>.any
def BA:aH:=cG hl1 agA aej
theorem uw (f:bl) (h:Int) (i:Nat):lY 1 (A M (bc f h) i)=true/\(cA (A M (bc f h) i)).all bC=true/\(A M (bc f h) i).all V.fc=true:=by refine⟨rfl,?_,rfl⟩;show(cA [D _]).all bC=true;simp only[cA,cP,Ib,bC,List.all_nil,Q9]
theorem EE:∀ds d p r,BA ds=some (d,p,r)->d.1=d.2->p->Su 1 r/\∃n f,r=.sl n f/\∀i,i<n->(f i).all V.fc=true:=hnp (X4:=λr=>Su 1 r/\∃n f,r=.sl n f/\∀i,i<n->(f i).all V.fc=true) λds hp=>by have hp:aL (aI ds)<=1000:=hp;exact⟨⟨_,_,rfl,(by omega:aL (aI ds)<=9223372036854775807),λi hi=>⟨(uw _ _ i).1,(uw _ _ i).2.1⟩,(by simp only[cA,List.all_nil]:(cA []).all bC=true)⟩,_,_,rfl,λi hi=>(uw _ _ i).2.2⟩
theorem GZ:(vL 1 3 BA).Ok Tryz.prog 86:=akW FM Tryz.func86 BF λds hp=>ra (hh1 ..) (aaK _ _ _ hp)
theorem ig7:(vN BA).Ok Tryz.prog 86:=TN GZ EE
theorem alI:∀ds d p r,BA ds=some (d,p,r)->d.1=d.2->p->Od r:=(ajN GZ EE).2
def DR:bo:=(86,.conN BA alI)::zu
theorem Ge:aX Tryz.prog BD CJ DR:=.conN ig7 (FM)
def VL:RT Empty:=.obp (n1<=(1000:Nat)) (.obp (n3<=(1000:Nat)) (.ret (V.agg [V.str s0,V.sl n1 (A M f1),V.sl n3 (A M f3),V.sl Z (A [Ty.sl M] S),D x7,D x8,V.sl n1 (A M (bc (A M f1) x9)),V.sl n3 (A M (bc (A M f3) x9)),D x9])))
theorem hj1:eJ eL (JG JJ DR u0 acD [V.agg [V.str s0,V.sl n1 (A M f1),V.sl n3 (A M f3),V.sl Z (A [Ty.sl M] S),D x7,D x8],D x9]) (VL s0 n1 f1 n3 f3 Z S x7 x8 x9):=cD
theorem Y4 {ct:bo} {f:FuncId} {fn:Func} {sf:aU} {un:kZ} {ts:List Ty} {pre:List V->Prop} {r:List V->V} (hT:aX Tryz.prog BD CJ ct) (hf:Tryz.prog.funcs[f]? = some fn) (hk:PW fn sf ts=(false,some sf,true,true)) (hg:∀ ds,pre (aw ts ds)->cI (r (aw ts ds))) (h:∀ ds,pre (aw ts ds)->P0 ct (JG JJ ct un sf (aw ts ds)) (r (aw ts ds))):(vZ (cG ts pre r)).Ok Tryz.prog f :=
 hc1 (J:=JJ) (un:=un) hT hE hI hf (eP hk).1 (eP hk).2.1 (eP hk).2.2.1 (eP hk).2.2.2 hg λw0 ds hp=>h ds hp hT.dst w0
def yT:List Ty:=[.agg au,tI]
def Uo:List V->Prop
 |[.agg [.str _,.sl n1 _,.sl n3 _,.sl _ _,.int _ _,.int _ _],.int _ _]=>n1<=1000/\n3<=1000|_=>False
def L9:List V->V
 |[.agg [.str s0,.sl n1 f1,.sl n3 f3,.sl Z S,.int k7 x7,.int k8 x8],.int _ x9]=>.agg [.str s0,.sl n1 f1,.sl n3 f3,.sl Z S,.int k7 x7,.int k8 x8,.sl n1 (A M (bc f1 x9)),.sl n3 (A M (bc f3 x9)),D x9]|_=>.any
def IA:aH:=cG yT Uo L9
theorem acv (hp:n1<=1000/\n3<=1000):bj em (VL s0 n1 f1 n3 f3 Z S x7 x8 x9) (.agg [V.str s0,V.sl n1 (A M f1),V.sl n3 (A M f3),V.sl Z (A [Ty.sl M] S),D x7,D x8,V.sl n1 (A M (bc (A M f1) x9)),V.sl n3 (A M (bc (A M f3) x9)),D x9]):=Cv hp.1 (Cv hp.2 (Br rfl))
theorem gw (vs:List V):b8 (aw M vs):=by show b8 [V.int _ _];simp only[b8,cI,MA]
theorem rH (vs:List V):b8 (aw [Ty.sl M] vs):=by show b8 [V.sl (aL (aI vs)) (A M (b7 (aI vs)))];simp only[b8,cI,K9];exact λi hi=>gw _
theorem aiP (ds:List V):cI (L9 (aw yT ds)):=by show cI (.agg [V.str _,V.sl _ (A M _),V.sl _ (A M _),V.sl _ (A [Ty.sl M] _),V.int _ _,V.int _ _,V.sl _ (A M _),V.sl _ (A M _),V.int _ _]);simp only[cI,b8,HJ,K9];exact⟨λi hi=>gw _,λi hi=>gw _,λi hi=>rH _,λi hi=>gw _,λi hi=>gw _⟩
theorem GM:∀ ds d p r,IA ds=some (d,p,r)->d.1=d.2->p->∀ w0 lh args,bp w0 lh Nu.nil ds args->∃ x new,vr w0 (lh++new) Nu.nil r x:=yE (λds Ym hp w0 lh args ha=>by
 have hp:aL (aI (L (du (aI ds))))<=1000/\aL (aI (L (L (du (aI ds)))))<=1000:=hp;change bp w0 lh Nu.nil [V.agg [V.str _,V.sl _ _,V.sl _ _,V.sl _ _,V.int _ _,V.int _ _],V.int _ _] args at ha;simp only[bp]at ha;obtain⟨a,as1,rfl,N,b,bs,rfl,Q,rfl⟩:=ha;rw[vr.eq_5]at N;obtain⟨cs,rfl,N⟩:=N;simp only[bp]at N;obtain⟨c0,_,rfl,g0,c1,_,rfl,g1,c2,_,rfl,g2,c3,_,rfl,g3,c4,_,rfl,g4,c5,_,rfl,g5,rfl⟩:=N;obtain⟨x6,zd,g6⟩:=Dp (w0:=w0) (lh:=lh) (e:=1) (n:=aL (aI (L (du (aI ds))))) (f:=A M (bc (A M (b7 (aI (L (du (aI ds)))))) (aW ds))) I λi hi=>uw _ _ i;obtain⟨x7,x11,wrE⟩:=Dp (w0:=w0) (lh:=lh++zd) (e:=1) (n:=aL (aI (L (L (du (aI ds)))))) (f:=A M (bc (A M (b7 (aI (L (L (du (aI ds))))))) (aW ds))) I λi hi=>uw _ _ i;have z:∀(l t:List av),tf l (l++t):=λl t k as1 ty hk=>by rw[Ht (List.getElem?_eq_some_iff.1 hk).1];exact hk
 have up:∀v a,vr w0 lh Nu.nil v a->vr w0 (lh++(zd++x11)) Nu.nil v a:=λv a h=>kJ (z _ _) v a h;refine⟨.agg [c0,c1,c2,c3,c4,c5,x6,x7,ah.int .i64 (aW ds)],zd++x11,?_⟩;show vr w0 _ Nu.nil (.agg [V.str _,V.sl _ _,V.sl _ _,V.sl _ _,V.int _ _,V.int _ _,V.sl _ _,V.sl _ _,V.int _ _]) _;rw[vr.eq_5];simp only[bp];refine⟨_,rfl,_,_,rfl,up _ _ g0,_,_,rfl,up _ _ g1,_,_,rfl,up _ _ g2,_,_,rfl,up _ _ g3,_,_,rfl,up _ _ g4,_,_,rfl,up _ _ g5,_,_,rfl,?_,_,_,rfl,?_,_,_,rfl,?_,rfl⟩
 ·rw[← QG];exact kJ (z _ _) _ _ g6
 ·rw[← QG];exact wrE
 ·simp only[vr]) rfl
theorem Oj:(vZ IA).Ok Tryz.prog 49:=Y4 Ge Tryz.func49 BF (λds _=>aiP ds) λds hp=>fb (hj1 ..) (acv _ _ _ _ _ _ _ _ _ _ hp)
def uN:bo:=(182,.inl NY u0)::(49,.conZ IA GM)::DR
theorem rR:aX Tryz.prog BD CJ uN:=ij Tryz.func182 BF (.conZ Oj (Ge))
def Vm:RT Empty:=.br (x0 !=x0) (.ob (x0 !=x0) (.ii (.obi (.ret (V.bool (bif !x1 !=x1 then true else decide (x0<x1))))))) (.ret (V.bool (decide (x0<x1))))
theorem alX:eJ eL (bu JJ uN u0 KC [D x0,D x1]) (Vm x0 x1):=cD
def nL:Bool:=bif x0 !=x0 then bif !x1 !=x1 then true else decide (x0<x1) else decide (x0<x1)
def Ef:V:=.bool (nL x0 x1)
theorem hw':bj em (Vm x0 x1) (Ef x0 x1):=Ct (λh0=>bf (by first|assumption|(fail)) (CE (CE (CE (Br (by unfold Ef nL;try rw[h0];rfl)))))) (λh0=>Br (by unfold Ef nL;try rw[h0];rfl))
def VY:aH:=cG cO (λ_=>True) λ|[.int _ x0,.int _ x1]=>Ef x0 x1|_=>.any
theorem id0:dL VY 165:=bH rR λ_ hp=>fb (alX ..) (hw' _ _)
def Vt:RT Empty:=.ret (V.bool (x0 !=x0))
theorem ho1:eJ eL (bu JJ uN u0 Lj [D x0]) (Vt x0):=cD
def mh:Bool:=x0 !=x0
def OW:V:=.bool (mh x0)
theorem abg:bj em (Vt x0) (OW x0):=Br (by unfold OW mh;rfl)
def U2:aH:=cG M (λ_=>True) λ|[.int _ x0]=>OW x0|_=>.any
theorem ih9:dL U2 166:=bH rR λ_ hp=>fb (ho1 ..) (abg _)
def W4:RT Empty:=.cb (.obi (.br (!!aB x0 0 200000) (.ob (!!aB x0 0 200000) (.cb (.obi (.br (!!aB x1 0 600) (.ob (!!aB x1 0 600) (.cb (.ret (V.bool !aB x2 0 1000)))) (.ret (V.kb true)))))) (.ret (V.kb true))))
theorem alW:eJ eL (bu JJ uN u0 Mj [V.agg [D x0,D x1,D x2]]) (W4 x0 x1 x2):=cD
def da:Bool:=bif !!aB x0 0 200000 then bif !!aB x1 0 600 then !aB x2 0 1000 else true else true
def BS:V:=.bool (da x0 x1 x2)
theorem abV:bj em (W4 x0 x1 x2) (BS x0 x1 x2):=aG (AY (CE (Ct (λh0=>bf (by first|assumption|(fail)) (aG (AY (CE (Ct (λN=>bf (by first|assumption|(fail)) (aG (AY (Br (by unfold BS da;try rw[h0];try rw[N];rfl))))) (λN=>Br (by unfold BS da;try rw[h0];try rw[N];rfl))))))) (λh0=>Br (by unfold BS da;try rw[h0];rfl)))))
def UH:aH:=cG [.agg cr] (λ_=>True) λ|[.agg [.int _ x0,.int _ x1,.int _ x2]]=>BS x0 x1 x2|_=>.any
theorem abx:dL UH 46:=bH rR λ_ hp=>fb (alW ..) (abV _ _ _)
def og:Int:=bif !!bh x0 0 200000 then bif !!bh x1 0 600 then bif !bh x2 0 1000 then 7 else 0 else 7 else 7
def eS:Bool:=bh x0 (-200000) 200000
def WM:RT Empty:=.cb (.iv (.br (!!aB x4 1 30000) (.ob (!!aB x4 1 30000) (.ob (!!aB x4 1 30000) (.ob (!!aB x4 1 30000) (.ob (!!aB x4 1 30000) (.cb (.br (!dT 4 (A M (bE [D x0,D x1,D x2,D x3] 0 1)) (-200000) 200000) (.ret (D 7)) (.iv (.obi (.br (bif decide (x1<x0) then true else decide (x3<x2)) (.ret (D 2)) (.ret (D 0))))))))))) (.ret (D 7))))
theorem yaV:eJ eL (bu JJ uN u0 IM [V.agg [D x0,D x1,D x2,D x3],D x4]) (WM x0 x1 x2 x3 x4):=cD
def eR:Int:=bif !!aB x4 1 30000 then bif !dT 4 (A M (bE [D x0,D x1,D x2,D x3] 0 1)) (-200000) 200000 then 7 else bif bif decide (x1<x0) then true else decide (x3<x2) then 2 else 0 else 7
def xF:V:=D (eR x0 x1 x2 x3 x4)
theorem abJ:bj em (WM x0 x1 x2 x3 x4) (xF x0 x1 x2 x3 x4):=aG (AY (CE (CE (CE (CE (Ct (λh0=>bf (by first|assumption|(fail)) (bf (by first|assumption|(fail)) (bf (by first|assumption|(fail)) (bf (by first|assumption|(fail)) (aG (AY (Ct (λN=>Br (by unfold xF eR;try rw[h0];try rw[N];rfl)) (λN=>CE (CE (CE (CE (CE (Ct (λQ=>Br (by unfold xF eR;try rw[h0];try rw[N];try rw[Q];rfl)) (λQ=>Br (by unfold xF eR;try rw[h0];try rw[N];try rw[Q];rfl))))))))))))))) (λh0=>Br (by unfold xF eR;try rw[h0];rfl))))))))
def WB:aH:=cG [.agg lS,tI] (λ_=>True) λ|[.agg [.int _ x0,.int _ x1,.int _ x2,.int _ x3],.int _ x4]=>xF x0 x1 x2 x3 x4|_=>.any
theorem abP:dL WB 47:=bH rR λ_ hp=>fb (yaV ..) (abJ _ _ _ _ _)
def Uk:RT Empty:=dm (s0,n1,f1,n3,f3,Z,S,x7,x8,XT) (.ob (decide ((0:Int)<=0/\0<(T:Int))) (.am T (.ob (dI (E ((T:Int)-1)) T) (.cb (.ii (.obj (aB XC (aE (U 0)) (aE (U (E ((T:Int)-1)).toNat))) (decide ((0:Int)<=0/\0<(R:Int))) (.iv (.asm (aB XC (aE (U 0)) (aE (U (E ((T:Int)-1)).toNat))=true->R<=9223372036854775807) (.ii (.obi (.obj (aB XC (aE (U 0)) (aE (U (E ((T:Int)-1)).toNat))) (dI (E ((R:Int)-1)) R) (.obi (.br (aB XC (aE (U 0)) (aE (U (E ((T:Int)-1)).toNat))) (.ob (aB XC (aE (U 0)) (aE (U (E ((T:Int)-1)).toNat))) (.ob (aB XC (aE (U 0)) (aE (U (E ((T:Int)-1)).toNat))) (.ob (aB XC (aE (U 0)) (aE (U (E ((T:Int)-1)).toNat))) (.cb (.ret (V.bool (aB XA (aE (O 0)) (aE (O (E ((R:Int)-1)).toNat))))))))) (.ret (V.kb false)))))))))))))))
theorem hpm:eJ eL (bu JJ uN u0 JC [V.agg [V.str s0,V.sl n1 (A M f1),V.sl n3 (A M f3),V.sl Z (A [Ty.sl M] S),D x7,D x8,V.sl T (A M U),V.sl R (A M O),D XT],D XC,D XA]) (Uk s0 n1 f1 n3 f3 Z S x7 x8 T U R O XT XC XA):=cD
def bb:Bool:=bif aB XC (aE (U 0)) (aE (U (E ((T:Int)-1)).toNat)) then aB XA (aE (O 0)) (aE (O (E ((R:Int)-1)).toNat)) else false
def FP:V:=dm (s0,n1,f1,n3,f3,Z,S,x7,x8,XT) (.bool (bb T U R O XC XA))
theorem abA (hp:(1<=T/\T<=1000)/\(1<=R/\R<=1000)):bj em (Uk s0 n1 f1 n3 f3 Z S x7 x8 T U R O XT XC XA) (FP s0 n1 f1 n3 f3 Z S x7 x8 T U R O XT XC XA):=bf (by first|assumption|((first|exact Cg I|(rw[C4 I I];exact Cg I)))) (H1 (λa0=>bf (by first|assumption|((first|exact Cg I|(rw[C4 I I];exact Cg I)))) (aG (AY (CE (CE (jy (by first|assumption|((intro _;(first|exact Cg I|(rw[C4 I I];exact Cg I))))) (CE (CE (CE (CE (H1 (λa0=>CE (CE (CE (jy (by first|assumption|((intro _;(first|exact Cg I|(rw[C4 I I];exact Cg I))))) (CE (Ct (λh0=>bf (by first|assumption|((first|exact Cg I|(rw[C4 I I];exact Cg I)))) (bf (by first|assumption|((first|exact Cg I|(rw[C4 I I];exact Cg I)))) (bf (by first|assumption|((first|exact Cg I|(rw[C4 I I];exact Cg I)))) (aG (AY (Br (by unfold FP bb;try rw[h0];rfl))))))) (λh0=>Br (by unfold FP bb;try rw[h0];rfl))))))))))))))))))))
def WW:aH:=cG [.agg [.str,.sl M,.sl M,.sl [.sl M],tI,tI,.sl M,.sl M,tI],tI,tI] (λ
 |[.agg [.str s0,.sl n1 f1,.sl n3 f3,.sl Z S,.int _ x7,.int _ x8,.sl T U,.sl R O,.int _ XT],.int _ XC,.int _ XA]=>(1<=T/\T<=1000)/\(1<=R/\R<=1000)|_=>False) λ
 |[.agg [.str s0,.sl n1 f1,.sl n3 f3,.sl Z S,.int _ x7,.int _ x8,.sl T U,.sl R O,.int _ XT],.int _ XC,.int _ XA]=>FP s0 n1 f1 n3 f3 Z S x7 x8 T U R O XT XC XA|_=>.any
theorem ris:dL WW 90:=bH rR λ_ hp=>fb (hpm ..) (abA _ _ _ _ _ _ _ _ _ _ _ _ _ _ _ _ hp)
end
end Go.Dx
namespace Go.Dx
noncomputable section
theorem aeI {a b:Bool} (h:(a&&b)=true):a=true:=by cases a<;>simp_all
theorem ago {a b:Bool} (h:(a&&b)=true):b=true:=by cases a<;>simp_all
end
end Go.Dx
namespace Go.Dx
open Go.IntKind (i64 u64 u8)
open Go.Sx Go.Proofs
variable (H:Nat) (G:bl) (x0:Int) (s0:ByteArray) (n1:Nat) (f1:bl) (x1:Int) (s1:ByteArray) (q:Nat) (W:bl) (x2:Int) (n3:Nat) (f3:bl) (x3:Int) (n4:Nat) (f4:bl) (x4:Int) (Z:Nat) (S:bl) (n6:Nat) (f6:bl) (x7 x8:Int) (T:Nat) (U:bl) (x9:Int) (cv:Nat) (bK:bl) (R:Nat) (O:bl) (Z7:Nat) (Yd:bl) (XT XC XA XF:Int)
noncomputable section
def xq:bo:=(165,.con VY)::(166,.con U2)::(46,.con UH)::(47,.con WB)::(90,.con WW)::uN
theorem Sc:aX Tryz.prog BD CJ xq:=.con id0 (.con ih9 (.con abx (.con abP (.con ris (rR)))))
def q9:Int:=bif !!bh x4 1 30000 then bif !!eS x0 then bif !!eS x1 then bif !!eS x2 then bif !eS x3 then 7 else bif bif decide (x1<x0) then true else decide (x3<x2) then 2 else 0 else 7 else 7 else 7 else 7
inductive qT where|L0 (_ _:Int)
def h24:qT->bV×List AX×Option Ex
 |.L0 X8 Y1=>([(8,D X8),(7,D Y1),(6,D (H:Int)),(0,V.sl H (A M G)),(1,D x2)],[],none)
def aas:qT->JJ
 |.L0 ..=>(0,[])
def N5:Bj (cN JJ):=bu JJ xq u0 Lw [V.sl H (A M G),D x2]
def An (cx:List Cx):Lp JJ:=lc (kd (N5 H G x2) [])
def ack:JJ->Lp JJ
 |(0,cx)=>An H G x2 cx|(_,cx)=>An H G x2 cx
def aer:LD JJ qT:=⟨aas,ack H G x2,h24 H G x2⟩
def vC:qT->RT qT
 |.L0 X8 Y1=>.br (decide (Y1<X8)) (.obt (.ob (dI (E ((u64.wrap (E (Y1+X8))).fdiv (2 ^ 1))) H) (.cb (.br (nL (aE (G (E ((u64.wrap (E (Y1+X8))).fdiv (2 ^ 1))).toNat)) x2) (.next [] (qT.L0 X8 (E (E ((u64.wrap (E (Y1+X8))).fdiv (2 ^ 1))+1))) []) (.next [] (qT.L0 (E ((u64.wrap (E (Y1+X8))).fdiv (2 ^ 1))) Y1) []))))) (.ii (.obj (decide (Y1<(H:Int))) (dI Y1 H) (.iv (.ii (.obj (decide (Y1<(H:Int))&&!aE (G Y1.toNat)==x2) (dI Y1 H) (.obi (.br (decide (Y1<(H:Int))&&!aE (G Y1.toNat)==x2) (.ob (decide (Y1<(H:Int))&&!aE (G Y1.toNat)==x2) (.cb (.br (mh (aE (G Y1.toNat))) (.ob (mh (aE (G Y1.toNat))) (.cb (.obi (.ret (V.tup [D Y1,V.bool (bif decide (Y1<(H:Int)) then mh x2 else false)]))))) (.obi (.ret (V.tup [D Y1,V.bool (bif decide (Y1<(H:Int)) then false else false)])))))) (.obi (.obj (decide (Y1<(H:Int))&&!aE (G Y1.toNat)==x2) (false) (.ii (.br (aE (G Y1.toNat)==x2) (.obi (.ret (V.tup [D Y1,V.bool (bif decide (Y1<(H:Int)) then true else false)]))) (.obi (.bry (decide (Y1<(H:Int))) (.ret (V.tup [D Y1,V.kb false])))))))))))))))
def KJ:RT qT:=dm (G,x2) (.am H (.enter [] (qT.L0 ((H:Int)) 0) []))
theorem hoi:gU xq u0 (aer H G x2) (N5 H G x2) (KJ H G x2) (vC H G x2):=⟨cD,λs=>by cases s<;>exact cD⟩
def B7 (f:Nat->Int) (t:Int):Nat->Nat->Nat->Nat
 |0,i,_=>i|d+1,i,j=>bif Nat.blt i j then bif decide (f ((i+j) / 2)<t) then B7 f t d ((i+j) / 2+1) j else B7 f t d i ((i+j) / 2) else i
def Nf:Nat:=B7 (λk=>aE (G k)) x2 H 0 H
def iG (H:Nat) (G:bl) (x2:Int):Int:=(Nf H G x2:Int)
def jB (H:Nat) (G:bl) (x2:Int):Bool:=bif decide ((Nf H G x2:Int)<(H:Int)) then aE (G (Nf H G x2))==x2 else false
theorem ahY {i j:Nat} (h:i+j<=2000):E ((u64.wrap (E ((i:Int)+(j:Int)))).fdiv (2 ^ 1))=(((i+j) / 2:Nat):Int):=by
 rw[C4 (x:=(i:Int)+(j:Int)) I I];have:u64.wrap ((i:Int)+(j:Int))=(i:Int)+(j:Int):=by simp only[IntKind.wrap,IntKind.bits,IntKind.signed,Bool.false_and];rw[Ck aD];omega
 rw[this,Int.fdiv_eq_ediv_of_nonneg _ aA,C4 I I];omega
theorem ad4 (x:Int):mh x=false:=by unfold mh;simp
theorem ahd {b:Bool} (h:(!b)=true):b=false:=by cases b<;>first|rfl|cases h
theorem acT (x At:Int):nL x At=decide (x<At):=by unfold nL;simp
theorem ahC (hn:H<=1000):∀ d i j:Nat,j-i<=d->i<=j->j<=H->B7 (λk=>aE (G k)) x2 d i j=Nf H G x2->Ev (vC H G x2) (.L0 (j:Int) (i:Int)) (.tup [D (iG H G x2),.bool (jB H G x2)]):=by
 intro d;have exit:∀ i j:Nat,j<=i->j<=H->i<=j->i=Nf H G x2->Ev (vC H G x2) (.L0 (j:Int) (i:Int)) (.tup [D (iG H G x2),.bool (jB H G x2)]):=by
  intro i j N Q h3 e;refine Ev.of rfl (ib (fB I) ?_);refine CE (CE (jy (λh=>Cg (by have:=HT h;omega)) ?_));refine CE (CE (CE (CE (CE (CE (jy (λh=>Cg (by have:=HT (aeI h);omega)) (CE ?_)))))));have XX:∀b,b=jB H G x2->cP (V.tup [D (i:Int),V.bool b])=cP (V.tup [D (iG H G x2),V.bool (jB H G x2)]):=λb hb=>by unfold iG;rw[← e,hb]
  have Ya:jB H G x2=bif decide ((i:Int)<(H:Int)) then aE (G i)==x2 else false:=by unfold jB;rw[← e]
  rw[Hk];refine Ct (λh=>bf h (aG (AY (ib (ad4 _) (CE (Br (XX _ ?_))))))) (λh=>?_)
  ·rw[Ya,show(aE (G i)==x2)=false from ahd (ago h)]
  ·refine CE (jy (λh'=>absurd (h'.symm.trans h) aA) (CE (CE (Ct (λQ=>CE (Br (XX _ ?_))) (λQ=>?_)))))
   ·rw[Ya,show(aE (G i)==x2)=true from Q]
   ·have h3:decide ((i:Int)<(H:Int))=false:=by
     cases hd:decide ((i:Int)<(H:Int)) with
     |false=>rfl|true=>rw[hd,Q]at h;cases h
    refine CE (agu h3 (Br ?_));exact XX false (by rw[Ya,h3];rfl)
 induction d with
 |zero=>intro i j N Q h3 e;exact exit i j I h3 Q e
 |succ d ih=>
   intro i j N Q h3 e;by_cases XD:i<j
   ·refine Ev.of rfl (iY (Cg I) (AY ?_))
    rw[ahY I,Hk,acT];refine bf (Cg I) (aG (AY (Ct (λh=>b9 ?_) (λh=>b9 ?_))))
    ·have e':B7 (λk=>aE (G k)) x2 d ((i+j) / 2+1) j=Nf H G x2:=by
      rw[← e];show _=bif Nat.blt i j then _ else _
      rw[E8 XD,h];rfl
     have:=ih ((i+j) / 2+1) j I I h3 e';rwa [show E ((((i+j) / 2:Nat):Int)+1)=(((i+j) / 2+1:Nat):Int) by rw[C4 I I];omega]
    ·have e':B7 (λk=>aE (G k)) x2 d i ((i+j) / 2)=Nf H G x2:=by
      rw[← e];show _=bif Nat.blt i j then _ else _
      rw[E8 XD,h];rfl
     exact ih i ((i+j) / 2) I I I e'
   ·refine exit i j I h3 Q ?_
    rw[← e];show _=bif Nat.blt i j then _ else _
    rw[Mf I];rfl
theorem aiJ (hp:H<=1000):bj (Ev (vC H G x2)) (KJ H G x2) (.tup [D (iG H G x2),.bool (jB H G x2)]):=ce λ_=>bm (ahC H G x2 hp H 0 H I (Ho _) (Dm _) rfl)
theorem ic5 (hp:H<=1000):bj (Ev (vC H G x2)) (KJ H G x2) (.tup [D (iG H (A M G) x2),.bool (jB H (A M G) x2)]):=aiJ H G x2 hp
def Xq:aH:=cG [.sl M,tI] (λ
 |[.sl H G,.int _ x2]=>H<=1000|_=>False) λ
 |[.sl H G,.int _ x2]=>.tup [D (iG H G x2),.bool (jB H G x2)]|_=>.any
theorem aae:dL Xq 150:=bH Sc λ_ hp=>ra (hoi ..) (ic5 _ _ _ hp)
inductive su where|L0 (_ _ _:Int)
def he1 (x0 x1:Int) (q:Nat) (W:bl):su->bV×List AX×Option Ex
 |.L0 X8 Y1 Yi=>([(9,D X8),(8,D (q:Int)),(7,V.sl q (A cO W)),(4,V.pl 0 0),(2,V.pl 1 0)],[AX.cells JK 40,AX.cells [D Y1,D Yi] 40],none)
def ix2:su->JJ
 |.L0 ..=>(0,[])
def Mk:Bj (cN JJ):=bu JJ xq u0 gW [V.agg [D x0,D x1],V.sl q (A cO W)]
def Ae (cx:List Cx):Lp JJ:=lc (kd (Mk x0 x1 q W) [])
def hvj:JJ->Lp JJ
 |(0,cx)=>Ae x0 x1 q W cx|(_,cx)=>Ae x0 x1 q W cx
def afg:LD JJ su:=⟨ix2,hvj x0 x1 q W,he1 x0 x1 q W⟩
def yG (x0 x1:Int) (q:Nat) (W:bl):su->RT su
 |.L0 X8 Y1 Yi=>.br (decide (X8<(q:Int))) (.ob (dI X8 q) (.next Pz (su.L0 (E (X8+1)) (min Y1 (aE (W X8.toNat))) (max Yi (aW (W X8.toNat)))) [])) (.ret (V.agg [D Y1,D Yi]))
def Ir:RT su:=dm W (.am q (.enter [some (some 1),some (some 0)] (su.L0 0 x0 x1) []))
theorem hbw:gU xq u0 (afg x0 x1 q W) (Mk x0 x1 q W) (Ir x0 x1 q W) (yG x0 x1 q W):=⟨cD,λs=>by cases s<;>exact cD⟩
def dM:Int:=OY (λi=>aE (W i)) x0 q
def dN:Int:=tq (λi=>aW (W i)) x1 q
theorem ajU:bj (Ev (yG x0 x1 q W)) (Ir x0 x1 q W) (.agg [D (dM x0 q W),D (dN x1 q W)]):=by refine ce λhn=>bm ?_;refine Tv hn (P:=λx=>Ev (yG x0 x1 q W) (.L0 x (OY (λi=>aE (W i)) x0 x.toNat) (tq (λi=>aW (W i)) x1 x.toNat)) (.agg [D (dM x0 q W),D (dN x1 q W)])) (λi XD nx=>?_) (Ev.of rfl (jW (Br rfl)));rw[show(E ((i:Int)+1)).toNat=i+1 by rw[uV XD hn];rfl]at nx;exact Ev.of rfl (kO XD (il XD (b9 nx)))
theorem ng2:bj (Ev (yG x0 x1 q W)) (Ir x0 x1 q W) (.agg [D (dM x0 q (A cO W)),D (dN x1 q (A cO W))]):=ajU x0 x1 q W
def UR:aH:=cG [.agg cO,.sl cO] (λ_=>True) λ|[.agg [.int _ x0,.int _ x1],.sl q W]=>.agg [D (dM x0 q W),D (dN x1 q W)]|_=>.any
theorem ia0:dL UR 87:=bH Sc λ_ hp=>ra (hbw ..) (ng2 _ _ _ _)
section
variable (H:Nat) (G:bl) (x2 x3 x4:Int) (hn:H<=1000)
include hn
end
def E0:bo:=(150,.con Xq)::(87,.con UR)::xq
theorem CU:aX Tryz.prog BD CJ E0:=.con aae (.con ia0 (Sc))
def Xa:RT Empty:=.obp (H<=(1000:Nat)) (.obt (.am H (.ret (D (max 0 (min (E (iG H (A M G) (E (x2+1))-1)) (E ((H:Int)-2))))))))
theorem hn':eJ eL (bu JJ E0 u0 pB [V.sl H (A M G),D x2]) (Xa H G x2):=cD
def aS:Int:=max 0 (min (E (iG H (A M G) (E (x2+1))-1)) (E ((H:Int)-2)))
def J8:V:=D (aS H G x2)
theorem abr (hp:H<=1000):bj em (Xa H G x2) (J8 H G x2):=Cv (by first|assumption|(exact hp)) (AY (H1 (λa0=>Br (by unfold J8 aS;rfl))))
def Wn:aH:=cG [.sl M,tI] (λ
 |[.sl H G,.int _ x2]=>H<=1000|_=>False) λ
 |[.sl H G,.int _ x2]=>J8 H G x2|_=>.any
theorem ih0:dL Wn 117:=bH CU λ_ hp=>fb (hn' ..) (abr _ _ _ hp)
def Cq (x0:Int) (n6:Nat) (f6:bl) (Z7:Nat) (Yd:bl) (XA:Int):Prop:=(0<=x0/\x0<(n6:Int))/\(0<=XA/\XA+1<(aL (aI (f6 x0.toNat)):Int)/\XA+1<(Z7:Int)/\Z7<=1000)/\E (aE (Yd (XA+1).toNat)-aE (Yd XA.toNat))≠0
theorem Cq.w {x0:Int} {n6:Nat} {f6:bl} {Z7:Nat} {Yd:bl} {XA:Int} (h:Cq x0 n6 f6 Z7 Yd XA):E (XA+1)=XA+1:=by obtain⟨_,Q,_⟩:=h;exact C4 I I
def UU:RT Empty:=dm (s1,q,W,n4,f4,x8,x9,cv,bK,XC) (.ob (dI x0 n6) (.ob (decide (0<=XA/\XA<(↑(aL (aI (f6 x0.toNat))):Int))) (.cb (.ob (decide (0<=E (XA+1)/\E (XA+1)<(↑(aL (aI (f6 x0.toNat))):Int))) (.cb (.ob (dI XA Z7) (.ob (dI (E (XA+1)) Z7) (.obp (E (aE (Yd (E (XA+(1:Int))).toNat)-aE (Yd XA.toNat))=(0:Int)->False) (.obt (.ret (V.agg [D (gz (aE (b7 (aI (f6 x0.toNat)) XA.toNat)) (aE (b7 (aI (f6 x0.toNat)) (E (XA+1)).toNat)) (aE (Yd XA.toNat)) (aE (Yd (E (XA+1)).toNat)) XF),D (eM (aE (b7 (aI (f6 x0.toNat)) XA.toNat)) (aE (b7 (aI (f6 x0.toNat)) (E (XA+1)).toNat)) (aE (Yd XA.toNat)) (aE (Yd (E (XA+1)).toNat)) XF)])))))))))))
theorem hbl:eJ eL (bu JJ E0 u0 l8 [D x0,V.pd [V.str s1,V.sl q (A M W),V.sl n4 (A M f4),V.sl n6 (A [Ty.sl M] f6),D x8,D x9,V.sl cv (A M bK),V.sl Z7 (A M Yd),D XC],V.pd [D XA],V.pd [D XF]]) (UU x0 s1 q W n4 f4 n6 f6 x8 x9 cv bK Z7 Yd XC XA XF):=cD
def ga:Int:=gz (aE (b7 (aI (f6 x0.toNat)) XA.toNat)) (aE (b7 (aI (f6 x0.toNat)) (E (XA+1)).toNat)) (aE (Yd XA.toNat)) (aE (Yd (E (XA+1)).toNat)) XF
def eN:Int:=eM (aE (b7 (aI (f6 x0.toNat)) XA.toNat)) (aE (b7 (aI (f6 x0.toNat)) (E (XA+1)).toNat)) (aE (Yd XA.toNat)) (aE (Yd (E (XA+1)).toNat)) XF
def Oz:V:=dm (s1,q,W,n4,f4,n6,x8,x9,cv,bK,Z7,XC) (.agg [D (ga x0 f6 Yd XA XF),D (eN x0 f6 Yd XA XF)])
theorem abM (hp:Cq x0 n6 f6 Z7 Yd XA):bj em (UU x0 s1 q W n4 f4 n6 f6 x8 x9 cv bK Z7 Yd XC XA XF) (Oz x0 s1 q W n4 f4 n6 f6 x8 x9 cv bK Z7 Yd XC XA XF):=bf (by first|assumption|((try rw[hp.w]);exact Cg (by obtain⟨N,Q,h3⟩:=hp;omega))) (bf (by first|assumption|((try rw[hp.w]);exact Cg (by obtain⟨N,Q,h3⟩:=hp;omega))) (aG (AY (bf (by first|assumption|((try rw[hp.w]);exact Cg (by obtain⟨N,Q,h3⟩:=hp;omega))) (aG (AY (bf (by first|assumption|((try rw[hp.w]);exact Cg (by obtain⟨N,Q,h3⟩:=hp;omega))) (bf (by first|assumption|((try rw[hp.w]);exact Cg (by obtain⟨N,Q,h3⟩:=hp;omega))) (Cv (by first|assumption|((rw[hp.w];exact hp.2.2))) (AY (Br (by unfold Oz ga eN;rfl))))))))))))
def WK:aH:=cG [tI,.pd [.str,.sl M,.sl M,.sl [.sl M],tI,tI,.sl M,.sl M,tI],.pd M,.pd M] (λ
 |[.int _ x0,.pd [.str s1,.sl q W,.sl n4 f4,.sl n6 f6,.int _ x8,.int _ x9,.sl cv bK,.sl Z7 Yd,.int _ XC],.pd [.int _ XA],.pd [.int _ XF]]=>Cq x0 n6 f6 Z7 Yd XA|_=>False) λ
 |[.int _ x0,.pd [.str s1,.sl q W,.sl n4 f4,.sl n6 f6,.int _ x8,.int _ x9,.sl cv bK,.sl Z7 Yd,.int _ XC],.pd [.int _ XA],.pd [.int _ XF]]=>Oz x0 s1 q W n4 f4 n6 f6 x8 x9 cv bK Z7 Yd XC XA XF|_=>.any
theorem ovH:dL WK 118:=bH CU λ_ hp=>fb (hbl ..) (abM _ _ _ _ _ _ _ _ _ _ _ _ _ _ _ _ _ hp)
def Iq:bo:=(117,.con Wn)::(118,.con WK)::E0
theorem MQ:aX Tryz.prog BD CJ Iq:=.con ih0 (.con ovH (CU))
def mt:Prop:=(2<=T/\T<=1000)/\(2<=R/\R<=1000)/\(T<=Z)/\(∀i:Nat,i<Z->R<=aL (aI (S i)))/\(∀i:Nat,i+1<T->E (aE (U (i+1))-aE (U i))≠0)/\(∀i:Nat,i+1<R->E (aE (O (i+1))-aE (O i))≠0)
theorem mt.a {Z:Nat} {S:bl} {T:Nat} {U:bl} {R:Nat} {O:bl} (h:mt Z S T U R O):2<=T/\T<=1000:=h.1
theorem mt.b {Z:Nat} {S:bl} {T:Nat} {U:bl} {R:Nat} {O:bl} (h:mt Z S T U R O):2<=R/\R<=1000:=h.2.1
theorem mt.c {Z:Nat} {S:bl} {T:Nat} {U:bl} {R:Nat} {O:bl} (h:mt Z S T U R O):T<=Z:=h.2.2.1
theorem mt.d {Z:Nat} {S:bl} {T:Nat} {U:bl} {R:Nat} {O:bl} (h:mt Z S T U R O):∀i:Nat,i<Z->R<=aL (aI (S i)):=h.2.2.2.1
theorem mt.e {Z:Nat} {S:bl} {T:Nat} {U:bl} {R:Nat} {O:bl} (h:mt Z S T U R O):∀i:Nat,i+1<T->E (aE (U (i+1))-aE (U i))≠0:=h.2.2.2.2.1
theorem mt.g {Z:Nat} {S:bl} {T:Nat} {U:bl} {R:Nat} {O:bl} (h:mt Z S T U R O):∀i:Nat,i+1<R->E (aE (O (i+1))-aE (O i))≠0:=h.2.2.2.2.2
theorem oZ {n:Nat} (f:bl) (x:Int) (h:2<=n/\n<=1000):0<=aS n f x/\aS n f x+1<(n:Int):=by unfold aS;rw[C4 (x:=(n:Int)-2) I I];generalize E _=X1;omega
section
variable {Z:Nat} {S:bl} {T:Nat} {U:bl} {R:Nat} {O:bl} (hp:mt Z S T U R O) (XC XA:Int)
include hp
theorem SY:E (aS T (A M U) XC+1)=aS T (A M U) XC+1:=by have:=oZ (A M U) XC hp.a;have:=hp.a;exact C4 I I
theorem TK (At:Int) (h:0<=At/\At<(T:Int)):Cq At Z S R O (aS R (A M O) XA):=by have X1:=oZ (A M O) XA hp.b;have hb:=hp.b;have hc:=hp.c;have hd:=hp.d At.toNat I;have hg:=hp.g (aS R (A M O) XA).toNat I;refine⟨I,⟨X1.1,I,X1.2,I⟩,?_⟩;rw[show(aS R (A M O) XA+1).toNat=(aS R (A M O) XA).toNat+1 by omega];exact hg
theorem xB:Cq (aS T (A M U) XC) Z S R O (aS R (A M O) XA):=by have p:=oZ (A M U) XC hp.a;exact TK hp XA _ I
theorem xL:Cq (E (aS T (A M U) XC+1)) Z S R O (aS R (A M O) XA):=by have p:=oZ (A M U) XC hp.a;rw[SY hp];exact TK hp XA _ I
theorem Tq:decide (0<=aS T (A M U) XC/\aS T (A M U) XC<(T:Int))=true:=by have p:=oZ (A M U) XC hp.a;exact Cg I
theorem Tn:decide (0<=E (aS T (A M U) XC+1)/\E (aS T (A M U) XC+1)<(T:Int))=true:=by have p:=oZ (A M U) XC hp.a;rw[SY hp];exact Cg I
theorem Pt:E (aE (U (E (aS T (A M U) XC+1)).toNat)-aE (U (aS T (A M U) XC).toNat))≠0:=by have p:=oZ (A M U) XC hp.a;rw[SY hp,show(aS T (A M U) XC+1).toNat=(aS T (A M U) XC).toNat+1 by omega];exact hp.e _ I
theorem Ik:(1<=T/\T<=1000)/\1<=R/\R<=1000:=by have:=hp.a;have:=hp.b;omega
end
def Xc:RT Empty:=dm (s0,n1,f1,n3,f3,x8,XT) (.obp (((1:Nat)<=T/\T<=(1000:Nat))/\(1:Nat)<=R/\R<=(1000:Nat)) (.obt (.br (!bb T (A M U) R (A M O) XC XA) (.ret (V.agg [D 0,D x7])) (.obp (T<=(1000:Nat)) (.obt (.obp (R<=(1000:Nat)) (.obt (.obp (((0:Int)<=aS T (A M U) XC/\aS T (A M U) XC<(Z:Int))/\((0:Int)<=aS R (A M O) XA/\aS R (A M O) XA+(1:Int)<(↑(aL (aI (S (aS T (A M U) XC).toNat))):Int)/\aS R (A M O) XA+(1:Int)<(R:Int)/\R<=(1000:Nat))/\E (aE (O (aS R (A M O) XA+(1:Int)).toNat)-aE (O (aS R (A M O) XA).toNat))≠(0:Int)) (.obt (.obp (((0:Int)<=E (aS T (A M U) XC+(1:Int))/\E (aS T (A M U) XC+(1:Int))<(Z:Int))/\((0:Int)<=aS R (A M O) XA/\aS R (A M O) XA+(1:Int)<(↑(aL (aI (S (E (aS T (A M U) XC+(1:Int))).toNat))):Int)/\aS R (A M O) XA+(1:Int)<(R:Int)/\R<=(1000:Nat))/\E (aE (O (aS R (A M O) XA+(1:Int)).toNat)-aE (O (aS R (A M O) XA).toNat))≠(0:Int)) (.obt (.ob (dI (aS T (A M U) XC) T) (.ob (dI (E (aS T (A M U) XC+1)) T) (.obp (E (aE (U (E (aS T (A M U) XC+(1:Int))).toNat)-aE (U (aS T (A M U) XC).toNat))=(0:Int)->False) (.obt (.ret (V.agg [D (gz (ga (aS T (A M U) XC) (A [Ty.sl M] S) (A M O) (aS R (A M O) XA) XA) (ga (E (aS T (A M U) XC+1)) (A [Ty.sl M] S) (A M O) (aS R (A M O) XA) XA) (aE (U (aS T (A M U) XC).toNat)) (aE (U (E (aS T (A M U) XC+1)).toNat)) XC),D (eM (eN (aS T (A M U) XC) (A [Ty.sl M] S) (A M O) (aS R (A M O) XA) XA) (eN (E (aS T (A M U) XC+1)) (A [Ty.sl M] S) (A M O) (aS R (A M O) XA) XA) (aE (U (aS T (A M U) XC).toNat)) (aE (U (E (aS T (A M U) XC+1)).toNat)) XC)])))))))))))))))))
theorem fc7:eJ eL (bu JJ Iq u0 ny [V.agg [V.str s0,V.sl n1 (A M f1),V.sl n3 (A M f3),V.sl Z (A [Ty.sl M] S),D x7,D x8,V.sl T (A M U),V.sl R (A M O),D XT],D XC,D XA]) (Xc s0 n1 f1 n3 f3 Z S x7 x8 T U R O XT XC XA):=cD
def aY:Int:=bif !bb T (A M U) R (A M O) XC XA then 0 else gz (ga (aS T (A M U) XC) (A [Ty.sl M] S) (A M O) (aS R (A M O) XA) XA) (ga (E (aS T (A M U) XC+1)) (A [Ty.sl M] S) (A M O) (aS R (A M O) XA) XA) (aE (U (aS T (A M U) XC).toNat)) (aE (U (E (aS T (A M U) XC+1)).toNat)) XC
def aZ:Int:=bif !bb T (A M U) R (A M O) XC XA then x7 else eM (eN (aS T (A M U) XC) (A [Ty.sl M] S) (A M O) (aS R (A M O) XA) XA) (eN (E (aS T (A M U) XC+1)) (A [Ty.sl M] S) (A M O) (aS R (A M O) XA) XA) (aE (U (aS T (A M U) XC).toNat)) (aE (U (E (aS T (A M U) XC+1)).toNat)) XC
def D9:V:=dm (s0,n1,f1,n3,f3,Z,x8,XT) (.agg [D (aY S T U R O XC XA),D (aZ S x7 T U R O XC XA)])
theorem acU (hp:mt Z S T U R O):bj em (Xc s0 n1 f1 n3 f3 Z S x7 x8 T U R O XT XC XA) (D9 s0 n1 f1 n3 f3 Z S x7 x8 T U R O XT XC XA):=Cv (by first|assumption|(first|exact hp.a.2|exact hp.b.2|exact Ik hp|exact Pt hp XC|exact xB hp XC XA|exact xL hp XC XA)) (AY (Ct (λh0=>Br (by unfold D9 aY aZ;try rw[h0];rfl)) (λh0=>Cv (by first|assumption|(first|exact hp.a.2|exact hp.b.2|exact Ik hp|exact Pt hp XC|exact xB hp XC XA|exact xL hp XC XA)) (AY (Cv (by first|assumption|(first|exact hp.a.2|exact hp.b.2|exact Ik hp|exact Pt hp XC|exact xB hp XC XA|exact xL hp XC XA)) (AY (Cv (by first|assumption|(first|exact hp.a.2|exact hp.b.2|exact Ik hp|exact Pt hp XC|exact xB hp XC XA|exact xL hp XC XA)) (AY (Cv (by first|assumption|(first|exact hp.a.2|exact hp.b.2|exact Ik hp|exact Pt hp XC|exact xB hp XC XA|exact xL hp XC XA)) (AY (bf (by first|assumption|(first|exact Tq hp XC|exact Tn hp XC)) (bf (by first|assumption|(first|exact Tq hp XC|exact Tn hp XC)) (Cv (by first|assumption|(first|exact hp.a.2|exact hp.b.2|exact Ik hp|exact Pt hp XC|exact xB hp XC XA|exact xL hp XC XA)) (AY (Br (by unfold D9 aY aZ;try rw[h0];rfl))))))))))))))))
def V0:aH:=cG [.agg [.str,.sl M,.sl M,.sl [.sl M],tI,tI,.sl M,.sl M,tI],tI,tI] (λ
 |[.agg [.str s0,.sl n1 f1,.sl n3 f3,.sl Z S,.int _ x7,.int _ x8,.sl T U,.sl R O,.int _ XT],.int _ XC,.int _ XA]=>mt Z S T U R O|_=>False) λ
 |[.agg [.str s0,.sl n1 f1,.sl n3 f3,.sl Z S,.int _ x7,.int _ x8,.sl T U,.sl R O,.int _ XT],.int _ XC,.int _ XA]=>D9 s0 n1 f1 n3 f3 Z S x7 x8 T U R O XT XC XA|_=>.any
theorem hv':dL V0 88:=bH MQ λ_ hp=>fb (fc7 ..) (acU _ _ _ _ _ _ _ _ _ _ _ _ _ _ _ _ hp)
end
end Go.Dx
