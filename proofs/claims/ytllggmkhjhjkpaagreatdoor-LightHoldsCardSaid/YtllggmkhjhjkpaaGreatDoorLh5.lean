/- Part 5 of a proof. No conditions. -/
import Derived.Test.YtllggmkhjhjkpaaGreatDoorLh4
set_option maxRecDepth 100000
set_option linter.unusedVariables false
set_option linter.unusedSimpArgs false
namespace Go.Dx
open Go.IntKind (i64 u64 u8)
open Go.Sx Go.Proofs
variable (H:Nat) (G:bk) (R:Int) (s0:ByteArray) (n1:Nat) (f1:bk) (S:Int) (T:Nat) (Q:bk) (Z:Int) (n3:Nat) (f3:bk) (x3:Int) (n4:Nat) (f4:bk) (O:Int) (n5:Nat) (f5:bk) (x5 x6 x7 x8 x9 Ql Qn RI:Int)
noncomputable section
def J2:bm:=(148,.inl agH u0)::(164,.inl adv u0)::(149,.inl ahw u0)::(141,.inl ahF u0)::(162,.inl afv u0)::(143,.inl ahu u0)::(114,.con abx)::Nv
theorem Sb:aV Tryz.prog BN D7 J2:=iB Tryz.func148 bw (iB Tryz.func164 bw (iB Tryz.func149 bw (iB Tryz.func141 bw (iB Tryz.func162 bw (iB Tryz.func143 bw (.con acP (ybh)))))))
inductive o6 where|L0 (_:Int)|L2 (_ _:Int) (_:Nat) (_:ByteArray) (_:Nat) (_:bk) (_:Nat) (_:bk) (_:Nat) (_:bk) (_ _ _:Int)
def aaz:o6->bZ×List A7×Option Ex
 |.L0 Qg=>([(14,D Qg),(13,D (H:Int)),(12,V.sl H (A ao G)),(4,V.pl 0 0),(0,V.sl H (A ao G)),(2,V.fn 111 [] [])],[A7.cells [V.fn 110 [] []] 187],none)|.L2 RN Ua WC WE zT kw zU kx zV ky XC XD _=>([(8,D RN),(7,D Ua),(0,V.sl WC λi=>A ao G (0+i)),(1,V.fn 141 [] [V.pl 0 0,V.pl 1 0])],[A7.cells [V.fn 110 [] []] 187,A7.cells [V.str WE,V.sl zT (A L kw),V.sl zU (A L kx),V.sl zV (A [Ty.sl L] ky),D XC,D XD] 128],none)
def adm:o6->JJ
 |.L0 _=>(0,[])|.L2 _ _ _ _ _ _ _ _ _ _ _ _ Rv=>(2,[Cx.i Rv])
def arD:BO (cX JJ):=ba JJ J2 u0 ag3 [V.sl H (A ao G),V.fn 110 [] [],V.fn 111 [] []]
def wK (cx:List Cx):Lp JJ:=iZ (ik (arD H G) [])
def hx0 (cx:List Cx):Lp JJ:=iZ (ik (vE J2 u0 (0,[]) (wK H G []) (aaz H G (.L0 (c8 cx 0)))) [true,false])
def ae2:JJ->Lp JJ
 |(0,cx)=>wK H G cx|(2,cx)=>hx0 H G cx|(_,cx)=>wK H G cx
def anl:LD JJ o6:=⟨adm,ae2 H G,aaz H G⟩
abbrev IC:=[some (some 0),some (some 1)]
def ru:o6->RT o6
 |.L0 Qg=>.br (decide (Qg<(H:Int))) (.ob (dI Qg H) (.cb (.cb (.obp ((sv (aM (G Qg.toNat))).size<=(9223372036854775807:Nat)) (.obt (.br (!ku (sv (aM (G Qg.toNat)))) (.brt (.ret (V.tup [D Qg,D 6]))) (.ob (decide (0<=Qg/\Qg<=(H:Int))) (.asm (true=true->Qg.toNat-0<=9223372036854775807) (.enter IC (o6.L2 0 ((↑(Qg.toNat-0):Int)) (Qg.toNat-0) (sv (aM (G Qg.toNat))) (aU (aM (ap (G Qg.toNat)))) (λi=>au L (du (aM (ap (G Qg.toNat))) i)) (aU (aM (ap (ap (G Qg.toNat))))) (λi=>au L (du (aM (ap (ap (G Qg.toNat)))) i)) (aU (aM (ap (ap (ap (G Qg.toNat)))))) (λi=>au [Ty.sl L] (du (aM (ap (ap (ap (G Qg.toNat))))) i)) (eV (G Qg.toNat)) (ck (G Qg.toNat)) Qg) []))))))))) (.ret (V.tup G7))|.L2 RN Ua WC WE zT kw zU kx zV ky XC XD Rv=>.br (decide (RN<Ua)) (.ob (dI RN WC) (.cb (.cb (.br ((sv (aM (G (0+RN.toNat)))).toList==WE.toList) (.br (decide (0<=RN)) (.brt (.ret (V.tup [D Rv,D 5]))) (.br (oP (aU (aM (ap (G Rv.toNat)))) (λi=>au L (du (aM (ap (G Rv.toNat))) i)) (aU (aM (ap (ap (G Rv.toNat))))) (λi=>au L (du (aM (ap (ap (G Rv.toNat)))) i)) (aU (aM (ap (ap (ap (G Rv.toNat)))))) (λi=>au [Ty.sl L] (du (aM (ap (ap (ap (G Rv.toNat))))) i)) (eV (G Rv.toNat)) (ck (G Rv.toNat))!=0) (.ret (V.tup [D Rv,D (oP (aU (aM (ap (G Rv.toNat)))) (λi=>au L (du (aM (ap (G Rv.toNat))) i)) (aU (aM (ap (ap (G Rv.toNat))))) (λi=>au L (du (aM (ap (ap (G Rv.toNat)))) i)) (aU (aM (ap (ap (ap (G Rv.toNat)))))) (λi=>au [Ty.sl L] (du (aM (ap (ap (ap (G Rv.toNat))))) i)) (eV (G Rv.toNat)) (ck (G Rv.toNat)))])) (.next H7 (o6.L0 (I (Rv+1))) []))) (.next IC (o6.L2 (I (RN+1)) Ua WC (WE) zT kw zU kx zV ky XC XD Rv) []))))) (.brf (.br (oP (aU (aM (ap (G Rv.toNat)))) (λi=>au L (du (aM (ap (G Rv.toNat))) i)) (aU (aM (ap (ap (G Rv.toNat))))) (λi=>au L (du (aM (ap (ap (G Rv.toNat)))) i)) (aU (aM (ap (ap (ap (G Rv.toNat)))))) (λi=>au [Ty.sl L] (du (aM (ap (ap (ap (G Rv.toNat))))) i)) (eV (G Rv.toNat)) (ck (G Rv.toNat))!=0) (.ret (V.tup [D Rv,D (oP (aU (aM (ap (G Rv.toNat)))) (λi=>au L (du (aM (ap (G Rv.toNat))) i)) (aU (aM (ap (ap (G Rv.toNat))))) (λi=>au L (du (aM (ap (ap (G Rv.toNat)))) i)) (aU (aM (ap (ap (ap (G Rv.toNat)))))) (λi=>au [Ty.sl L] (du (aM (ap (ap (ap (G Rv.toNat))))) i)) (eV (G Rv.toNat)) (ck (G Rv.toNat)))])) (.next H7 (o6.L0 (I (Rv+1))) [])))
def NI:RT o6:=dm G (.am H (.enter H7 (o6.L0 0) []))
theorem x15:ig J2 u0 (anl H G) (arD H G) (NI H G) (ru H G):=⟨cG,λs=>by cases s<;>exact cG⟩
def Cp (a:Nat):Int:=oP (aU (aM (ap (G a)))) (λi=>au L (du (aM (ap (G a))) i)) (aU (aM (ap (ap (G a))))) (λi=>au L (du (aM (ap (ap (G a)))) i)) (aU (aM (ap (ap (ap (G a)))))) (λi=>au [Ty.sl L] (du (aM (ap (ap (ap (G a))))) i)) (eV (G a)) (ck (G a))
def Cd (i j:Nat):Bool:=(sv (aM (G (0+j)))).toList==(sv (aM (G i))).toList
def kB (i:Nat):Int:=bif !ku (sv (aM (G i))) then 6 else bif jl i (Cd G i) then 5 else Cp G i
def gp:Int:=gx H (kB G)
def eP:Int:=dW H (kB G)
theorem ajx (hn:H<=9223372036854775807) (a:Nat) (hi:a<H) (hj:∀ j,j<a->(kB G j != 0)=false) (M:ku (sv (aM (G a)))=true) (hx:(kB G a != 0)=false->Ev (ru H G) (.L0 (I ((a:Int)+1))) (.tup [D (gp H G),D (eP H G)])):Ev (ru H G) (.L2 0 ((↑(a-0):Int)) (a-0) (sv (aM (G a))) (aU (aM (ap (G a)))) (λi=>au L (du (aM (ap (G a))) i)) (aU (aM (ap (ap (G a))))) (λi=>au L (du (aM (ap (ap (G a)))) i)) (aU (aM (ap (ap (ap (G a)))))) (λi=>au [Ty.sl L] (du (aM (ap (ap (ap (G a))))) i)) (eV (G a)) (ck (G a)) ((a:Int))) (.tup [D (gp H G),D (eP H G)]):=by
 refine BE (n:=a) E (Cd G a) (P:=λx=>Ev (ru H G) (.L2 x ((↑(a-0):Int)) (a-0) (sv (aM (G a))) (aU (aM (ap (G a)))) (λi=>au L (du (aM (ap (G a))) i)) (aU (aM (ap (ap (G a))))) (λi=>au L (du (aM (ap (ap (G a)))) i)) (aU (aM (ap (ap (ap (G a)))))) (λi=>au [Ty.sl L] (du (aM (ap (ap (ap (G a))))) i)) (eV (G a)) (ck (G a)) ((a:Int))) (.tup [D (gp H G),D (eP H G)])) (λj Qw hq next=>Ev.of rfl (mC Qw (jw Qw (aC (ak (aC (ak (E2 (λhb=>c9 (BH (MQ j)) (kr (aA ?_))) (λhb=>bb (next hb)))))))))) (λhq=>Ev.of rfl (lr (r8 (E2 (λhb=>aA ?_) (λhb=>bb (hx ?_))))))
 ·have hc:kB G a=5:=by unfold kB;rw[M,eF j Qw hb];rfl
  unfold gp eP;rw[(cZ hi (by rw[hc];rfl) hj).1,(cZ hi (by rw[hc];rfl) hj).2,hc]
 ·have hc:kB G a=Cp G a:=by unfold kB;rw[M,fI hq];rfl
  unfold gp eP;rw[(cZ hi (by rw[hc];exact hb) hj).1,(cZ hi (by rw[hc];exact hb) hj).2,hc];rfl
 ·have hc:kB G a=Cp G a:=by unfold kB;rw[M,fI hq];rfl
  rw[hc];exact hb
theorem ic9 (hp:aI H G):a6 (Ev (ru H G)) (NI H G) (.tup [D (gp H G),D (eP H G)]):=by
 refine cg λhn=>aS (BE hn (λi=>kB G i !=0) (P:=λx=>Ev (ru H G) (.L0 x) (.tup [D (gp H G),D (eP H G)])) (λi Qw hj next=>Ev.of rfl (mC Qw (jw Qw (aC (ak (aC (ak (aP (hp i Qw) (ak (E2 (λhb=>kr (aA ?_)) (λhb=>aL (BH E) (FW λ_=>aS (ajx H G hn i Qw hj (ER hb) next))))))))))))) (λhj=>Ev.of rfl (lr (aA ?_))))
 ·have hc:kB G i=6:=by unfold kB;rw[show(!ku (sv (aM (G i))))=true from hb];rfl
  unfold gp eP;rw[(cZ Qw (by rw[hc];rfl) hj).1,(cZ Qw (by rw[hc];rfl) hj).2,hc]
 ·unfold gp eP;rw[(iE hj).1,(iE hj).2]
theorem aej (hp:aI H (A ao G)):a6 (Ev (ru H G)) (NI H G) (.tup [D (gp H (A ao G)),D (eP H (A ao G))]):=ic9 H G hp
def h11:aD:=cK [.sl ao,.fn 110 [] [],.fn 111 [] []] (λ
 |[.sl H G,.fn _ [] [],.fn _ [] []]=>aI H G|_=>False) λ
 |[.sl H G,.fn _ [] [],.fn _ [] []]=>.tup [D (gp H G),D (eP H G)]|_=>.any
theorem agn:c7 h11 109:=bo Sb λ_ hp=>qV (x15 ..) (aej _ _ hp)
inductive oZ where|L0 (_:Int)|L2 (_ _:Int) (_:Nat) (_:ByteArray) (_ _ _ _ _ _ _ _ _ _ _ _ _ _:Int)
def acH:oZ->bZ×List A7×Option Ex
 |.L0 Qg=>([(14,D Qg),(13,D (H:Int)),(12,V.sl H (A al G)),(4,V.pl 0 0),(0,V.sl H (A al G)),(2,V.fn 114 [] [V.pd [V.sl T (A ao Q),V.sl n4 (A al f4)]])],[A7.cells [V.fn 113 [] []] 190],none)|.L2 RN Ua WC WE vq w5 w7 wI wL wO XC XD Rv vi vk vn vp _=>([(8,D RN),(7,D Ua),(0,V.sl WC λi=>A al G (0+i)),(1,V.fn 148 [] [V.pl 0 0,V.pl 1 0])],[A7.cells [V.fn 113 [] []] 190,A7.cells [V.str WE,D vq,D w5,D w7,D wI,D wL,D wO,D XC,D XD,D Rv,D vi,D vk,D vn,D vp] 120],none)
def aib:oZ->JJ
 |.L0 _=>(0,[])|.L2 _ _ _ _ _ _ _ _ _ _ _ _ _ _ _ _ _ Rc=>(2,[Cx.i Rc])
def f12:BO (cX JJ):=ba JJ J2 u0 agF [V.sl H (A al G),V.fn 113 [] [],V.fn 114 [] [V.pd [V.sl T (A ao Q),V.sl n4 (A al f4)]]]
def xU (cx:List Cx):Lp JJ:=iZ (ik (f12 H G T Q n4 f4) [])
def hyv (cx:List Cx):Lp JJ:=iZ (ik (vE J2 u0 (0,[]) (xU H G T Q n4 f4 []) (acH H G T Q n4 f4 (.L0 (c8 cx 0)))) [true,false])
def acY:JJ->Lp JJ
 |(0,cx)=>xU H G T Q n4 f4 cx|(2,cx)=>hyv H G T Q n4 f4 cx|(_,cx)=>xU H G T Q n4 f4 cx
def ake:LD JJ oZ:=⟨aib,acY H G T Q n4 f4,acH H G T Q n4 f4⟩
def rh (H:Nat) (G:bk) (T:Nat) (Q:bk) (n4:Nat) (f4:bk):oZ->RT oZ
 |.L0 Qg=>.br (decide (Qg<(H:Int))) (.ob (dI Qg H) (.cb (.cb (.obp ((sv (aM (G Qg.toNat))).size<=(9223372036854775807:Nat)) (.obt (.br (!ku (sv (aM (G Qg.toNat)))) (.brt (.ret (V.tup [D Qg,D 6]))) (.ob (decide (0<=Qg/\Qg<=(H:Int))) (.asm (true=true->Qg.toNat-0<=9223372036854775807) (.enter IC (oZ.L2 0 ((↑(Qg.toNat-0):Int)) (Qg.toNat-0) (sv (aM (G Qg.toNat))) (bM (G Qg.toNat)) (d9 (G Qg.toNat)) (cH (G Qg.toNat)) (eV (G Qg.toNat)) (ck (G Qg.toNat)) (ck (ap (G Qg.toNat))) (ck (ap (ap (G Qg.toNat)))) (ck (ap (ap (ap (G Qg.toNat))))) (ck (ap (ap (ap (ap (G Qg.toNat)))))) (ck (ap (ap (ap (ap (ap (G Qg.toNat))))))) (ck (ap (ap (ap (ap (ap (ap (G Qg.toNat)))))))) (ck (ap (ap (ap (ap (ap (ap (ap (G Qg.toNat))))))))) (ck (ap (ap (ap (ap (ap (ap (ap (ap (G Qg.toNat)))))))))) Qg) []))))))))) (.ret (V.tup G7))|.L2 RN Ua WC WE vq w5 w7 wI wL wO XC XD Rv vi vk vn vp Rc=>.br (decide (RN<Ua)) (.ob (dI RN WC) (.cb (.cb (.br ((sv (aM (G (0+RN.toNat)))).toList==WE.toList) (.br (decide (0<=RN)) (.brt (.ret (V.tup [D Rc,D 5]))) (.br (rR (bM (G Rc.toNat)) (d9 (G Rc.toNat)) (cH (G Rc.toNat)) (eV (G Rc.toNat)) (ck (G Rc.toNat)) (ck (ap (G Rc.toNat))) (ck (ap (ap (G Rc.toNat)))) (ck (ap (ap (ap (G Rc.toNat))))) (ck (ap (ap (ap (ap (G Rc.toNat)))))) (ck (ap (ap (ap (ap (ap (G Rc.toNat))))))) (ck (ap (ap (ap (ap (ap (ap (G Rc.toNat)))))))) (ck (ap (ap (ap (ap (ap (ap (ap (G Rc.toNat))))))))) (ck (ap (ap (ap (ap (ap (ap (ap (ap (G Rc.toNat)))))))))) T !=0) (.ret (V.tup [D Rc,D (rR (bM (G Rc.toNat)) (d9 (G Rc.toNat)) (cH (G Rc.toNat)) (eV (G Rc.toNat)) (ck (G Rc.toNat)) (ck (ap (G Rc.toNat))) (ck (ap (ap (G Rc.toNat)))) (ck (ap (ap (ap (G Rc.toNat))))) (ck (ap (ap (ap (ap (G Rc.toNat)))))) (ck (ap (ap (ap (ap (ap (G Rc.toNat))))))) (ck (ap (ap (ap (ap (ap (ap (G Rc.toNat)))))))) (ck (ap (ap (ap (ap (ap (ap (ap (G Rc.toNat))))))))) (ck (ap (ap (ap (ap (ap (ap (ap (ap (G Rc.toNat)))))))))) T)])) (.next H7 (oZ.L0 (I (Rc+1))) []))) (.next IC (oZ.L2 (I (RN+1)) Ua WC (WE) vq w5 w7 wI wL wO XC XD Rv vi vk vn vp Rc) []))))) (.brf (.br (rR (bM (G Rc.toNat)) (d9 (G Rc.toNat)) (cH (G Rc.toNat)) (eV (G Rc.toNat)) (ck (G Rc.toNat)) (ck (ap (G Rc.toNat))) (ck (ap (ap (G Rc.toNat)))) (ck (ap (ap (ap (G Rc.toNat))))) (ck (ap (ap (ap (ap (G Rc.toNat)))))) (ck (ap (ap (ap (ap (ap (G Rc.toNat))))))) (ck (ap (ap (ap (ap (ap (ap (G Rc.toNat)))))))) (ck (ap (ap (ap (ap (ap (ap (ap (G Rc.toNat))))))))) (ck (ap (ap (ap (ap (ap (ap (ap (ap (G Rc.toNat)))))))))) T !=0) (.ret (V.tup [D Rc,D (rR (bM (G Rc.toNat)) (d9 (G Rc.toNat)) (cH (G Rc.toNat)) (eV (G Rc.toNat)) (ck (G Rc.toNat)) (ck (ap (G Rc.toNat))) (ck (ap (ap (G Rc.toNat)))) (ck (ap (ap (ap (G Rc.toNat))))) (ck (ap (ap (ap (ap (G Rc.toNat)))))) (ck (ap (ap (ap (ap (ap (G Rc.toNat))))))) (ck (ap (ap (ap (ap (ap (ap (G Rc.toNat)))))))) (ck (ap (ap (ap (ap (ap (ap (ap (G Rc.toNat))))))))) (ck (ap (ap (ap (ap (ap (ap (ap (ap (G Rc.toNat)))))))))) T)])) (.next H7 (oZ.L0 (I (Rc+1))) [])))
def Ph:RT oZ:=dm (G,T,Q,n4,f4) (.am H (.enter H7 (oZ.L0 0) []))
theorem shP:ig J2 u0 (ake H G T Q n4 f4) (f12 H G T Q n4 f4) (Ph H G T Q n4 f4) (rh H G T Q n4 f4):=⟨cG,λs=>by cases s<;>exact cG⟩
def B6 (T a:Nat):Int:=rR (bM (G a)) (d9 (G a)) (cH (G a)) (eV (G a)) (ck (G a)) (ck (ap (G a))) (ck (ap (ap (G a)))) (ck (ap (ap (ap (G a))))) (ck (ap (ap (ap (ap (G a)))))) (ck (ap (ap (ap (ap (ap (G a))))))) (ck (ap (ap (ap (ap (ap (ap (G a)))))))) (ck (ap (ap (ap (ap (ap (ap (ap (G a))))))))) (ck (ap (ap (ap (ap (ap (ap (ap (ap (G a)))))))))) T
def Br (i j:Nat):Bool:=(sv (aM (G (0+j)))).toList==(sv (aM (G i))).toList
def kz (T i:Nat):Int:=bif !ku (sv (aM (G i))) then 6 else bif jl i (Br G i) then 5 else B6 G T i
def gm:Int:=gx H (kz G T)
def eH:Int:=dW H (kz G T)
theorem ama (hn:H<=9223372036854775807) (a:Nat) (hi:a<H) (hj:∀ j,j<a->(kz G T j != 0)=false) (M:ku (sv (aM (G a)))=true) (hx:(kz G T a != 0)=false->Ev (rh H G T Q n4 f4) (.L0 (I ((a:Int)+1))) (.tup [D (gm H G T),D (eH H G T)])):Ev (rh H G T Q n4 f4) (.L2 0 ((↑(a-0):Int)) (a-0) (sv (aM (G a))) (bM (G a)) (d9 (G a)) (cH (G a)) (eV (G a)) (ck (G a)) (ck (ap (G a))) (ck (ap (ap (G a)))) (ck (ap (ap (ap (G a))))) (ck (ap (ap (ap (ap (G a)))))) (ck (ap (ap (ap (ap (ap (G a))))))) (ck (ap (ap (ap (ap (ap (ap (G a)))))))) (ck (ap (ap (ap (ap (ap (ap (ap (G a))))))))) (ck (ap (ap (ap (ap (ap (ap (ap (ap (G a)))))))))) ((a:Int))) (.tup [D (gm H G T),D (eH H G T)]):=by
 refine BE (n:=a) E (Br G a) (P:=λx=>Ev (rh H G T Q n4 f4) (.L2 x ((↑(a-0):Int)) (a-0) (sv (aM (G a))) (bM (G a)) (d9 (G a)) (cH (G a)) (eV (G a)) (ck (G a)) (ck (ap (G a))) (ck (ap (ap (G a)))) (ck (ap (ap (ap (G a))))) (ck (ap (ap (ap (ap (G a)))))) (ck (ap (ap (ap (ap (ap (G a))))))) (ck (ap (ap (ap (ap (ap (ap (G a)))))))) (ck (ap (ap (ap (ap (ap (ap (ap (G a))))))))) (ck (ap (ap (ap (ap (ap (ap (ap (ap (G a)))))))))) ((a:Int))) (.tup [D (gm H G T),D (eH H G T)])) (λj Qw hq next=>Ev.of rfl (mC Qw (jw Qw (aC (ak (aC (ak (E2 (λhb=>c9 (BH (MQ j)) (kr (aA ?_))) (λhb=>bb (next hb)))))))))) (λhq=>Ev.of rfl (lr (r8 (E2 (λhb=>aA ?_) (λhb=>bb (hx ?_))))))
 ·have hc:kz G T a=5:=by unfold kz;rw[M,eF j Qw hb];rfl
  unfold gm eH;rw[(cZ hi (by rw[hc];rfl) hj).1,(cZ hi (by rw[hc];rfl) hj).2,hc]
 ·have hc:kz G T a=B6 G T a:=by unfold kz;rw[M,fI hq];rfl
  unfold gm eH;rw[(cZ hi (by rw[hc];exact hb) hj).1,(cZ hi (by rw[hc];exact hb) hj).2,hc];rfl
 ·have hc:kz G T a=B6 G T a:=by unfold kz;rw[M,fI hq];rfl
  rw[hc];exact hb
theorem ia3 (hp:aI H G):a6 (Ev (rh H G T Q n4 f4)) (Ph H G T Q n4 f4) (.tup [D (gm H G T),D (eH H G T)]):=by
 refine cg λhn=>aS (BE hn (λi=>kz G T i !=0) (P:=λx=>Ev (rh H G T Q n4 f4) (.L0 x) (.tup [D (gm H G T),D (eH H G T)])) (λi Qw hj next=>Ev.of rfl (mC Qw (jw Qw (aC (ak (aC (ak (aP (hp i Qw) (ak (E2 (λhb=>kr (aA ?_)) (λhb=>aL (BH E) (FW λ_=>aS (ama H G T Q n4 f4 hn i Qw hj (ER hb) next))))))))))))) (λhj=>Ev.of rfl (lr (aA ?_))))
 ·have hc:kz G T i=6:=by unfold kz;rw[show(!ku (sv (aM (G i))))=true from hb];rfl
  unfold gm eH;rw[(cZ Qw (by rw[hc];rfl) hj).1,(cZ Qw (by rw[hc];rfl) hj).2,hc]
 ·unfold gm eH;rw[(iE hj).1,(iE hj).2]
theorem ad9 (hp:aI H (A al G)):a6 (Ev (rh H G T Q n4 f4)) (Ph H G T Q n4 f4) (.tup [D (gm H (A al G) T),D (eH H (A al G) T)]):=ia3 H G T Q n4 f4 hp
def aaV:aD:=cK [.sl al,.fn 113 [] [],.fn 114 [] [.pd [.sl ao,.sl al]]] (λ
 |[.sl H G,.fn _ [] [],.fn _ [] [.pd [.sl T Q,.sl n4 f4]]]=>aI H G|_=>False) λ
 |[.sl H G,.fn _ [] [],.fn _ [] [.pd [.sl T Q,.sl n4 f4]]]=>.tup [D (gm H G T),D (eH H G T)]|_=>.any
theorem aix:c7 aaV 112:=bo Sb λ_ hp=>qV (shP ..) (ad9 _ _ _ _ _ _ hp)
def NS:bm:=(109,.con h11)::(112,.con aaV)::J2
theorem aox:aV Tryz.prog BN D7 NS:=.con agn (.con aix (Sb))
def hc2:RT Empty:=.am H (.ii (.asm ((!decide (10<(H:Int)))=true->T<=9223372036854775807) (.ii (.br (bif decide (10<(H:Int)) then true else decide (20<(T:Int))) (.ret (V.tup [D 0,D 0,D 3])) (.obp (aI H G) (.obt (.br (eP H (A ao G)!=0) (.ret (V.tup [D 1,D (gp H (A ao G)),D (eP H (A ao G))])) (.obp (aI T Q) (.obt (.br (eH T (A al Q) H !=0) (.ret (V.tup [D 2,D (gm T (A al Q) H),D (eH T (A al Q) H)])) (.ret (V.tup Jl))))))))))))
theorem nf2:dZ d7 (ba JJ NS u0 ah2 [V.agg [V.sl H (A ao G),V.sl T (A al Q)]]) (hc2 H G T Q):=cG
def nU:Int:=bif bif decide (10<(H:Int)) then true else decide (20<(T:Int)) then 0 else bif eP H (A ao G)!=0 then 1 else bif eH T (A al Q) H !=0 then 2 else 0
def nJ:Int:=bif bif decide (10<(H:Int)) then true else decide (20<(T:Int)) then 0 else bif eP H (A ao G)!=0 then gp H (A ao G) else bif eH T (A al Q) H !=0 then gm T (A al Q) H else 0
def bu:Int:=bif bif decide (10<(H:Int)) then true else decide (20<(T:Int)) then 3 else bif eP H (A ao G)!=0 then eP H (A ao G) else bif eH T (A al Q) H !=0 then eH T (A al Q) H else 0
def Aa:V:=.tup [D (nU H G T Q),D (nJ H G T Q),D (bu H G T Q)]
theorem aeZ (hp:aI H G/\aI T Q):a6 dK (hc2 H G T Q) (Aa H G T Q):=FW (λa0=>BK (BK (FW (λa0=>BK (BK (E2 (λh0=>aA (by unfold Aa nU nJ bu;try rw[h0];rfl)) (λh0=>aP (by first|assumption|(first|exact hp.1|exact hp.2)) (ak (E2 (λM=>aA (by unfold Aa nU nJ bu;try rw[h0];try rw[M];rfl)) (λM=>aP (by first|assumption|(first|exact hp.1|exact hp.2)) (ak (E2 (λN=>aA (by unfold Aa nU nJ bu;try rw[h0];try rw[M];try rw[N];rfl)) (λN=>aA (by unfold Aa nU nJ bu;try rw[h0];try rw[M];try rw[N];rfl))))))))))))))
def aap:aD:=cK [.agg [.sl ao,.sl al]] (λ
 |[.agg [.sl H G,.sl T Q]]=>aI H G/\aI T Q|_=>False) λ
 |[.agg [.sl H G,.sl T Q]]=>Aa H G T Q|_=>.any
theorem fp7:c7 aap 82:=bo aox λ_ hp=>er (nf2 ..) (aeZ _ _ _ _ hp)
def D9 (n3:Nat) (f5:bk) (i:Nat):Bool:=(aU (aM (f5 i)):Int)!=(n3:Int)
def akI (i j:Nat):Bool:=bz (aE (du (aM (f5 i)) j)) 0 10000000
def xr (i:Nat):Bool:=fM n3 (akI f5 i)
def uA:Bool:=bif bz x7 0 10000000 then bz x8 0 10000000 else false
def KW (a b:Bool):Bool:=bif !a then true else !b
def OI (n1:Nat) (f1:bk) (n3:Nat) (f3:bk) (n5:Nat) (f5:bk) (x7 x8:Int):Int :=
 bif KW (bz (n1:Int) 2 12) (bz (n3:Int) 2 12) then 3 else bif KW (IX n1 f1) (IX n3 f3) then 7 else bif KW (jt n1 f1) (jt n3 f3) then 2 else bif(n5:Int)!=(n1:Int) then 6 else bif jl n5 (D9 n3 f5) then 6 else bif !(uA x7 x8&&fM n5 (xr n3 f5)) then 7 else 0
def Q5 (a j:Nat):Bool:=(sv (aM (G j))).toList==(sv (aM (G a))).toList
def oB (a:Nat):Int:=bif !HS (sv (aM (G a))) then 6 else bif jl a (Q5 G a) then 5 else OI (aU (aM (ap (G a)))) (λi=>au L (du (aM (ap (G a))) i)) (aU (aM (ap (ap (G a))))) (λi=>au L (du (aM (ap (ap (G a)))) i)) (aU (aM (ap (ap (ap (G a)))))) (du (aM (ap (ap (ap (G a)))))) (eV (G a)) (ck (G a))
def aca:Bool:=bif Z==1 then RI !=0 else false
def MF (a j:Nat):Bool:=(sv (aM (Q j))).toList==(sv (aM (Q a))).toList
def WP (H:Nat) (Q:bk) (a:Nat):Int:=F1 (bz (bM (Q a)) 0 (I ((H:Int)-1))) (bz (d9 (Q a)) 1 3) (bz (cH (Q a)) 1 1000000&&(bz (eV (Q a)) 1 5000000&&(bz (ck (Q a)) 0 (eV (Q a))&&(bz (ck (ap (Q a))) 0 1000&&(qn (ck (ap (ap (Q a)))) (ck (ap (ap (ap (Q a))))) 0 1000&&(qn (ck (ap (ap (ap (ap (Q a)))))) (ck (ap (ap (ap (ap (ap (Q a))))))) 0 1000&&(bz (ck (ap (ap (ap (ap (ap (ap (Q a)))))))) 1 200000&&(bz (ck (ap (ap (ap (ap (ap (ap (ap (Q a))))))))) 0 1000&&(bz (ck (ap (ap (ap (ap (ap (ap (ap (ap (Q a)))))))))) 0 3600))))))))) (aca (d9 (Q a)) (ck (ap (ap (ap (ap (ap (ap (ap (ap (Q a)))))))))))
def rL (a:Nat):Int:=bif !HS (sv (aM (Q a))) then 6 else bif jl a (MF Q a) then 5 else WP H Q a
def hlv:Int×Int×Int:=Df T (rL H (A al Q)) 2 (0,0,0)
def Kb (H:Nat) (G:bk) (T:Nat) (Q:bk):Int×Int×Int:=bif(bif decide (10<(H:Int)) then true else decide (20<(T:Int))) then(0,0,3) else Df H (oB (A ao G)) 1 (hlv H T Q)
def dA:Int:=(Kb H G T Q).2.2
theorem hkl {n:Nat} {p At:Nat->Bool} (h:∀ i,i<n->p i=At i):fM n p=fM n At:=by
 cases hq:fM n At with
 |true=>exact gN λi hi=>by rw[h i hi];exact dh hq i hi
 |false=>
   cases hp:fM n p with
   |false=>rfl|true=>rw[gN λi hi=>by rw[← h i hi];exact dh hp i hi]at hq;cases hq
theorem qf (n:Nat) (f:bk) (lo hi:Int):ed n f lo hi=fM n λi=>bz (aE (f i)) lo hi:=by show(!(decide (0<=idx n λii=>sn (aE (f ii)) lo hi)))=_;rw[mb];unfold jl;rw[Il];exact hkl λi _=>by show(!(!aw (aE (f i)) lo hi))=aw (aE (f i)) lo hi;rw[Il]
theorem Gb (a b:Bool):KW a b=!(a&&b):=by cases a<;>cases b<;>rfl
theorem hgo (s:ByteArray) (i:Nat):wg s i=true↔¬ (97<=(s.data.toList.getD i 0).toNat/\(s.data.toList.getD i 0).toNat<=122)/\¬ (48<=(s.data.toList.getD i 0).toNat/\(s.data.toList.getD i 0).toNat<=57)/\(s.data.toList.getD i 0).toNat≠45:=by
 have key:∀(p1 p2 p4 p5 p6:Bool),(!bif bif bif p1 then p2 else false then true else bif p4 then p5 else false then true else p6)=true↔¬(p1=true/\p2=true)/\¬(p4=true/\p5=true)/\¬(p6=true):=by decide
 unfold wg;rw[key];simp only[GV,HX];omega
theorem hmx (s:ByteArray):HF s=false↔(1<=s.size/\s.size<=24)/\97<=(s.data.toList.getD 0 0).toNat/\(s.data.toList.getD 0 0).toNat<=122:=by
 have key:∀(p1 p2 p4 p5:Bool),(bif bif bif p1 then true else p2 then true else p4 then true else p5)=false↔¬(p1=true)/\¬(p2=true)/\¬(p4=true)/\¬(p5=true):=by decide
 unfold HF;rw[key];simp only[GV];omega
theorem agf (s:ByteArray):HS s=ku s:=by
 rw[KE];unfold HS ku;simp only[Eg,GV,tX,Hu];constructor
 ·intro h
  cases hc:HF s with
  |true=>rw[hc]at h;cases h
  |false=>
    rw[hc,cond_false]at h;have M:=(hmx s).1 hc;refine⟨λi hi=>?_,E,E⟩;have N:=dh h i hi;cases hb:AS ((s.data.toList.getD i 0).toNat:Int) (i:Int) with
    |false=>rfl
    |true=>
      obtain⟨g1,g2⟩:=(pu _ i).1 hb;rcases g2 with e|⟨g3,g4⟩
      ·subst e;exact(g1 M.2).elim
      ·rw[(hgo s i).2 ⟨g1,g3,g4⟩]at N;cases N
 ·rintro ⟨M,N,h3⟩
  have h0:=M 0 N;have hl:97<=(s.data.toList.getD 0 0).toNat/\(s.data.toList.getD 0 0).toNat<=122:=by apply Classical.byContradiction;intro hn;rw[(pu _ 0).2 ⟨hn,.inl rfl⟩]at h0;cases h0
  rw[(hmx s).2 ⟨⟨E,h3⟩,hl⟩,cond_false];refine gN λi hi=>?_;cases hb:wg s i with
  |false=>rfl
  |true=>obtain⟨g1,g2,g3⟩:=(hgo s i).1 hb;have:=M i hi;rw[(pu _ i).2 ⟨g1,.inr ⟨g2,g3⟩⟩]at this;cases this
theorem hs0:oP n1 f1 n3 f3 n5 f5 x7 x8=OI n1 f1 n3 f3 n5 f5 x7 x8:=by
 have e1:∀n f,ed n f (-5000) 5000=IX n f:=λn f=>qf n f _ _;unfold oP OI;rw[Gb,Gb,Gb,e1,e1];have e2:(jl n5 (M1 n3 f5))=jl n5 (D9 n3 f5):=rfl;rw[e2];cases he:jl n5 (D9 n3 f5) with
 |true=>rfl
 |false=>
   have hrow:∀ i,i<n5->aU (aM (f5 i))=n3:=λi hi=>by
    cases hb:D9 n3 f5 i with
    |true=>rw[eF i hi hb]at he;cases he|false=>unfold D9 at hb;simp at hb;omega
   have e3:jl n5 (Pd f5)=!fM n5 (xr n3 f5):=by unfold jl;rw[hkl (At:=xr n3 f5) λi hi=>by show(!(!ed (aU (aM (f5 i))) (A L λj=>au L (du (aM (f5 i)) j)) 0 10000000))=_;rw[Il,qf,hrow i hi];rfl]
   have e4:WU x7 x8=!uA x7 x8:=by show(!ed 2 _ 0 10000000)=_;rw[qf];show(!((true&&bz x7 0 10000000)&&bz x8 0 10000000))=_;unfold uA;cases bz x7 0 10000000<;>cases bz x8 0 10000000<;>rfl
   unfold sc;rw[e3,e4];show(bif _ then _ else bif _ then _ else bif _ then _ else bif _ then _ else _)=(bif _ then _ else bif _ then _ else bif _ then _ else bif _ then _ else _);cases uA x7 x8<;>cases fM n5 (xr n3 f5)<;>rfl
theorem af9 (f:bk) (a:Nat):kB f a=oB f a:=by unfold kB oB;rw[agf,show Cd f a=Q5 f a from funext λj=>by unfold Cd Q5;rw[Gh]];unfold Cp;rw[hs0];rfl
theorem hlj:gn x7 x8 0 1000=qn x7 x8 0 1000:=by unfold gn qn bz;by_cases M:(0:Int)<=x7<;>by_cases N:x7<=x8<;>by_cases h3:x8<=1000<;>by_cases h4:x7<=1000<;>by_cases h5:(0:Int)<=x8<;>simp only[M,N,h3,h4,h5,decide_true,decide_false,cond_true,cond_false]<;>omega
theorem afl {a k num At q':Bool} (h:num=true->At=q'):F1 a k num At=F1 a k num q':=by
 cases num with
 |false=>rfl|true=>rw[h rfl]
theorem agM (f:bk) (n a:Nat):kz f n a=rL n f a:=by
 unfold kz rL;rw[agf,show Br f a=MF f a from funext λj=>by unfold Br MF;rw[Gh]];unfold B6 rR WP;rw[hlj,hlj];congr 2;refine afl λh=>?_;simp only[Eg]at h;have cd:=h.2.2.2.2.2.2.2.2;unfold TR aca;unfold aw at cd;generalize ck (ap (ap (ap (ap (ap (ap (ap (ap (f a)))))))))=x at cd ⊢;have hx:0<=x:=by
  by_cases h0:(0:Int)<=x
  ·exact h0
  ·rw[eZ h0]at cd;cases cd
 congr 1;by_cases e:x=0
 ·subst e;rfl
 ·rw[BH E];simp[e]
theorem kT:(nU H G T Q,nJ H G T Q,bu H G T Q)=Kb H G T Q:=by
 have e1:∀f,kB f=oB f:=λf=>funext λa=>af9 f a;have e2:∀f n,kz f n=rL n f:=λf n=>funext λa=>agM f n a;unfold nU nJ bu Kb hlv Df gp eP gm eH;rw[e1,e2];cases (bif decide (10<(H:Int)) then true else decide (20<(T:Int))) with
 |true=>rfl
 |false=>simp only[cond_false];generalize dW H _=x;generalize gx H _=y;generalize dW T _=z;generalize gx T _=u;cases x !=0<;>cases z !=0<;>rfl
def mX:bm:=(82,.con aap)::NS
theorem mG:aV Tryz.prog BN D7 mX:=.con fp7 (aox)
def hca:RT Empty:=.ret (D (I (I (Z*R)+I (x3*S))))
theorem ne2:dZ d7 (ba JJ mX u0 eqs [V.agg [D R,D S],D Z,D x3]) (hca R S Z x3):=cG
def aR:Int:=I (I (Z*R)+I (x3*S))
def Q6:V:=D (aR R S Z x3)
theorem af0:a6 dK (hca R S Z x3) (Q6 R S Z x3):=aA (by unfold Q6 aR;rfl)
def aal:aD:=cK [.agg aK,tI,tI] (λ_=>True) λ|[.agg [.int _ R,.int _ S],.int _ Z,.int _ x3]=>Q6 R S Z x3|_=>.any
theorem adV:c7 aal 69:=bo mG λ_ hp=>er (ne2 ..) (af0 _ _ _ _)
def hap:RT Empty:=.ret (D (I (I (Z*S)-I (x3*R))))
theorem nc8:dZ d7 (ba JJ mX u0 amG [V.agg [D R,D S],D Z,D x3]) (hap R S Z x3):=cG
def aQ:Int:=I (I (Z*S)-I (x3*R))
def Ms:V:=D (aQ R S Z x3)
theorem agc:a6 dK (hap R S Z x3) (Ms R S Z x3):=aA (by unfold Ms aQ;rfl)
def ha0:aD:=cK [.agg aK,tI,tI] (λ_=>True) λ|[.agg [.int _ R,.int _ S],.int _ Z,.int _ x3]=>Ms R S Z x3|_=>.any
theorem afm:c7 ha0 70:=bo mG λ_ hp=>er (nc8 ..) (agc _ _ _ _)
def ab3:RT Empty:=.ret (D (I (I (R*R)+I (S*S))))
theorem x27:dZ d7 (ba JJ mX u0 fa2 [V.agg [D R,D S]]) (ab3 R S):=cG
def cj:Int:=I (I (R*R)+I (S*S))
def Qb:V:=D (cj R S)
theorem agq:a6 dK (ab3 R S) (Qb R S):=aA (by unfold Qb cj;rfl)
def aaU:aD:=cK [.agg aK] (λ_=>True) λ|[.agg [.int _ R,.int _ S]]=>Qb R S|_=>.any
theorem agh:c7 aaU 71:=bo mG λ_ hp=>er (x27 ..) (agq _ _)
def aam:RT Empty:=.ret (D (min (max R (-200000)) 200000))
theorem ig5:dZ d7 (ba JJ mX u0 aoN [D R]) (aam R):=cG
def cE:Int:=min (max R (-200000)) 200000
def O7:V:=D (cE R)
theorem adt:a6 dK (aam R) (O7 R):=aA (by unfold O7 cE;rfl)
def acr:aD:=cK L (λ_=>True) λ|[.int _ R]=>O7 R|_=>.any
theorem af2:c7 acr 98:=bo mG λ_ hp=>er (ig5 ..) (adt _)
def ir:Int:=max (-200000) (min R 200000)
def hbv:RT Empty:=.cb (.br (eJ 0 R S) (.ret (V.tup [D 0,D (max (I (R*R)) (I (S*S)))])) (.ret (V.tup [D (min (I (R*R)) (I (S*S))),D (max (I (R*R)) (I (S*S)))])))
theorem okQ:dZ d7 (ba JJ mX u0 f14 [D R,D S]) (hbv R S):=cG
def nD:Int:=bif eJ 0 R S then 0 else min (I (R*R)) (I (S*S))
def oe:Int:=max (I (R*R)) (I (S*S))
def JM:V:=.tup [D (nD R S),D (oe R S)]
theorem acT:a6 dK (hbv R S) (JM R S):=aC (ak (E2 (λh0=>aA (by unfold JM nD oe;try rw[h0];rfl)) (λh0=>aA (by unfold JM nD oe;try rw[h0];rfl))))
def abz:aD:=cK aK (λ_=>True) λ|[.int _ R,.int _ S]=>JM R S|_=>.any
theorem ahq:c7 abz 73:=bo mG λ_ hp=>er (okQ ..) (acT _ _)
def iA:Int:=bif bif decide (R<=0) then decide (0<=S) else false then 0 else min (I (R*R)) (I (S*S))
def iq:Int:=max (I (R*R)) (I (S*S))
def abV:RT Empty:=.cb (.ret (V.bool !eJ R (-100000) 100000))
theorem ty2:dZ d7 (ba JJ mX u0 asr [D R]) (abV R):=cG
def nK:Bool:=!eJ R (-100000) 100000
def Sm:V:=.bool (nK R)
theorem agU:a6 dK (abV R) (Sm R):=aC (ak (aA (by unfold Sm nK;rfl)))
def aak:aD:=cK L (λ_=>True) λ|[.int _ R]=>Sm R|_=>.any
theorem ag4:c7 aak 68:=bo mG λ_ hp=>er (ty2 ..) (agU _)
def kJ:Bool:=bif cM R (-1000) 1000 then bif cM S (-1000) 1000 then bif R !=0 then true else S !=0 else false else false
def hd1:RT Empty:=.cb (.obi (.br (eJ R (-1000) 1000) (.ob (eJ R (-1000) 1000) (.cb (.ii (.obi (.ret (V.bool (bif eJ S (-1000) 1000 then !(R==0&&(S==0&&true)) else false))))))) (.ret (V.kb false))))
theorem im9:dZ d7 (ba JJ mX u0 btw [V.agg [D R,D S]]) (hd1 R S):=cG
def pL:Bool:=bif eJ R (-1000) 1000 then bif eJ S (-1000) 1000 then !(R==0&&(S==0&&true)) else false else false
def HL:V:=.bool (pL R S)
theorem ael:a6 dK (hd1 R S) (HL R S):=aC (ak (BK (E2 (λh0=>aL (by first|assumption|(fail)) (aC (ak (BK (BK (BK (aA (by unfold HL pL;try rw[h0];rfl)))))))) (λh0=>aA (by unfold HL pL;try rw[h0];rfl)))))
def abm:aD:=cK [.agg aK] (λ_=>True) λ|[.agg [.int _ R,.int _ S]]=>HL R S|_=>.any
theorem agW:c7 abm 28:=bo mG λ_ hp=>er (im9 ..) (ael _ _)
inductive uV where|L0 (_ _:Int)
def nf5:uV->bZ×List A7×Option Ex
 |.L0 Qg RU=>([(4,D Qg),(3,D RU),(0,V.sl H (A L G))],[],none)
def ae3:uV->JJ
 |.L0 ..=>(0,[])
def f15:BO (cX JJ):=ba JJ mX u0 adA [V.sl H (A L G)]
def Do (cx:List Cx):Lp JJ:=iZ (ik (f15 H G) [false])
def ae7:JJ->Lp JJ
 |(0,cx)=>Do H G cx|(_,cx)=>Do H G cx
def aov:LD JJ uV:=⟨ae3,ae7 H G,nf5 H G⟩
def CC:uV->RT uV
 |.L0 Qg RU=>.am H (.br (decide (Qg<(H:Int))) (.ob (dI Qg H) (.next [] (uV.L0 (I (Qg+1)) (max RU (aE (G Qg.toNat)))) [])) (.ret (D RU)))
def PS:RT uV:=.am H (.br (decide ((H:Int)<1)) (.fail) (.ob (decide ((0:Int)<=0/\0<(H:Int))) (.enter [] (uV.L0 1 (aE (G 0))) [])))
theorem if0:ig mX u0 (aov H G) (f15 H G) (PS H G) (CC H G):=⟨cG,λs=>by cases s<;>exact cG⟩
def vY (p:Nat->Int) (z:Int):Nat->Int
 |0=>z|k+1=>max (vY p z k) (p k)
def gh:Int:=vY (λi=>aE (G i)) (aE (G 0)) H
theorem id0 (hp:1<=H):a6 (Ev (CC H G)) (PS H G) (D (gh H G)):=by
 refine cg λhn=>d5 (eZ E) (aL (BH E) (aS ?_));have key:=gE (n:=H) (P:=λi=>1<=i->Ev (CC H G) (.L0 i (vY (λi=>aE (G i)) (aE (G 0)) i)) (D (gh H G))) λi hi ih M=>by
  refine Ev.of rfl (FW λ_=>E2 (λh=>?_) (λh=>aA ?_))
  ·have Qw:i<H:=by have:=Fv h;omega
   refine jw Qw (bb ?_);rw[uY Qw hn];exact ih Qw E
  ·have:i=H:=by have:=H3 h;omega
   subst this;rfl
 have:=key 1 hp (Em _);rwa [show vY (λi=>aE (G i)) (aE (G 0)) 1=aE (G 0) from Int.max_self _]at this
theorem aeY (hp:1<=H):a6 (Ev (CC H G)) (PS H G) (D (gh H (A L G))):=id0 H G hp
def aan:aD:=cK [.sl L] (λ
 |[.sl H G]=>1<=H|_=>False) λ
 |[.sl H G]=>D (gh H G)|_=>.any
theorem api:c7 aan 97:=bo mG λ_ hp=>qV (if0 ..) (aeY _ _ hp)
def JP (l:Nat->Nat) (v:Nat->Nat->Int) (z:Int):Nat->Int
 |0=>z|k+1=>vY (v k) (JP l v z k) (l k)
abbrev P4 (z:Int) (k:Nat):Int:=JP (λi=>aU (aM (f5 i))) (λi j=>aE (du (aM (f5 i)) j)) z k
def Ab:Int:=P4 f5 x7 n5
inductive sg where|L0 (_ _:Int)
def nf6:sg->bZ×List A7×Option Ex
 |.L0 Qg RU=>([(4,D Qg),(3,D RU),(0,D R)],[],none)
def ahx:sg->JJ
 |.L0 ..=>(0,[])
def ase:BO (cX JJ):=ba JJ mX u0 yaJ [D R]
def Ef (cx:List Cx):Lp JJ:=iZ (ik (ase R) [])
def afX:JJ->Lp JJ
 |(0,cx)=>Ef R cx|(_,cx)=>Ef R cx
def an6:LD JJ sg:=⟨ahx,afX R,nf6 R⟩
def BS:sg->RT sg
 |.L0 Qg RU=>.br (decide (0<Qg)) (.br (decide (I (I (RU+Qg)*I (RU+Qg))<=R)) (.obt (.next [] (sg.L0 (I (Qg.tdiv 2)) (I (RU+Qg))) [])) (.obt (.next [] (sg.L0 (I (Qg.tdiv 2)) RU) []))) (.ret (D RU))
def hb0:RT sg:=dm R (.enter [] (sg.L0 1073741824 0) [])
theorem opW:ig mX u0 (an6 R) (ase R) (hb0 R) (BS R):=⟨cG,λs=>by cases s<;>exact cG⟩
def eb:Nat->Nat
 |0=>0|n+1=>bif Nat.ble ((eb n+1)*(eb n+1)) (n+1) then eb n+1 else eb n
theorem jE:∀ n,eb n*eb n<=n/\n<(eb n+1)*(eb n+1)
 |0=>⟨Em _,Ej⟩
 |n+1=>by
   obtain⟨M,N⟩:=jE n;unfold eb;cases hb:Nat.ble ((eb n+1)*(eb n+1)) (n+1) with
   |true=>
     have:=G2 hb;refine⟨this,?_⟩;have e:(eb n+1+1)*(eb n+1+1)=(eb n+1)*(eb n+1)+2*(eb n+1)+1:=by grind
     show n+1<(eb n+1+1)*(eb n+1+1);omega
   |false=>
     have h3:¬(eb n+1)*(eb n+1)<=n+1:=λh=>by rw[Hj h]at hb;cases hb
     exact⟨by show eb n*eb n<=n+1;omega,by show n+1<(eb n+1)*(eb n+1);omega⟩
theorem m17 {n r:Nat} (M:r*r<=n) (N:n<(r+1)*(r+1)):eb n=r:=by
 obtain⟨g1,g2⟩:=jE n;have a:¬eb n<r:=λh=>by have:=Hz (show eb n+1<=r from h) (show eb n+1<=r from h);omega
 have c:¬r<eb n:=λh=>by have:=Hz (show r+1<=eb n from h) (show r+1<=eb n from h);omega
 omega
def iza24 (x:Int):Int:=(eb x.toNat:Int)
def lS:Nat:=(min R 4611686018427387903).toNat
def dX:Int:=(eb (lS R):Int)
theorem hbe {x:Int} {m:Nat} (M:1<=m) (hm:m<=2147483647):decide (I (I (m:Int)*I (m:Int))<=x)=decide (m*m<=lS x):=by
 have b:m*m<=2147483647*2147483647:=Hz hm hm;have b1:1<=m*m:=Hz M M;rw[D5 (x:=(m:Int)) E E,show(m:Int)*(m:Int)=((m*m:Nat):Int) from(Int.natCast_mul m m).symm];generalize m*m=At at *
 rw[D5 E E];unfold lS;exact decide_eq_decide.2 E
theorem aj1:∀ k:Nat,k<=30->∀ r:Nat,r*r<=lS R->lS R<(r+2 ^ (k+1))*(r+2 ^ (k+1))->r+2 ^ (k+1)<=2147483648->Ev (BS R) (.L0 ((2 ^ k:Nat):Int) (r:Int)) (D (dX R)):=by
 intro k;induction k with
 |zero=>
   intro _ r M N h3;have WT:r+2<=2147483648:=h3;have h2':lS R<(r+2)*(r+2):=N;have fin:∀ At:Nat,At*At<=lS R->lS R<(At+1)*(At+1)->Ev (BS R) (.L0 (I (((1:Nat):Int).tdiv 2)) (At:Int)) (D (dX R)):=λAt g1 g2=>
    Ev.of rfl (d5 rfl (aA (by unfold dX;rw[m17 g1 g2])))
   have hs:=hbe (x:=R) (m:=r+1) E E;have e1:(r:Int)+((1:Nat):Int)=((r+1:Nat):Int):=by omega
   refine Ev.of rfl (c9 Ej (E2 (λh=>ak (bb ?_)) (λh=>ak (bb ?_))))
   ·have h':decide ((r+1)*(r+1)<=lS R)=true:=by rw[← hs,← e1];exact h
    have:=fin (r+1) (Fv h') h2';rw[show I ((r:Int)+((2 ^ 0:Nat):Int))=((r+1:Nat):Int) from by rw[D5 E E];rfl];exact this
   ·have h':decide ((r+1)*(r+1)<=lS R)=false:=by rw[← hs,← e1];exact h
    exact fin r M (Nat.lt_of_not_le (H3 h'))
 |succ k ih=>
   intro W r M N h3;have p1:2 ^ (k+1+1)=2*2 ^ (k+1):=by rw[Nat.pow_succ];omega
   have p0:1<=2 ^ (k+1):=Nat.one_le_two_pow;have p2:2 ^ (k+1)=2*2 ^ k:=by rw[Nat.pow_succ];omega
   have hs:=hbe (x:=R) (m:=r+2 ^ (k+1)) E E;have e1:(r:Int)+((2 ^ (k+1):Nat):Int)=((r+2 ^ (k+1):Nat):Int):=by omega
   have e2:I (((2 ^ (k+1):Nat):Int).tdiv 2)=((2 ^ k:Nat):Int):=by rw[p2,show((2*2 ^ k:Nat):Int).tdiv 2=((2 ^ k:Nat):Int) by rw[ML E];omega];exact D5 E E
   have e3:I ((r:Int)+((2 ^ (k+1):Nat):Int))=((r+2 ^ (k+1):Nat):Int):=by rw[D5 E E];exact e1
   refine Ev.of rfl (c9 (BH E) (E2 (λh=>ak (bb ?_)) (λh=>ak (bb ?_))))
   ·have h':decide ((r+2 ^ (k+1))*(r+2 ^ (k+1))<=lS R)=true:=by rw[← hs,← e1];exact h
    rw[e2,e3];exact ih E (r+2 ^ (k+1)) (Fv h') (by rw[show r+2 ^ (k+1)+2 ^ (k+1)=r+2 ^ (k+1+1) by omega];exact N) E
   ·have h':decide ((r+2 ^ (k+1))*(r+2 ^ (k+1))<=lS R)=false:=by rw[← hs,← e1];exact h
    rw[e2];exact ih E r M (Nat.lt_of_not_le (H3 h')) E
theorem aem:a6 (Ev (BS R)) (hb0 R) (D (dX R)):=aS (aj1 R 30 (Em _) 0 (GG _) (by unfold lS;show _<4611686018427387904;omega) Ej)
def abB:aD:=cK L (λ_=>True) λ|[.int _ R]=>D (dX R)|_=>.any
theorem ait:c7 abB 62:=bo mG λ_ hp=>qV (opW ..) (aem _)
def iW:Nat:=(min R 3999999999999999999).toNat
def fG:Int:=(eb (iW R):Int)
def sK:bm:=(69,.con aal)::(70,.con ha0)::(71,.con aaU)::(98,.con acr)::(73,.con abz)::(68,.con aak)::(28,.con abm)::(97,.con aan)::(62,.con abB)::mX
theorem yq:aV Tryz.prog BN D7 sK:=.con adV (.con afm (.con agh (.con af2 (.con ahq (.con ag4 (.con agW (.con api (.con ait (mG)))))))))
def aah:RT Empty:=.cb (.br (decide (I (dX R*dX R)<R)) (.ret (D (I (dX R+1)))) (.ret (D (dX R))))
theorem jmp:dZ d7 (ba JJ sK u0 asq [D R]) (aah R):=cG
def Gt:Int:=bif decide (I (dX R*dX R)<R) then I (dX R+1) else dX R
def Jn:V:=D (Gt R)
theorem acA:a6 dK (aah R) (Jn R):=aC (ak (E2 (λh0=>aA (by unfold Jn Gt;try rw[h0];rfl)) (λh0=>aA (by unfold Jn Gt;try rw[h0];rfl))))
def abN:aD:=cK L (λ_=>True) λ|[.int _ R]=>Jn R|_=>.any
theorem aeG:c7 abN 60:=bo yq λ_ hp=>er (jmp ..) (acA _)
def gk:Int:=bif decide (I (fG R*fG R)<R) then I (fG R+1) else fG R
inductive vj where|L0 (_:Int)
def wrE:vj->bZ×List A7×Option Ex
 |.L0 Qg=>([(8,D Qg),(7,D (H:Int)),(6,V.sl H (A L G)),(4,D 0),(0,V.sl H (A L G)),(1,V.fn 68 [] [])],[],none)
def aeb:vj->JJ
 |.L0 _=>(0,[])
def by0:BO (cX JJ):=ba JJ sK u0 H8 [V.sl H (A L G),V.fn 68 [] []]
def C5 (cx:List Cx):Lp JJ:=iZ (ik (by0 H G) [])
def aiq:JJ->Lp JJ
 |(0,cx)=>C5 H G cx|(_,cx)=>C5 H G cx
def an8:LD JJ vj:=⟨aeb,aiq H G,wrE H G⟩
def EY:vj->RT vj
 |.L0 Qg=>.br (decide (Qg<(H:Int))) (.ob (dI Qg H) (.cb (.br (nK (aE (G Qg.toNat))) (.ret (D Qg)) (.next [] (vj.L0 (I (Qg+1))) [])))) (.ret (D (-1)))
def R8:RT vj:=dm G (.am H (.enter [] (vj.L0 0) []))
theorem ovO:ig sK u0 (an8 H G) (by0 H G) (R8 H G) (EY H G):=⟨cG,λs=>by cases s<;>exact cG⟩
def DO:Int  :=idx H λii=>nK (aE (G ii))
theorem hvu:a6 (Ev (EY H G)) (R8 H G) (D (DO H G)):=cg λhn=>aS (pj hn λi=>rfl)
theorem adL:a6 (Ev (EY H G)) (R8 H G) (D (DO H (A L G))):=hvu H G
def abh:aD:=cK [.sl L,.fn 68 [] []] (λ_=>True) λ|[.sl H G,.fn _ [] []]=>D (DO H G)|_=>.any
theorem ae1:c7 abh 99:=bo yq λ_ hp=>qV (ovO ..) (adL _ _)
inductive u4 where|L0 (_ _:Int)
def nz5:u4->bZ×List A7×Option Ex
 |.L0 Qg RU=>([(4,D Qg),(3,D RU),(0,V.sl H (A L G))],[],none)
def ac1:u4->JJ
 |.L0 ..=>(0,[])
def aoD:BO (cX JJ):=ba JJ sK u0 ae6 [V.sl H (A L G)]
def C49 (cx:List Cx):Lp JJ:=iZ (ik (aoD H G) [false])
def ac5:JJ->Lp JJ
 |(0,cx)=>C49 H G cx|(_,cx)=>C49 H G cx
def am4:LD JJ u4:=⟨ac1,ac5 H G,nz5 H G⟩
def Cl:u4->RT u4
 |.L0 Qg RU=>.am H (.br (decide (Qg<(H:Int))) (.ob (dI Qg H) (.next [] (u4.L0 (I (Qg+1)) (min RU (aE (G Qg.toNat)))) [])) (.ret (D RU)))
def Sy:RT u4:=.am H (.br (decide ((H:Int)<1)) (.fail) (.ob (decide ((0:Int)<=0/\0<(H:Int))) (.enter [] (u4.L0 1 (aE (G 0))) [])))
theorem tri:ig sK u0 (am4 H G) (aoD H G) (Sy H G) (Cl H G):=⟨cG,λs=>by cases s<;>exact cG⟩
def JU (p:Nat->Int) (z:Int):Nat->Int
 |0=>z|k+1=>min (JU p z k) (p k)
def g8:Int:=JU (λi=>aE (G i)) (aE (G 0)) H
theorem hsl (hp:1<=H):a6 (Ev (Cl H G)) (Sy H G) (D (g8 H G)):=by
 refine cg λhn=>d5 (eZ E) (aL (BH E) (aS ?_));have key:=gE (n:=H) (P:=λi=>1<=i->Ev (Cl H G) (.L0 i (JU (λi=>aE (G i)) (aE (G 0)) i)) (D (g8 H G))) λi hi ih M=>by
  refine Ev.of rfl (FW λ_=>E2 (λh=>?_) (λh=>aA ?_))
  ·have Qw:i<H:=by have:=Fv h;omega
   refine jw Qw (bb ?_);rw[uY Qw hn];exact ih Qw E
  ·have:i=H:=by have:=H3 h;omega
   subst this;rfl
 have:=key 1 hp (Em _);rwa [show JU (λi=>aE (G i)) (aE (G 0)) 1=aE (G 0) from Int.min_self _]at this
theorem ahf (hp:1<=H):a6 (Ev (Cl H G)) (Sy H G) (D (g8 H (A L G))):=hsl H G hp
def hbr:aD:=cK [.sl L] (λ
 |[.sl H G]=>1<=H|_=>False) λ
 |[.sl H G]=>D (g8 H G)|_=>.any
theorem ast:c7 hbr 96:=bo yq λ_ hp=>qV (tri ..) (ahf _ _ hp)
inductive vm where|L0 (_ _:Int)
def np9 (s0:ByteArray) (n1:Nat) (f1:bk) (n3:Nat) (f3:bk) (n5:Nat) (f5:bk) (x7 x8:Int):vm->bZ×List A7×Option Ex
 |.L0 Qg RU=>([(11,D Qg),(10,D (n5:Int)),(9,V.sl n5 (A [Ty.sl L] f5)),(3,D RU)],[],none)
def aiw:vm->JJ
 |.L0 ..=>(0,[])
def aod:BO (cX JJ):=ba JJ sK u0 afi [V.agg [V.str s0,V.sl n1 (A L f1),V.sl n3 (A L f3),V.sl n5 (A [Ty.sl L] f5),D x7,D x8]]
def EM (cx:List Cx):Lp JJ:=iZ (ik (aod s0 n1 f1 n3 f3 n5 f5 x7 x8) [])
def afo:JJ->Lp JJ
 |(0,cx)=>EM s0 n1 f1 n3 f3 n5 f5 x7 x8 cx|(_,cx)=>EM s0 n1 f1 n3 f3 n5 f5 x7 x8 cx
def ajT:LD JJ vm:=⟨aiw,afo s0 n1 f1 n3 f3 n5 f5 x7 x8,np9 s0 n1 f1 n3 f3 n5 f5 x7 x8⟩
def B9 (s0:ByteArray) (n1:Nat) (f1:bk) (n3:Nat) (f3:bk) (n5:Nat) (f5:bk) (x7 x8:Int):vm->RT vm
 |.L0 Qg RU=>.br (decide (Qg<(n5:Int))) (.ob (dI Qg n5) (.obp ((1:Nat)<=aU (aM (f5 Qg.toNat))) (.obt (.next [] (vm.L0 (I (Qg+1)) (max RU (gh (aU (aM (f5 Qg.toNat))) λi=>au L (du (aM (f5 Qg.toNat)) i)))) [])))) (.ret (D RU))
def Ra:RT vm:=dm (s0,n1,f1,n3,f3,f5,x8) (.am n5 (.enter [] (vm.L0 0 x7) []))
theorem tpB:ig sK u0 (ajT s0 n1 f1 n3 f3 n5 f5 x7 x8) (aod s0 n1 f1 n3 f3 n5 f5 x7 x8) (Ra s0 n1 f1 n3 f3 n5 f5 x7 x8) (B9 s0 n1 f1 n3 f3 n5 f5 x7 x8):=⟨cG,λs=>by cases s<;>exact cG⟩
def De (i:Nat):Int:=gh (aU (aM (f5 i))) λj=>au L (du (aM (f5 i)) j)
def rM:Int:=vY (λi=>De f5 i) x7 n5
theorem hx' (hp:∀i,i<n5->1<=aU (aM (f5 i))):a6 (Ev (B9 s0 n1 f1 n3 f3 n5 f5 x7 x8)) (Ra s0 n1 f1 n3 f3 n5 f5 x7 x8) (D (rM n5 f5 x7)):=by refine cg λhn=>aS (am3 hn (P:=λx=>Ev (B9 s0 n1 f1 n3 f3 n5 f5 x7 x8) (.L0 x (vY (λi=>De f5 i) x7 x.toNat)) (D (rM n5 f5 x7))) (λi Qw nx=>?_) (Ev.of rfl (lr (aA rfl))));rw[show(I ((i:Int)+1)).toNat=i+1 by rw[uY Qw hn];rfl]at nx;exact Ev.of rfl (mC Qw (jw Qw (aP (hp i Qw) (ak (bb nx)))))
theorem ahQ (hp:∀i,i<n5->1<=aU (aM ((A [.sl L] f5) i))):a6 (Ev (B9 s0 n1 f1 n3 f3 n5 f5 x7 x8)) (Ra s0 n1 f1 n3 f3 n5 f5 x7 x8) (D (rM n5 (A [.sl L] f5) x7)):=hx' s0 n1 f1 n3 f3 n5 f5 x7 x8 hp
def ab8:aD:=cK [.agg ao] (λ
 |[.agg [.str s0,.sl n1 f1,.sl n3 f3,.sl n5 f5,.int _ x7,.int _ x8]]=>∀i,i<n5->1<=aU (aM (f5 i))|_=>False) λ
 |[.agg [.str s0,.sl n1 f1,.sl n3 f3,.sl n5 f5,.int _ x7,.int _ x8]]=>D (rM n5 f5 x7)|_=>.any
theorem afx:c7 ab8 76:=bo yq λ_ hp=>qV (tpB ..) (ahQ _ _ _ _ _ _ _ _ _ hp)
def PT:bm:=(60,.con abN)::(99,.con abh)::(96,.con hbr)::(76,.con ab8)::sK
theorem asl:aV Tryz.prog BN D7 PT:=.con aeG (.con ae1 (.con ast (.con afx (yq))))
def uu5:l8:=λ_=>5
def anG:RT Empty:=.cb (.ret (V.bool (decide (0<=DO H (A L G)))))
theorem afw:dZ d7 (ba JJ PT u0 Yr [V.sl H (A L G),V.fn 68 [] []]) (anG H G):=cG
def Ba:Bool:=decide (0<=DO H (A L G))
def Nz:V:=.bool (Ba H G)
theorem am7:a6 dK (anG H G) (Nz H G):=aC (ak (aA (by unfold Nz Ba;rfl)))
def amh:aD:=cK [.sl L,.fn 68 [] []] (λ_=>True) λ|[.sl H G,.fn _ [] []]=>Nz H G|_=>.any
theorem alW:c7 amh 67:=bo asl λ_ hp=>er (afw ..) (am7 _ _)
def Pb:bm:=(67,.con amh)::PT
theorem flx:aV Tryz.prog BN D7 Pb:=.con alW (asl)
def hdi:RT Empty:=.cb (.ret (V.bool !Ba H (A L G)))
theorem if2:dZ d7 (ba JJ Pb u0 ang [V.sl H (A L G)]) (hdi H G):=cG
def ta:Bool:=!Ba H (A L G)
def OW:V:=.bool (ta H G)
theorem adI:a6 dK (hdi H G) (OW H G):=aC (ak (aA (by unfold OW ta;rfl)))
def aaj:aD:=cK [.sl L] (λ_=>True) λ|[.sl H G]=>OW H G|_=>.any
theorem adP:c7 aaj 34:=bo flx λ_ hp=>er (if2 ..) (adI _ _)
def Kk (m x:Int):Int:=bif decide (m<0) then ir (cL (I (1000*m)) (fG (I (1000000*x)))) else ir (cL (I (1000*m)) (gk (I (1000000*x))))
def KN (m x:Int):Int:=bif decide (m<0) then ir (cN (I (1000*m)) (gk (I (1000000*x)))) else ir (cN (I (1000*m)) (fG (I (1000000*x))))
def Mn (i:Nat):Int:=aE (G i)
def aeE:Int:=Kk (JU (Mn G) (Mn G 0) H) Z
def afd:Int:=KN (vY (Mn G) (Mn G 0) H) Z
def NY (x:Int):Prop:=(gk (I (1000000*x))=0->False)/\(fG (I (1000000*x))=0->False)
def Ii:bm:=(34,.con aaj)::Pb
theorem FH:aV Tryz.prog BN D7 Ii:=.con adP (flx)
def aoM:RT Empty:=.brt (.obt (.obt (.obt (.cb (.obt (.brt (.obt (.obt (.obt (.cb (.obt (.brt (.obt (.obt (.obt (.cb (.obt (.brt (.obt (.obt (.obt (.cb (.obt (.brf (.obp ((1:Nat)<=(4:Nat)) (.obt (.obp ((1:Nat)<=(4:Nat)) (.obt (.br (decide (g8 4 (A L (cq [D (I (1000*aQ R S Z x3)),D (I (1000*aQ R S O x5)),D (I (1000*aQ R S x6 x7)),D (I (1000*aQ R S x8 x9))] 0 1))<0)) (.br (decide (gh 4 (A L (cq [D (I (1000*aQ R S Z x3)),D (I (1000*aQ R S O x5)),D (I (1000*aQ R S x6 x7)),D (I (1000*aQ R S x8 x9))] 0 1))<0)) (.obp (nz Qn) (.obt (.cb (.obp (nz Ql) (.obt (.cb (.ret (V.tup [D (cE (dq (g8 4 (A L (cq [D (I (1000*aQ R S Z x3)),D (I (1000*aQ R S O x5)),D (I (1000*aQ R S x6 x7)),D (I (1000*aQ R S x8 x9))] 0 1))) Qn)),D (cE (dU (gh 4 (A L (cq [D (I (1000*aQ R S Z x3)),D (I (1000*aQ R S O x5)),D (I (1000*aQ R S x6 x7)),D (I (1000*aQ R S x8 x9))] 0 1))) Ql))])))))))) (.obp (nz Qn) (.obt (.cb (.obp (nz Qn) (.obt (.cb (.ret (V.tup [D (cE (dq (g8 4 (A L (cq [D (I (1000*aQ R S Z x3)),D (I (1000*aQ R S O x5)),D (I (1000*aQ R S x6 x7)),D (I (1000*aQ R S x8 x9))] 0 1))) Qn)),D (cE (dU (gh 4 (A L (cq [D (I (1000*aQ R S Z x3)),D (I (1000*aQ R S O x5)),D (I (1000*aQ R S x6 x7)),D (I (1000*aQ R S x8 x9))] 0 1))) Qn))]))))))))) (.br (decide (gh 4 (A L (cq [D (I (1000*aQ R S Z x3)),D (I (1000*aQ R S O x5)),D (I (1000*aQ R S x6 x7)),D (I (1000*aQ R S x8 x9))] 0 1))<0)) (.obp (nz Ql) (.obt (.cb (.obp (nz Ql) (.obt (.cb (.ret (V.tup [D (cE (dq (g8 4 (A L (cq [D (I (1000*aQ R S Z x3)),D (I (1000*aQ R S O x5)),D (I (1000*aQ R S x6 x7)),D (I (1000*aQ R S x8 x9))] 0 1))) Ql)),D (cE (dU (gh 4 (A L (cq [D (I (1000*aQ R S Z x3)),D (I (1000*aQ R S O x5)),D (I (1000*aQ R S x6 x7)),D (I (1000*aQ R S x8 x9))] 0 1))) Ql))])))))))) (.obp (nz Ql) (.obt (.cb (.obp (nz Qn) (.obt (.cb (.ret (V.tup [D (cE (dq (g8 4 (A L (cq [D (I (1000*aQ R S Z x3)),D (I (1000*aQ R S O x5)),D (I (1000*aQ R S x6 x7)),D (I (1000*aQ R S x8 x9))] 0 1))) Ql)),D (cE (dU (gh 4 (A L (cq [D (I (1000*aQ R S Z x3)),D (I (1000*aQ R S O x5)),D (I (1000*aQ R S x6 x7)),D (I (1000*aQ R S x8 x9))] 0 1))) Qn))]))))))))))))))))))))))))))))))))))))))
theorem hsm:dZ d7 (ba JJ Ii uu5 FY [V.fn 70 [V.agg [D R,D S]] [],V.pd [D Z,D x3,D O,D x5,D x6,D x7,D x8,D x9],V.pd [D Ql],V.pd [D Qn]]) (aoM R S Z x3 O x5 x6 x7 x8 x9 Ql Qn):=cG
def jP:Int:=bif decide (g8 4 (A L (cq [D (I (1000*aQ R S Z x3)),D (I (1000*aQ R S O x5)),D (I (1000*aQ R S x6 x7)),D (I (1000*aQ R S x8 x9))] 0 1))<0) then cE (dq (g8 4 (A L (cq [D (I (1000*aQ R S Z x3)),D (I (1000*aQ R S O x5)),D (I (1000*aQ R S x6 x7)),D (I (1000*aQ R S x8 x9))] 0 1))) Qn) else cE (dq (g8 4 (A L (cq [D (I (1000*aQ R S Z x3)),D (I (1000*aQ R S O x5)),D (I (1000*aQ R S x6 x7)),D (I (1000*aQ R S x8 x9))] 0 1))) Ql)
def jW:Int:=bif decide (gh 4 (A L (cq [D (I (1000*aQ R S Z x3)),D (I (1000*aQ R S O x5)),D (I (1000*aQ R S x6 x7)),D (I (1000*aQ R S x8 x9))] 0 1))<0) then cE (dU (gh 4 (A L (cq [D (I (1000*aQ R S Z x3)),D (I (1000*aQ R S O x5)),D (I (1000*aQ R S x6 x7)),D (I (1000*aQ R S x8 x9))] 0 1))) Ql) else cE (dU (gh 4 (A L (cq [D (I (1000*aQ R S Z x3)),D (I (1000*aQ R S O x5)),D (I (1000*aQ R S x6 x7)),D (I (1000*aQ R S x8 x9))] 0 1))) Qn)
def tL:V:=.tup [D (jP R S Z x3 O x5 x6 x7 x8 x9 Ql Qn),D (jW R S Z x3 O x5 x6 x7 x8 x9 Ql Qn)]
theorem io9 (hp:(Ql=0->False)/\(Qn=0->False)):a6 dK (aoM R S Z x3 O x5 x6 x7 x8 x9 Ql Qn) (tL R S Z x3 O x5 x6 x7 x8 x9 Ql Qn):=kr (ak (ak (ak (aC (ak (ak (kr (ak (ak (ak (aC (ak (ak (kr (ak (ak (ak (aC (ak (ak (kr (ak (ak (ak (aC (ak (ak (r8 (aP (by first|assumption|((first|exact hp.1|exact hp.2|decide))) (ak (aP (by first|assumption|((first|exact hp.1|exact hp.2|decide))) (ak (E2 (λh0=>E2 (λM=>aP (by first|assumption|((first|exact hp.1|exact hp.2|decide))) (ak (aC (ak (aP (by first|assumption|((first|exact hp.1|exact hp.2|decide))) (ak (aC (ak (aA (by unfold tL jP jW;try rw[h0];try rw[M];rfl)))))))))) (λM=>aP (by first|assumption|((first|exact hp.1|exact hp.2|decide))) (ak (aC (ak (aP (by first|assumption|((first|exact hp.1|exact hp.2|decide))) (ak (aC (ak (aA (by unfold tL jP jW;try rw[h0];try rw[M];rfl))))))))))) (λh0=>E2 (λM=>aP (by first|assumption|((first|exact hp.1|exact hp.2|decide))) (ak (aC (ak (aP (by first|assumption|((first|exact hp.1|exact hp.2|decide))) (ak (aC (ak (aA (by unfold tL jP jW;try rw[h0];try rw[M];rfl)))))))))) (λM=>aP (by first|assumption|((first|exact hp.1|exact hp.2|decide))) (ak (aC (ak (aP (by first|assumption|((first|exact hp.1|exact hp.2|decide))) (ak (aC (ak (aA (by unfold tL jP jW;try rw[h0];try rw[M];rfl))))))))))))))))))))))))))))))))))))))))))))
def apF:aD:=cK [.fn 70 [.agg aK] [],.pd [tI,tI,tI,tI,tI,tI,tI,tI],.pd L,.pd L] (λ
 |[.fn _ [.agg [.int _ R,.int _ S]] [],.pd [.int _ Z,.int _ x3,.int _ O,.int _ x5,.int _ x6,.int _ x7,.int _ x8,.int _ x9],.pd [.int _ Ql],.pd [.int _ Qn]]=>(Ql=0->False)/\(Qn=0->False)|_=>False) λ
 |[.fn _ [.agg [.int _ R,.int _ S]] [],.pd [.int _ Z,.int _ x3,.int _ O,.int _ x5,.int _ x6,.int _ x7,.int _ x8,.int _ x9],.pd [.int _ Ql],.pd [.int _ Qn]]=>tL R S Z x3 O x5 x6 x7 x8 x9 Ql Qn|_=>.any
theorem ih0:c7 apF 95:=bo FH λ_ hp=>er (hsm ..) (io9 _ _ _ _ _ _ _ _ _ _ _ _ hp)
def aoX:RT Empty:=.brt (.obt (.obt (.obt (.cb (.obt (.brt (.obt (.obt (.obt (.cb (.obt (.brt (.obt (.obt (.obt (.cb (.obt (.brt (.obt (.obt (.obt (.cb (.obt (.brf (.obp ((1:Nat)<=(4:Nat)) (.obt (.obp ((1:Nat)<=(4:Nat)) (.obt (.br (decide (g8 4 (A L (cq [D (I (1000*aR R S Z x3)),D (I (1000*aR R S O x5)),D (I (1000*aR R S x6 x7)),D (I (1000*aR R S x8 x9))] 0 1))<0)) (.br (decide (gh 4 (A L (cq [D (I (1000*aR R S Z x3)),D (I (1000*aR R S O x5)),D (I (1000*aR R S x6 x7)),D (I (1000*aR R S x8 x9))] 0 1))<0)) (.obp (nz Qn) (.obt (.cb (.obp (nz Ql) (.obt (.cb (.ret (V.tup [D (cE (dq (g8 4 (A L (cq [D (I (1000*aR R S Z x3)),D (I (1000*aR R S O x5)),D (I (1000*aR R S x6 x7)),D (I (1000*aR R S x8 x9))] 0 1))) Qn)),D (cE (dU (gh 4 (A L (cq [D (I (1000*aR R S Z x3)),D (I (1000*aR R S O x5)),D (I (1000*aR R S x6 x7)),D (I (1000*aR R S x8 x9))] 0 1))) Ql))])))))))) (.obp (nz Qn) (.obt (.cb (.obp (nz Qn) (.obt (.cb (.ret (V.tup [D (cE (dq (g8 4 (A L (cq [D (I (1000*aR R S Z x3)),D (I (1000*aR R S O x5)),D (I (1000*aR R S x6 x7)),D (I (1000*aR R S x8 x9))] 0 1))) Qn)),D (cE (dU (gh 4 (A L (cq [D (I (1000*aR R S Z x3)),D (I (1000*aR R S O x5)),D (I (1000*aR R S x6 x7)),D (I (1000*aR R S x8 x9))] 0 1))) Qn))]))))))))) (.br (decide (gh 4 (A L (cq [D (I (1000*aR R S Z x3)),D (I (1000*aR R S O x5)),D (I (1000*aR R S x6 x7)),D (I (1000*aR R S x8 x9))] 0 1))<0)) (.obp (nz Ql) (.obt (.cb (.obp (nz Ql) (.obt (.cb (.ret (V.tup [D (cE (dq (g8 4 (A L (cq [D (I (1000*aR R S Z x3)),D (I (1000*aR R S O x5)),D (I (1000*aR R S x6 x7)),D (I (1000*aR R S x8 x9))] 0 1))) Ql)),D (cE (dU (gh 4 (A L (cq [D (I (1000*aR R S Z x3)),D (I (1000*aR R S O x5)),D (I (1000*aR R S x6 x7)),D (I (1000*aR R S x8 x9))] 0 1))) Ql))])))))))) (.obp (nz Ql) (.obt (.cb (.obp (nz Qn) (.obt (.cb (.ret (V.tup [D (cE (dq (g8 4 (A L (cq [D (I (1000*aR R S Z x3)),D (I (1000*aR R S O x5)),D (I (1000*aR R S x6 x7)),D (I (1000*aR R S x8 x9))] 0 1))) Ql)),D (cE (dU (gh 4 (A L (cq [D (I (1000*aR R S Z x3)),D (I (1000*aR R S O x5)),D (I (1000*aR R S x6 x7)),D (I (1000*aR R S x8 x9))] 0 1))) Qn))]))))))))))))))))))))))))))))))))))))))
theorem i22:dZ d7 (ba JJ Ii uu5 FY [V.fn 69 [V.agg [D R,D S]] [],V.pd [D Z,D x3,D O,D x5,D x6,D x7,D x8,D x9],V.pd [D Ql],V.pd [D Qn]]) (aoX R S Z x3 O x5 x6 x7 x8 x9 Ql Qn):=cG
def jV:Int:=bif decide (g8 4 (A L (cq [D (I (1000*aR R S Z x3)),D (I (1000*aR R S O x5)),D (I (1000*aR R S x6 x7)),D (I (1000*aR R S x8 x9))] 0 1))<0) then cE (dq (g8 4 (A L (cq [D (I (1000*aR R S Z x3)),D (I (1000*aR R S O x5)),D (I (1000*aR R S x6 x7)),D (I (1000*aR R S x8 x9))] 0 1))) Qn) else cE (dq (g8 4 (A L (cq [D (I (1000*aR R S Z x3)),D (I (1000*aR R S O x5)),D (I (1000*aR R S x6 x7)),D (I (1000*aR R S x8 x9))] 0 1))) Ql)
def j7:Int:=bif decide (gh 4 (A L (cq [D (I (1000*aR R S Z x3)),D (I (1000*aR R S O x5)),D (I (1000*aR R S x6 x7)),D (I (1000*aR R S x8 x9))] 0 1))<0) then cE (dU (gh 4 (A L (cq [D (I (1000*aR R S Z x3)),D (I (1000*aR R S O x5)),D (I (1000*aR R S x6 x7)),D (I (1000*aR R S x8 x9))] 0 1))) Ql) else cE (dU (gh 4 (A L (cq [D (I (1000*aR R S Z x3)),D (I (1000*aR R S O x5)),D (I (1000*aR R S x6 x7)),D (I (1000*aR R S x8 x9))] 0 1))) Qn)
def tP:V:=.tup [D (jV R S Z x3 O x5 x6 x7 x8 x9 Ql Qn),D (j7 R S Z x3 O x5 x6 x7 x8 x9 Ql Qn)]
theorem if3 (hp:(Ql=0->False)/\(Qn=0->False)):a6 dK (aoX R S Z x3 O x5 x6 x7 x8 x9 Ql Qn) (tP R S Z x3 O x5 x6 x7 x8 x9 Ql Qn):=kr (ak (ak (ak (aC (ak (ak (kr (ak (ak (ak (aC (ak (ak (kr (ak (ak (ak (aC (ak (ak (kr (ak (ak (ak (aC (ak (ak (r8 (aP (by first|assumption|((first|exact hp.1|exact hp.2|decide))) (ak (aP (by first|assumption|((first|exact hp.1|exact hp.2|decide))) (ak (E2 (λh0=>E2 (λM=>aP (by first|assumption|((first|exact hp.1|exact hp.2|decide))) (ak (aC (ak (aP (by first|assumption|((first|exact hp.1|exact hp.2|decide))) (ak (aC (ak (aA (by unfold tP jV j7;try rw[h0];try rw[M];rfl)))))))))) (λM=>aP (by first|assumption|((first|exact hp.1|exact hp.2|decide))) (ak (aC (ak (aP (by first|assumption|((first|exact hp.1|exact hp.2|decide))) (ak (aC (ak (aA (by unfold tP jV j7;try rw[h0];try rw[M];rfl))))))))))) (λh0=>E2 (λM=>aP (by first|assumption|((first|exact hp.1|exact hp.2|decide))) (ak (aC (ak (aP (by first|assumption|((first|exact hp.1|exact hp.2|decide))) (ak (aC (ak (aA (by unfold tP jV j7;try rw[h0];try rw[M];rfl)))))))))) (λM=>aP (by first|assumption|((first|exact hp.1|exact hp.2|decide))) (ak (aC (ak (aP (by first|assumption|((first|exact hp.1|exact hp.2|decide))) (ak (aC (ak (aA (by unfold tP jV j7;try rw[h0];try rw[M];rfl))))))))))))))))))))))))))))))))))))))))))))
def asa:aD:=cK [.fn 69 [.agg aK] [],.pd [tI,tI,tI,tI,tI,tI,tI,tI],.pd L,.pd L] (λ
 |[.fn _ [.agg [.int _ R,.int _ S]] [],.pd [.int _ Z,.int _ x3,.int _ O,.int _ x5,.int _ x6,.int _ x7,.int _ x8,.int _ x9],.pd [.int _ Ql],.pd [.int _ Qn]]=>(Ql=0->False)/\(Qn=0->False)|_=>False) λ
 |[.fn _ [.agg [.int _ R,.int _ S]] [],.pd [.int _ Z,.int _ x3,.int _ O,.int _ x5,.int _ x6,.int _ x7,.int _ x8,.int _ x9],.pd [.int _ Ql],.pd [.int _ Qn]]=>tP R S Z x3 O x5 x6 x7 x8 x9 Ql Qn|_=>.any
theorem its:c7 asa 95:=bo FH λ_ hp=>er (i22 ..) (if3 _ _ _ _ _ _ _ _ _ _ _ _ hp)
def KZ (p:List V->Bool) (R0 B:aD):aD:=λds=>cond (p ds) (R0 ds) (B ds)
theorem GC {P:Program} {f:FuncId} (p:List V->Bool) (R0 B:aD) (hA:(vP R0).Ok P f) (hB:(vP B).Ok P f):(vP (KZ p R0 B)).Ok P f:=by
 have key:∀ {w0 args lh K},vP (KZ p R0 B) w0 args lh K->vP R0 w0 args lh K∨vP B w0 args lh K:=by
  intro w0 args lh K ⟨ds,d,yaf,r,M,N,h3⟩;unfold KZ at N;cases hc:p ds with
  |true=>rw[hc]at N;exact .inl ⟨ds,d,yaf,r,M,N,h3⟩|false=>rw[hc]at N;exact .inr ⟨ds,d,yaf,r,M,N,h3⟩
 exact ⟨λB m lh w args vs K hrel hargs SY=>(key SY).elim (λh=>hA.1 B m lh w args vs K hrel hargs h) (λh=>hB.1 B m lh w args vs K hrel hargs h),
  λ_ _ _ _ _ W ⟨ds,d,p,r,M,N,h3,h4,h5⟩=>⟨ds,d,p,r,M,N,h3,h4,W _ _ h5⟩,λ_ _ _ _ ⟨_,_,_,_,_,_,_,_,h⟩=>h⟩
def ag9:List V->Bool
 |.fn n _ _::_=>Nat.beq n (match (.fn 70 [] []:V) with|.fn k _ _=>k|_=>0)|_=>false
def abO:aD:=KZ ag9 apF asa
theorem acI:(vP abO).Ok Tryz.prog 95:=GC _ _ _ ih0 its
end
end Go.Dx
namespace Go.Dx
open Go.IntKind (i64 u64 u8)
open Go.Sx
variable (H:Nat) (G:bk) (R S:Int) (T:Nat) (Q:bk) (Z x3:Int) (n4:Nat) (f4:bk) (n6:Nat) (f6:bk)
noncomputable section
theorem sL (a l h:Int):gR a l h=!bT a l h:=by
 unfold gR bT;by_cases M:a<l
 ·rw[BH M,eZ (show ¬l<=a by omega)];rfl
 ·rw[eZ M,BH (show l<=a by omega)]
  by_cases N:h<a
  ·rw[BH N,cond_false,cond_true];exact eZ E
  ·rw[eZ N,cond_false,cond_true];exact BH E
theorem hlx {n:Nat} {p At:Nat->Bool} (h:∀ i,i<n->p i=At i):jl n p=jl n At:=by
 cases hq:jl n At with
 |true=>obtain⟨i,hi,hp⟩:=wi.1 hq;exact eF i hi (by rw[h i hi];exact hp)
 |false=>
   refine fI λi hi=>?_;rw[h i hi];cases hp:At i with
   |false=>rfl|true=>rw[eF i hi hp]at hq;cases hq
theorem jX (n:Nat) (f:bk):kn n f=!Lh n f:=by unfold kn Dt KC;rw[mb];unfold jl Lh;congr 1;congr 1;funext i;rw[sL];rfl
theorem nc4 (s:ByteArray):∀ (k i:Nat) (r:List UInt8),s.size-i=k->(ByteArray.toList.loop s i r).length=r.length+k:=by
 intro k;induction k with
 |zero=>
   intro i r h;rw[ByteArray.toList.loop];have:¬i<s.size:=by omega
   simp[this]
 |succ k ih=>
   intro i r h;rw[ByteArray.toList.loop];have:i<s.size:=by omega
   simp only[this,H2];rw[ih (i+1) _ E];simp;omega
theorem amF (s:ByteArray):(s.toList==(⟨#[]⟩:ByteArray).toList)=decide (s.size=0):=by
 have e:(⟨#[]⟩:ByteArray).toList=[]:=by decide +kernel
 rw[e];have hl:s.toList.length=s.size:=by unfold ByteArray.toList;rw[nc4 s s.size 0 [] E];simp
 by_cases h:s.size=0
 ·rw[BH h];have:s.toList=[]:=List.eq_nil_of_length_eq_zero E;rw[this];rfl
 ·rw[eZ h]
  cases hs:s.toList with
  |nil=>rw[hs]at hl;simp at hl;omega|cons a l=>rfl
theorem mE {α:Type} {p:α->Bool}:∀ {l:List α},l.dropWhile p=[]↔∀ x∈l,p x=true
 |[]=>by simp
 |a::l=>by
   rw[List.dropWhile_cons];cases h:p a with
   |true=>simp only[H2];rw[mE];simp[h]|false=>simp[h]
theorem hz' (l cs:List UInt8):Lib.trimS l cs=[]↔∀ b∈l,cs.contains b=true:=by
 unfold Lib.trimS Lib.trimLeftS Lib.trimRightS;rw[mE];constructor
 ·intro h
  have M:l.reverse.dropWhile (cs.contains ·)=[]:=by
   cases hd:l.reverse.dropWhile (cs.contains ·) with
   |nil=>rfl
   |cons a r=>have ha:cs.contains a=true:=h a (by rw[hd];simp);have hh:=List.head_dropWhile_not (cs.contains ·) (l:=l.reverse) (by rw[hd];simp);simp only[hd,List.head_cons]at hh;rw[ha]at hh;cases hh
  rw[mE]at M;exact λb hb=>M b (by simpa using hb)
 ·intro h b hb
  have:b∈l.reverse:=by have:=List.mem_reverse.1 hb;exact(List.dropWhile_sublist _).subset this
  exact h b (by simpa using this)
def KS (b:Nat):Bool:=(decide (97<=b)&&decide (b<=122))||((decide (48<=b)&&decide (b<=57))||decide (b=45))
theorem Au (b:UInt8):([97,98,99,100,101,102,103,104,105,106,107,108,109,110,111,112,113,114,115,116,117,118,119,120,121,122,48,49,50,51,52,53,54,55,56,57,45]:List UInt8).contains b=KS b.toNat:=by
 have key:∀n:Fin 256,([97,98,99,100,101,102,103,104,105,106,107,108,109,110,111,112,113,114,115,116,117,118,119,120,121,122,48,49,50,51,52,53,54,55,56,57,45]:List UInt8).contains (UInt8.ofNat n.val)=KS n.val:=by decide +kernel
 have:=key ⟨b.toNat,b.toNat_lt⟩;simpa using this
theorem akg {l:List UInt8} {i:Nat} (h:i<l.length):l.getD i 0=l[i]:=by simp[List.getD,h]
theorem BL (s:ByteArray) (i:Nat):(!T6 s i)=(KS (s.data.toList.getD i 0).toNat&&(decide (0<i)||(decide (97<=(s.data.toList.getD i 0).toNat)&&decide ((s.data.toList.getD i 0).toNat<=122)))):=by unfold T6 KS;generalize (s.data.toList.getD i 0).toNat=b;rw[KE];simp only[LZ,Hu,Eg,II,GV];split<;>split<;>(try split)<;>simp_all<;>omega
theorem aiB (s:ByteArray):oM s=S0 s:=by
 unfold oM S0;rw[amF];have Rs:s.size=s.data.toList.length:=by rw[Jo];rfl
 by_cases h0:s.size=0
 ·rw[BH h0,h0];rfl
 rw[eZ h0];have e0:decide (0<(s.size:Int))=true:=BH E;rw[e0];by_cases qu:(s.size:Int)<=24
 case neg=>rw[eZ qu];simp
 rw[BH qu];simp only[IY,cond_true,Bool.and_true];rw[amF];rw[KE];have ht:(zh s (ByteArray.mk (Array.mk [97,98,99,100,101,102,103,104,105,106,107,108,109,110,111,112,113,114,115,116,117,118,119,120,121,122,48,49,50,51,52,53,54,55,56,57,45]))).size=0↔∀ b∈s.data.toList,KS b.toNat=true:=by
  rw[show(zh s (ByteArray.mk (Array.mk [97,98,99,100,101,102,103,104,105,106,107,108,109,110,111,112,113,114,115,116,117,118,119,120,121,122,48,49,50,51,52,53,54,55,56,57,45]))).size=(Lib.trimS s.data.toList [97,98,99,100,101,102,103,104,105,106,107,108,109,110,111,112,113,114,115,116,117,118,119,120,121,122,48,49,50,51,52,53,54,55,56,57,45]).length from by simp[zh,ByteArray.size]];rw[List.length_eq_zero_iff,hz'];constructor
  ·intro h b hb;rw[← Au];exact h b hb
  ·intro h b hb;rw[Au];exact h b hb
 have hb:fM s.size (λi=>!T6 s i)=true↔(∀ b∈s.data.toList,KS b.toNat=true)/\97<=(s.data.toList.getD 0 0).toNat/\(s.data.toList.getD 0 0).toNat<=122:=by
  rw[tX];constructor
  ·intro h
   refine⟨λb hb=>?_,?_⟩
   ·obtain⟨i,hi,rfl⟩:=List.getElem_of_mem hb;have:=h i E;rw[BL,Eg]at this;rw[akg hi]at this;exact this.1
   ·have:=h 0 E
    rw[BL]at this;simp only[Eg,II,GV]at this;rcases this.2 with M|M
    ·omega
    ·exact M
  ·rintro⟨M,N,h3⟩ i hi
   rw[BL];have Rk:i<s.data.toList.length:=by omega
   rw[M _ (by rw[akg Rk];exact List.getElem_mem Rk)];by_cases hz:i=0
   ·subst hz;rw[BH N,BH h3];rfl
   ·simp;omega
 rw[hb,← ht];cases hd:decide ((zh s (ByteArray.mk (Array.mk [97,98,99,100,101,102,103,104,105,106,107,108,109,110,111,112,113,114,115,116,117,118,119,120,121,122,48,49,50,51,52,53,54,55,56,57,45]))).size=0) with
 |false=>have:=H3 hd;simp[this]
 |true=>
   have:=Fv hd;simp only[cond_true,this,GQ];rw[show s.data.1.getD 0 0=s.data.toList.getD 0 0 from rfl];generalize (s.data.toList.getD 0 0).toNat=b;by_cases g:97<=b
   ·rw[BH (show(97:Int)<=(b:Int) by omega)];simp only[cond_true,GV];omega
   ·rw[eZ (show ¬(97:Int)<=(b:Int) by omega)];simp;omega
theorem x26 (x y:Int):tS x y=!vA x y:=by unfold tS vA;exact jX _ _
section
variable (n:Nat) (f:bk)
include n f
theorem adN (s:ByteArray):uM n f s=jl n λk=>(sv (aM (f k))).toList==s.toList:=by unfold uM Ld;rw[mb];rfl
theorem x19 (s:ByteArray):tE n f s=jl n λk=>(sv (aM (f k))).toList==s.toList:=by unfold tE KO;rw[mb];rfl
theorem ahe:lK n f=jl n λi=>!vA (aE (f i)) (bM (f i)):=by unfold lK Kl;rw[mb];exact hlx λi _=>x26 _ _
end
theorem ahJ (i:Nat):Mg H (A aN G) i=cR H G i:=by unfold Mg cR ZX F70 aaG;rw[aiB,adN,ahe];simp only[GR,Nat.sub_zero,Gh,sL,Il];rfl
theorem ac7 (i:Nat):Oo T (A aX Q) i=cT Q i:=by
 show pk (aE (Q i)) (bM (Q i)) (d9 (Q i)) (cH (Q i)) (eV (Q i))=_;unfold cT pk G9;rw[jX];show(bif !!vA _ _ then _ else _)=_;generalize vA _ _=p;generalize d9 (Q i)=a;generalize cH (Q i)=z;generalize eV (Q i)=w;cases p
 ·rfl
 ·simp only [IA,IY,cond_true]
  rw[sL];cases ha:bT a 1 20000
  ·simp only [IY,IA,cond_true,cond_false]
   by_cases hw:1<=w/\w<=1000
   ·have e:bT w 1 1000=false:=by unfold bT;rw[eZ E,cond_false];exact eZ E
    rw[e,D5 E E];unfold bT;by_cases hz:z<0
    ·rw[BH hz];rfl
    ·rw[eZ hz]
     by_cases Wc:w<=z
     ·rw[BH (show w-1<z by omega),BH Wc];rfl
     ·rw[eZ (show ¬w-1<z by omega),eZ Wc,eZ (show ¬1000<w by omega)];rfl
   ·have e:bT w 1 1000=true:=by
     unfold bT;by_cases M:w<1
     ·rw[BH M];rfl
     ·rw[eZ M,cond_false];exact BH E
    rw[e];have:(bif bif decide (z<0) then true else decide (w<=z) then true else decide (1000<w))=true:=by
     by_cases hz:z<0
     ·rw[BH hz];rfl
     ·rw[eZ hz,cond_false]
      by_cases N:w<=z
      ·rw[BH N];rfl
      ·rw[eZ N,cond_false];exact BH E
    rw[this];cases !bT z 0 (I (w-1))<;>rfl
  ·rfl
theorem acM:mF R S Z x3=bif bif bif bif bif decide (R<0) then true else decide (S<=R) then true else decide (1000<S) then true else decide (Z<0) then true else decide (x3<=Z) then true else decide (1000<x3):=by
 have key:∀ a b:Int,((bif !bT b 1 1000 then bT a 0 (I (b-1)) else true)=true)↔(a<0∨b<=a∨1000<b):=by
  intro a b;unfold bT;by_cases M:b<1
  ·rw[BH M];simp;omega
  ·rw [eZ M]
   by_cases N:1000<b
   ·rw[BH N];simp;omega
   ·rw[eZ N,D5 E E];simp only[cond_false,IY,cond_true,LZ];split<;>simp_all<;>omega
 have e1:=key R S;have e2:=key Z x3;have:mF R S Z x3=(bif !(bif !bT S 1 1000 then bT R 0 (I (S-1)) else true) then(bif !bT x3 1 1000 then bT Z 0 (I (x3-1)) else true) else true):=by unfold mF;cases bT S 1 1000<;>cases bT R 0 (I (S-1))<;>rfl
 rw[this];generalize (bif !bT S 1 1000 then bT R 0 (I (S-1)) else true)=p at e1 ⊢;generalize (bif !bT x3 1 1000 then bT Z 0 (I (x3-1)) else true)=At at e2 ⊢;rw[KE];simp only[LZ];cases p<;>cases At<;>simp_all<;>omega
theorem Ds (i:Nat):Oq n4 (A aY f4) i=cF f4 i:=by
 show pp (aE (f4 i)) (bM (f4 i)) (d9 (f4 i)) (cH (f4 i)) (aU (aM (ap (ap (ap (ap (f4 i))))))) (λj=>au kp (du (aM (ap (ap (ap (ap (f4 i)))))) j))=_;unfold cF pp F72;rw[jX];have:∀n (f:bk),tC n f=jl n λj=>ajP (f j):=by intro n f;unfold tC Ls;rw[mb];exact hlx λj _=>by rw[acM];rfl
 rw[this];rfl
theorem aqn (p At r t:Bool) (B:Int):(bif p then bif !At then bif !r then bif t then 7 else B else 7 else 7 else 7)=(bif bif bif bif !p then true else At then true else r then true else t then 7 else B):=by cases p<;>cases At<;>cases r<;>cases t<;>rfl
theorem arN (i:Nat):Mi n6 (A aG f6) i=cC n6 f6 i:=by unfold Mi cC mR Kh;rw[aiB,x19,jX];simp only[GR,Nat.sub_zero,Gh];unfold RP;simp only[sL,Il];rw[aqn];rfl
theorem fO {n:Nat} {c d:Nat->Int} (h:∀i,c i=d i):gx n c=gx n d/\dW n c=dW n d:=by have:c=d:=funext h;rw[this];exact⟨rfl,rfl⟩
theorem ic4 :
 (m8 H G T Q n4 f4 n6 f6,mZ H G T Q n4 f4 n6 f6,jQ H G T Q n4 f4 n6 f6)=ME H G T Q n4 f4 n6 f6:=by
 unfold m8 mZ jQ ME Yt z1 z2 z3 Df An qM zj qH zX qv As qz;rw[(fO (ahJ H G)).1,(fO (ahJ H G)).2,(fO (ac7 T Q)).1,(fO (ac7 T Q)).2,(fO (Ds n4 f4)).1,(fO (Ds n4 f4)).2,(fO (arN n6 f6)).1,(fO (arN n6 f6)).2];cases (bif bif bif decide (8<(H:Int)) then true else decide (12<(T:Int)) then true else decide (8<(n4:Int)) then true else decide (24<(n6:Int)))
 ·simp only [cond_false]
  cases M:dW H (cR H G)!=0
  ·simp only [cond_false]
   cases N:dW T (cT Q)!=0
   ·simp only [cond_false]
    cases h3:dW n4 (cF f4)!=0
    ·simp only[cond_false]
     cases h4:dW n6 (cC n6 f6)!=0
     ·rfl
     ·rfl
    ·rfl
   ·rfl
  ·rfl
 ·rfl
theorem aqh (ts:List Ty) (f:bk):A ts (A ts f)=A ts f:=by funext i;exact fq ts _
theorem ho' {n:Nat} {c:Nat->Int} (h:dW n c=0):∀ i,i<n->c i=0:=by
 unfold dW at h;rcases dqt (n:=n) (p:=λi=>c i !=0) with ⟨_,N⟩|⟨j,M,N,h3,_⟩
 ·intro i hi;have:=N i hi;simpa using this
 ·rw[N]at h
  have:((j:Int)==-1)=false:=by rw[MN];omega
  rw[this,cond_false,GR]at h;rw[h]at h3;cases h3
section
variable {H:Nat} {G:bk} {T:Nat} {Q:bk} {n4:Nat} {f4:bk} {n6:Nat} {f6:bk} {i j m l:Int}
structure abL (H:Nat) (G:bk) (T:Nat) (Q:bk) (n4:Nat) (f4:bk) (n6:Nat) (f6:bk):Prop where
 l0:H<=8
 l2:T<=12
 l4:n4<=8
 l6:n6<=24
 rd:∀i,i<H->cR H G i=0
 tr:∀i,i<T->cT Q i=0
 fr:∀i,i<n4->cF f4 i=0
 cl:∀i,i<n6->cC n6 f6 i=0
theorem ln {n:Nat} {c:Nat->Int} {k:Int} {z:Int×Int×Int} (h:(Df n c k z).2.2=0):(∀ i,i<n->c i=0)/\z.2.2=0:=by
 unfold Df at h;cases hb:dW n c !=0 with
 |true=>rw[hb]at h;simp only[cond_true]at h;rw[h]at hb;cases hb
 |false=>rw[hb]at h;exact⟨ho' (by simpa using hb),h⟩
theorem J4 (h:m5 H G T Q n4 f4 n6 f6=0):abL H G T Q n4 f4 n6 f6:=by
 unfold m5 ME at h;cases hl:Yt H G T Q n4 f4 n6 f6 with
 |true=>rw[hl]at h;cases h
 |false=>
   rw[hl,cond_false]at h;obtain⟨M,h⟩:=ln h;unfold z1 at h;obtain⟨N,h⟩:=ln h;unfold z2 at h;obtain⟨h3,h⟩:=ln h;unfold z3 at h;obtain⟨h4,_⟩:=ln h;unfold Yt at hl;simp only[LZ,Bool.ite_eq_false_distrib]at hl;have:H<=8/\T<=12/\n4<=8/\n6<=24:=by refine⟨?_,?_,?_,?_⟩<;>(apply Classical.byContradiction;intro hn)<;>simp_all<;>omega
   exact⟨this.1,this.2.1,this.2.2.1,this.2.2.2,M,N,h3,h4⟩
def Ru (i m:Int):Bool:=bif decide (i<0) then true else decide (m<=i)
def H1 (e i m:Int):Int:=bif e==0 then(bif Ru i m then 4 else 0) else e
theorem FN:jQ H G T Q n4 f4 n6 f6=m5 H G T Q n4 f4 n6 f6:=congrArg (λt=>t.2.2) (ic4 H G T Q n4 f4 n6 f6)
theorem iu5 {i:Int} {m:Nat} (hm:m<=9223372036854775807):bT i 0 (I ((m:Int)-1))=Ru i m:=by
 unfold bT Ru;rw[D5 E E];by_cases h:i<0
 ·rw[BH h];rfl
 ·rw[eZ h,cond_false,cond_false]
  by_cases g:(m:Int)<=i
  ·rw[BH g];exact BH E
  ·rw[eZ g];exact eZ E
theorem ale {i:Int} {m:Nat} (hm:m5 H (A aN G) T (A aX Q) n4 (A aY f4) n6 (A aG f6)=0->m<=9223372036854775807) :
 Lz H (A aN G) T (A aX Q) n4 (A aY f4) n6 (A aG f6) 2 (A L (cq [D i,D m] 0 1))=H1 (m5 H (A aN G) T (A aX Q) n4 (A aY f4) n6 (A aG f6)) i m:=by
 unfold Lz XN H1;simp only[aqh,FN];cases he:m5 H (A aN G) T (A aX Q) n4 (A aY f4) n6 (A aG f6)==0 with
 |false=>rfl
 |true=>rw[cond_true,cond_true];have:=hm (HK he);rw[← iu5 this];show(bif !(true&&!bT i 0 (I ((m:Int)-1))) then _ else _)=_;rw[Bool.true_and,Il]
end
end
end Go.Dx
namespace Go.Dx
open Go.IntKind (i64 u64 u8)
open Go.Sx Go.Proofs
variable (H:Nat) (G:bk) (R:Int) (s0:ByteArray) (S:Int) (T:Nat) (Q:bk) (Z x3 O:Int) (n5:Nat) (f5:bk) (x5 x6:Int) (n7:Nat) (f7:bk) (x7 x8:Int) (n9:Nat) (f9:bk) (x9:Int) (q:Nat) (Y:bk) (Qm:Nat) (Qd:bk) (Qu:Nat) (Qf:bk)
noncomputable section
structure yD (H:Nat) (G:bk) (T:Nat) (Q:bk):Prop where
 l0:H<=10
 l2:T<=20
 tb:∀i,i<H->oB (A ao G) i=0
 lm:∀i,i<T->rL H (A al Q) i=0
theorem xI {H:Nat} {G:bk} {T:Nat} {Q:bk} (h:dA H G T Q=0):yD H G T Q:=by
 unfold dA Kb at h;cases hl:(bif decide (10<(H:Int)) then true else decide (20<(T:Int))) with
 |true=>rw[hl]at h;cases h
 |false=>
   rw[hl]at h;obtain⟨M,N⟩:=ln h;obtain⟨h3,_⟩:=ln N;have a:(decide (10<(H:Int)))=false:=by cases hh:decide (10<(H:Int)) with|false=>rfl|true=>rw[hh]at hl;cases hl
   rw[a]at hl;have b:=H3 hl;have a:=H3 a;exact⟨E,E,M,h3⟩
theorem qt {x a b:Int} (h:bz x a b=true):a<=x/\x<=b:=by
 unfold bz at h;cases M:decide (a<=x) with
 |false=>rw[M]at h;cases h|true=>rw[M]at h;exact⟨Fv M,Fv h⟩
theorem M2 {a b:Bool} (h:KW a b=false):a=true/\b=true:=by unfold KW at h;cases a<;>cases b<;>first|exact⟨rfl,rfl⟩|cases h
def ET (x:List V):Nat:=aU (aM (ap (ap (ap x))))
def uQ (x:List V):Nat->List V:=du (aM (ap (ap (ap x))))
structure nm (x:List V):Prop where
 u:2<=aU (aM (ap x))/\aU (aM (ap x))<=12
 v:2<=aU (aM (ap (ap x)))/\aU (aM (ap (ap x)))<=12
 n:ET x=aU (aM (ap x))
 row:∀i,i<ET x->aU (aM (uQ x i))=aU (aM (ap (ap x)))
 side:0<=eV x/\eV x<=10000000
 sky:0<=ck x/\ck x<=10000000
 val:∀i,i<ET x->∀j,j<aU (aM (uQ x i))->0<=aE (du (aM (uQ x i)) j)/\aE (du (aM (uQ x i)) j)<=10000000
theorem iQ {b:Bool} {k z:Int} (h:(bif b then k else z)=0) (W:k≠0):b=false/\z=0:=by
 cases b with
 |true=>exact absurd h W|false=>exact⟨rfl,h⟩
theorem GI {b:Bool} (h:(!b)=false):b=true:=by cases b<;>first|rfl|cases h
theorem rN {a b:Bool} (h:(a&&b)=true):a=true/\b=true:=by cases a<;>cases b<;>first|exact⟨rfl,rfl⟩|cases h
theorem aqp {n:Nat} {p:Nat->Bool} (h:jl n p=false):∀ i,i<n->p i=false:=λi hi=>by
 cases hp:p i with
 |false=>rfl|true=>rw[eF i hi hp]at h;cases h
theorem Ku {G:bk} {a:Nat} (h:oB (A ao G) a=0):nm (G a):=by
 unfold oB at h;obtain⟨_,h⟩:=iQ h Ej;obtain⟨_,h⟩:=iQ h Ej;unfold OI at h;obtain⟨M,h⟩:=iQ h Ej;obtain⟨_,h⟩:=iQ h Ej;obtain⟨_,h⟩:=iQ h Ej;obtain⟨N,h⟩:=iQ h Ej;obtain⟨h3,h⟩:=iQ h Ej;obtain⟨h4,_⟩:=iQ h Ej;obtain⟨u,v⟩:=M2 M;have u:=qt u;have v:=qt v;have g:uA (eV (G a)) (ck (G a))=true:=(rN (GI h4)).1;have w:fM (ET (G a)) (xr (aU (aM (ap (ap (G a))))) (A [.sl L] (uQ (G a))))=true:=(rN (GI h4)).2;have row:∀i,i<ET (G a)->aU (aM (uQ (G a) i))=aU (aM (ap (ap (G a)))):=λi hi=>by have:=aqp h3 i hi;have:((aU (aM (uQ (G a) i)):Int)!=(aU (aM (ap (ap (G a)))):Int))=false:=this;have:=HK (by simpa using this:((aU (aM (uQ (G a) i)):Int)==(aU (aM (ap (ap (G a)))):Int))=true);omega
 unfold uA at g;have g1:bz (eV (G a)) 0 10000000=true:=by
  cases hh:bz (eV (G a)) 0 10000000 with
  |true=>rfl|false=>rw[hh]at g;cases g
 rw[g1]at g
 exact ⟨⟨by have:=u.1;exact Int.ofNat_le.1 this,by have:=u.2;exact Int.ofNat_le.1 this⟩,⟨by have:=v.1;exact Int.ofNat_le.1 this,by have:=v.2;exact Int.ofNat_le.1 this⟩,
  by have:((ET (G a):Int)!=(aU (aM (ap (G a))):Int))=false:=N
     have:=HK (by simpa using this:((ET (G a):Int)==(aU (aM (ap (G a))):Int))=true);omega,
  row,qt g1,qt g,λi hi j hj=>by rw[row i hi]at hj;exact qt (dh (dh w i hi) j hj)⟩
structure WS (H:Nat) (x:List V):Prop where
 t:0<=bM x/\bM x<H
 kind:1<=d9 x/\d9 x<=3
 lum:1<=cH x/\cH x<=1000000
theorem XE {H:Nat} {Q:bk} {a:Nat} (hn:H<=10) (h:rL H (A al Q) a=0):WS H (Q a):=by unfold rL at h;obtain⟨_,h⟩:=iQ h Ej;obtain⟨_,h⟩:=iQ h Ej;unfold WP F1 at h;obtain⟨M,h⟩:=iQ h Ej;obtain⟨N,h⟩:=iQ h Ej;obtain⟨h3,h⟩:=iQ h Ej;have M:=qt (GI M:bz (bM (Q a)) 0 (I ((H:Int)-1))=true);have N:=qt (GI N:bz (d9 (Q a)) 1 3=true);have h3:=qt ((rN (GI h3)).1:bz (cH (Q a)) 1 1000000=true);rw[D5 E E]at M;exact⟨⟨M.1,E⟩,N,h3⟩
def Hd (dx dy:Int):Prop:=(-1000<=dx/\dx<=1000)/\(-1000<=dy/\dy<=1000)/\(dx≠0∨dy≠0)
def Bd (x:Int):Prop:=-1000000000<=x/\x<=1000000000
theorem CV {a b:Int} (ha:Bd a) (hb:-1000<=b/\b<=1000):-1000000000000<=a*b/\a*b<=1000000000000:=by unfold Bd at ha;have h:=Hz (show a.natAbs<=1000000000 by omega) (show b.natAbs<=1000 by omega);rw[← Int.natAbs_mul]at h;omega
theorem sqB {a:Int} (ha:-1000<=a/\a<=1000):0<=a*a/\a*a<=1000000/\(a≠0->1<=a*a):=by have h:=Hz (show a.natAbs<=1000 by omega) (show a.natAbs<=1000 by omega);rw[← Int.natAbs_mul_self' a];refine⟨E,E,λh0=>?_⟩;have:1<=a.natAbs*a.natAbs:=Hz (show 1<=a.natAbs by omega) (show 1<=a.natAbs by omega);omega
theorem KM {dx dy:Int} (h:Hd dx dy):1<=cj dx dy/\cj dx dy<=2000000:=by
 obtain⟨a,b,c⟩:=h;have M:=sqB a;have N:=sqB b;unfold cj;rw[D5 (x:=dx*dx) E E,D5 (x:=dy*dy) E E,D5 E E];rcases c with c|c
 ·have:=M.2.2 c;omega
 ·have:=N.2.2 c;omega
theorem wm (x:Int):cE x=ir x:=by unfold cE ir;omega
theorem mkE {n:Nat}:eb n<=n:=by
 have h:=(jE n).1;cases hr:eb n with
 |zero=>omega
 |succ k=>rw[hr]at h;have:=Hz (show 1<=k+1 by omega) (Em (k+1));omega
theorem C48 {n:Nat} (h:1<=n):1<=eb n:=by
 have N:=(jE n).2;cases hr:eb n with
 |zero=>rw[hr]at N;omega|succ k=>omega
theorem qc {x:Int} (h:x<=3999999999999999999):dX x=fG x:=by unfold dX fG lS iW;rw[show min x 4611686018427387903=x by omega,show min x 3999999999999999999=x by omega]
theorem CQ {x:Int} (h:x<=3999999999999999999):Gt x=gk x:=by unfold Gt gk;rw[qc h]
theorem sA {x:Int} (M:1<=x):1<=fG x/\fG x<=3999999999999999999:=by
 unfold fG;have a:=C48 (n:=iW x) (by unfold iW;omega);have b:=mkE (n:=iW x);have:iW x<=3999999999999999999:=by unfold iW;omega
 omega
theorem aru {x:Int} (M:1<=x):1<=gk x:=by
 have:=sA M;unfold gk;cases decide (I (fG x*fG x)<x) with
 |true=>show 1<=I (fG x+1);rw[D5 E E];omega|false=>exact this.1
theorem fz13 {s:Int} (h:1<=s/\s<=2000000):NY s:=by unfold NY;rw[D5 (x:=1000000*s) E E];exact⟨λh0=>by have:=aru (x:=1000000*s) E;omega,λh0=>by have:=(sA (x:=1000000*s) E).1;omega⟩
def G4 (x:Int):Prop:=-2000000000000<=x/\x<=2000000000000
theorem lL {a:Int} (h:G4 a):I (1000*a)=1000*a:=by unfold G4 at h;exact D5 E E
section
variable {a b c d s:Int} (ha:G4 a) (hb:G4 b) (hc:G4 c) (hd:G4 d) (hs:1<=s/\s<=2000000)
include a b c d s ha hb hc hd hs
theorem asC :
 (bif decide (min (min (min (min (I (1000*a)) (I (1000*a))) (I (1000*b))) (I (1000*c))) (I (1000*d))<0)
   then cE (dq (min (min (min (min (I (1000*a)) (I (1000*a))) (I (1000*b))) (I (1000*c))) (I (1000*d))) (dX (I (1000000*s))))
   else cE (dq (min (min (min (min (I (1000*a)) (I (1000*a))) (I (1000*b))) (I (1000*c))) (I (1000*d))) (Gt (I (1000000*s)))))=Kk (min (min (min (min a a) c) b) d) s:=by
 have hm:G4 (min (min (min (min a a) c) b) d):=by unfold G4 at *;omega
 rw[lL ha,lL hb,lL hc,lL hd];unfold Kk;rw[lL hm,wm,wm,qc (by rw[D5 E E];omega),CQ (by rw[D5 E E];omega)];rw[show min (min (min (min (1000*a) (1000*a)) (1000*b)) (1000*c)) (1000*d)=1000*min (min (min (min a a) c) b) d by omega];rw[show decide (1000*min (min (min (min a a) c) b) d<0)=decide (min (min (min (min a a) c) b) d<0) from decide_eq_decide.2 E];rfl
theorem aop :
 (bif decide (max (max (max (max (I (1000*a)) (I (1000*a))) (I (1000*b))) (I (1000*c))) (I (1000*d))<0)
   then cE (dU (max (max (max (max (I (1000*a)) (I (1000*a))) (I (1000*b))) (I (1000*c))) (I (1000*d))) (Gt (I (1000000*s))))
   else cE (dU (max (max (max (max (I (1000*a)) (I (1000*a))) (I (1000*b))) (I (1000*c))) (I (1000*d))) (dX (I (1000000*s)))))=KN (max (max (max (max a a) c) b) d) s:=by
 have hm:G4 (max (max (max (max a a) c) b) d):=by unfold G4 at *;omega
 rw[lL ha,lL hb,lL hc,lL hd];unfold KN;rw[lL hm,wm,wm,qc (by rw[D5 E E];omega),CQ (by rw[D5 E E];omega)];rw[show max (max (max (max (1000*a) (1000*a)) (1000*b)) (1000*c)) (1000*d)=1000*max (max (max (max a a) c) b) d by omega];rw[show decide (1000*max (max (max (max a a) c) b) d<0)=decide (max (max (max (max a a) c) b) d<0) from decide_eq_decide.2 E];rfl
end
theorem Uk {dx dy x y:Int} (h:Hd dx dy) (hx:Bd x) (hy:Bd y):G4 (I (I (x*dy)-I (y*dx))):=by have M:=CV hx h.2.1;have N:=CV hy h.1;unfold G4;rw[D5 (x:=x*dy) E E,D5 (x:=y*dx) E E,D5 E E];omega
theorem T7 {dx dy x y:Int} (h:Hd dx dy) (hx:Bd x) (hy:Bd y):G4 (I (I (x*dx)+I (y*dy))):=by have M:=CV hx h.1;have N:=CV hy h.2.1;unfold G4;rw[D5 (x:=x*dx) E E,D5 (x:=y*dy) E E,D5 E E];omega
def Pt:bm:=(95,.con abO)::Ii
theorem asG:aV Tryz.prog BN D7 Pt:=.con acI (FH)
def dJ:Int:=aeE 4 (Ac (bH 3 (bH 2 (bH 1 (λx=>[D (I (I (R*x5)-I (Z*O)))]) λx=>[D (I (I (S*x5)-I (Z*O)))]) λx=>[D (I (I (R*x5)-I (x3*O)))]) λx=>[D (I (I (S*x5)-I (x3*O)))])) (I (I (O*O)+I (x5*x5)))
def fk:Int:=afd 4 (Ac (bH 3 (bH 2 (bH 1 (λx=>[D (I (I (R*x5)-I (Z*O)))]) λx=>[D (I (I (S*x5)-I (Z*O)))]) λx=>[D (I (I (R*x5)-I (x3*O)))]) λx=>[D (I (I (S*x5)-I (x3*O)))])) (I (I (O*O)+I (x5*x5)))
def dL:Int:=aeE 4 (Ac (bH 3 (bH 2 (bH 1 (λx=>[D (I (I (R*O)+I (Z*x5)))]) λx=>[D (I (I (S*O)+I (Z*x5)))]) λx=>[D (I (I (R*O)+I (x3*x5)))]) λx=>[D (I (I (S*O)+I (x3*x5)))])) (I (I (O*O)+I (x5*x5)))
def fe:Int:=afd 4 (Ac (bH 3 (bH 2 (bH 1 (λx=>[D (I (I (R*O)+I (Z*x5)))]) λx=>[D (I (I (S*O)+I (Z*x5)))]) λx=>[D (I (I (R*O)+I (x3*x5)))]) λx=>[D (I (I (S*O)+I (x3*x5)))])) (I (I (O*O)+I (x5*x5)))
def aa6:RT Empty:=.cb (.cb (.cb (.obp ((Gt (I ((1000000:Int)*cj R S))=(0:Int)->False)/\(dX (I ((1000000:Int)*cj R S))=(0:Int)->False)) (.obt (.obp ((Gt (I ((1000000:Int)*cj R S))=(0:Int)->False)/\(dX (I ((1000000:Int)*cj R S))=(0:Int)->False)) (.obt (.ret (V.agg [D (jP R S Z O Z x5 x3 O x3 x5 (Gt (I (1000000*cj R S))) (dX (I (1000000*cj R S)))),D (jW R S Z O Z x5 x3 O x3 x5 (Gt (I (1000000*cj R S))) (dX (I (1000000*cj R S)))),D (jV R S Z O Z x5 x3 O x3 x5 (Gt (I (1000000*cj R S))) (dX (I (1000000*cj R S)))),D (j7 R S Z O Z x5 x3 O x3 x5 (Gt (I (1000000*cj R S))) (dX (I (1000000*cj R S))))]))))))))
theorem ng2:dZ d7 (ba JJ Pt u0 Cw [V.agg [D R,D S],D Z,D x3,D O,D x5]) (aa6 R S Z x3 O x5):=cG
def fza16:Int:=jP R S Z O Z x5 x3 O x3 x5 (Gt (I (1000000*cj R S))) (dX (I (1000000*cj R S)))
def iza10:Int:=jW R S Z O Z x5 x3 O x3 x5 (Gt (I (1000000*cj R S))) (dX (I (1000000*cj R S)))
def fzb14:Int:=jV R S Z O Z x5 x3 O x3 x5 (Gt (I (1000000*cj R S))) (dX (I (1000000*cj R S)))
def iza20:Int:=j7 R S Z O Z x5 x3 O x3 x5 (Gt (I (1000000*cj R S))) (dX (I (1000000*cj R S)))
theorem apY {R S Z x3 O x5:Int} (hd:Hd R S) (N:Bd Z) (h3:Bd x3) (h4:Bd O) (h5:Bd x5):jP R S Z O Z x5 x3 O x3 x5 (Gt (I (1000000*cj R S))) (dX (I (1000000*cj R S)))=dJ Z x3 O x5 R S:=asC (Uk hd N h4) (Uk hd N h5) (Uk hd h3 h4) (Uk hd h3 h5) (KM hd)
theorem aqq {R S Z x3 O x5:Int} (hd:Hd R S) (N:Bd Z) (h3:Bd x3) (h4:Bd O) (h5:Bd x5):jW R S Z O Z x5 x3 O x3 x5 (Gt (I (1000000*cj R S))) (dX (I (1000000*cj R S)))=fk Z x3 O x5 R S:=aop (Uk hd N h4) (Uk hd N h5) (Uk hd h3 h4) (Uk hd h3 h5) (KM hd)
theorem aqC {R S Z x3 O x5:Int} (hd:Hd R S) (N:Bd Z) (h3:Bd x3) (h4:Bd O) (h5:Bd x5):jV R S Z O Z x5 x3 O x3 x5 (Gt (I (1000000*cj R S))) (dX (I (1000000*cj R S)))=dL Z x3 O x5 R S:=asC (T7 hd N h4) (T7 hd N h5) (T7 hd h3 h4) (T7 hd h3 h5) (KM hd)
theorem aqP {R S Z x3 O x5:Int} (hd:Hd R S) (N:Bd Z) (h3:Bd x3) (h4:Bd O) (h5:Bd x5):j7 R S Z O Z x5 x3 O x3 x5 (Gt (I (1000000*cj R S))) (dX (I (1000000*cj R S)))=fe Z x3 O x5 R S:=aop (T7 hd N h4) (T7 hd N h5) (T7 hd h3 h4) (T7 hd h3 h5) (KM hd)
theorem ac6 (hp:Hd R S/\Bd Z/\Bd x3/\Bd O/\Bd x5):a6 dK (aa6 R S Z x3 O x5) (.agg [D (dJ Z x3 O x5 R S),D (fk Z x3 O x5 R S),D (dL Z x3 O x5 R S),D (fe Z x3 O x5 R S)]):=by
 obtain⟨hd,N,h3,h4,h5⟩:=hp;have hs:=KM hd;have hr:=fz13 hs;have hw:I (1000000*cj R S)<=3999999999999999999:=by rw[D5 E E];omega
 unfold NY at hr;rw[← CQ hw,← qc hw]at hr;exact aC (ak (aC (ak (aC (ak (aP hr (ak (aP hr (ak (aA (by rw[apY hd N h3 h4 h5,aqq hd N h3 h4 h5,aqC hd N h3 h4 h5,aqP hd N h3 h4 h5])))))))))))
def aaA:aD:=cK [.agg aK,tI,tI,tI,tI] (λ
 |[.agg [.int _ R,.int _ S],.int _ Z,.int _ x3,.int _ O,.int _ x5]=>Hd R S/\Bd Z/\Bd x3/\Bd O/\Bd x5|_=>False) λ
 |[.agg [.int _ R,.int _ S],.int _ Z,.int _ x3,.int _ O,.int _ x5]=>.agg [D (dJ Z x3 O x5 R S),D (fk Z x3 O x5 R S),D (dL Z x3 O x5 R S),D (fe Z x3 O x5 R S)]|_=>.any
theorem afA:c7 aaA 66:=bo asG λ_ hp=>er (ng2 ..) (ac6 _ _ _ _ _ _ hp)
end
noncomputable section
theorem aiC {p:Nat->Int} {z:Int}:∀ k:Nat,1<=k->vY p z k=max z (vY p (p 0) k)
 |0,h=>absurd h Ej|1,_=>by show max z (p 0)=max z (max (p 0) (p 0));rw[Int.max_self]
 |k+2,_=>by show max (vY p z (k+1)) (p (k+1))=max z (max (vY p (p 0) (k+1)) (p (k+1)));rw[aiC (k+1) E,Int.max_assoc]
theorem BZ {n5:Nat} {f5:bk} {z:Int} (h:∀ i,i<n5->1<=aU (aM (f5 i))):rM n5 f5 z=Ab n5 f5 z:=by
 unfold rM Ab;have:∀ k,k<=n5->vY (λi=>De f5 i) z k=P4 f5 z k:=λk=>by
  induction k with
  |zero=>intro _;rfl
  |succ k ih=>intro W;show max (vY (λi=>De f5 i) z k) (De f5 k)=vY (λj=>aE (du (aM (f5 k)) j)) (P4 f5 z k) (aU (aM (f5 k)));rw[ih E,aiC _ (h k E)];rfl
 exact this n5 (Em _)
def CK (x:List V):Int:=Ab (ET x) (A [.sl L] (uQ x)) (eV x)
def LB (H:Nat) (G:bk) (O:Int):Int:=bif !cM O (-1) (I ((H:Int)-1)) then 4 else bif decide (0<=O) then(bif decide (10000<CK (G O.toNat)) then 7 else 0) else 0
def ai9 (x:List V):Bool:=decide (100000000000<I (max (CK (G (bM x).toNat)) (ck ((G (bM x).toNat)))*cH x))
def yW (a b c d e g:Bool):Int:=bif !a then 4 else bif !!b then(bif !!c then(bif !d then 7 else bif e then(bif g then 7 else 0) else 0) else 7) else 7
def zf (G:bk) (T:Nat) (Q Qd Qf:bk) (i:Nat):Int:=yW (cM (aE ((Qd i))) (-1) (I ((T:Int)-1))) (cM (aE ((Qf i))) 0 200000) (cM (bM ((Qf i))) 0 600) (cM (d9 ((Qf i))) 0 1000) (decide (0<=aE ((Qd i)))) (ai9 G (Q (aE ((Qd i))).toNat))
section
variable {a b c d e g:Bool}
include a b c d e g
theorem ajL (h:a=false):yW a b c d e g=4:=by subst h;rfl
theorem amX (h:a=true) (N:b=false):yW a b c d e g=7:=by subst h N;rfl
theorem am0 (h:a=true) (N:b=true) (h3:c=false):yW a b c d e g=7:=by subst h N h3;rfl
theorem aiS (h:a=true) (N:b=true) (h3:c=true) (h4:d=false):yW a b c d e g=7:=by subst h N h3 h4;rfl
theorem al1 (h:a=true) (N:b=true) (h3:c=true) (h4:d=true) (h5:e=false):yW a b c d e g=0:=by subst h N h3 h4 h5;rfl
theorem ank (h:a=true) (N:b=true) (h3:c=true) (h4:d=true) (h5:e=true) (h6:g=true):yW a b c d e g=7:=by subst h N h3 h4 h5 h6;rfl
theorem akn (h:a=true) (N:b=true) (h3:c=true) (h4:d=true) (h5:e=true) (h6:g=false):yW a b c d e g=0:=by subst h N h3 h4 h5 h6;rfl
end
def Lc (q Qm Qu:Nat):Bool:=bif(Qm:Int)!=(q:Int) then true else(Qu:Int)!=(q:Int)
def NV:Int×Int×Int:=bif dA H (A ao G) T (A al Q)!=0 then(1,0,dA H (A ao G) T (A al Q)) else bif m5 n5 (A aN f5) n7 (A aX f7) n9 (A aY f9) q (A aG Y)!=0 then(2,0,m5 n5 (A aN f5) n7 (A aX f7) n9 (A aY f9) q (A aG Y)) else bif LB H G O !=0 then(3,0,LB H G O) else bif Lc q Qm Qu then(4,0,2) else Df q (zf G T Q Qd Qf) 4 (0,0,0)
def Bu:Int:=(NV H G T Q O n5 f5 n7 f7 n9 f9 q Y Qm Qd Qu Qf).1
def Bw:Int:=(NV H G T Q O n5 f5 n7 f7 n9 f9 q Y Qm Qd Qu Qf).2.1
def qg:Int:=(NV H G T Q O n5 f5 n7 f7 n9 f9 q Y Qm Qd Qu Qf).2.2
theorem E7 {q Qm Qu:Nat} (h:Lc q Qm Qu=false):Qm=q/\Qu=q:=by
 unfold Lc at h;cases M:((Qm:Int)!=(q:Int)) with
 |true=>rw[M]at h;cases h
 |false=>rw[M]at h;have h:((Qu:Int)!=(q:Int))=false:=h;have M:=HK (by simpa using M:((Qm:Int)==(q:Int))=true);have h:=HK (by simpa using h:((Qu:Int)==(q:Int))=true);omega
def Jk:bm:=(66,.con aaA)::Pt
theorem aoR:aV Tryz.prog BN D7 Jk:=.con afA (asG)
theorem qK {x:Int} (h:(x !=0)=false):x=0:=HK (by simpa using h:(x==0)=true)
theorem anN {x:Int} (h:x≠0):(x !=0)=true:=by simpa using h
theorem K5 {b:Bool} (h:(!b)=true):b=false:=by cases b<;>first|rfl|cases h
theorem Ic {b:Bool} (h:(!!b)=true):b=true:=by cases b<;>first|rfl|cases h
theorem amx {b:Bool} (h:(!!b)=false):b=false:=by cases b<;>first|rfl|cases h
section
variable {QZ:Type} {Nx:QZ->V->Prop} {r:V} {b:Bool} {x y:RT QZ}
include QZ Nx r b x y
theorem c68 (h:b=true) (hx:a6 Nx x r):a6 Nx (.br b x y) r:=E2 (λ_=>hx) (λh'=>by rw[h]at h';cases h')
theorem fo3 (h:b=false) (hx:a6 Nx y r):a6 Nx (.br b x y) r:=E2 (λh'=>by rw[h]at h';cases h') (λ_=>hx)
end
theorem nm.of_el {G:bk} {i:Nat} (h:nm (A ao G i)):nm (G i):=⟨h.u,h.v,h.n,h.row,h.side,h.sky,h.val⟩
theorem AM {x:List V} (h:nm x):∀i:Nat,i<aU (aM (ap (ap (ap x))))->1<=aU (aM (du (aM (ap (ap (ap x)))) i)):=λi hi=>by have M:=h.row i hi;have N:=h.v.1;show 1<=aU (aM (uQ x i));omega
theorem AG {x:List V} (h:nm x):∀i:Nat,i<ET x->1<=aU (aM (A [.sl L] (uQ x) i)):=AM h
theorem PW {O:Int} {H:Nat} (h:cM O (-1) (I ((H:Int)-1))=true) (N:decide (0<=O)=true) (hn:H<=9223372036854775807):decide (0<=O/\O<(H:Int))=true:=by have:=qt h;rw[D5 E E]at this;have:=Fv N;exact BH E
inductive qJ where|L0 (_:Int)
def jcl:qJ->bZ×List A7×Option Ex
 |.L0 Qg=>([(82,D Qg),(81,D (Qm:Int)),(80,V.sl Qm (A L Qd)),(1,V.pl 0 0)],[A7.cells [V.sl H (A ao G),V.sl T (A al Q),D O,V.sl n5 (A aN f5),V.sl n7 (A aX f7),V.sl n9 (A aY f9),V.sl q (A aG Y),V.sl Qm (A L Qd),V.sl Qu (A CE Qf)] 35],none)
def aie:qJ->JJ
 |.L0 _=>(0,[])
def aqc:BO (cX JJ):=ba JJ Jk u0 afN [V.agg [V.sl H (A ao G),V.sl T (A al Q),D O,V.sl n5 (A aN f5),V.sl n7 (A aX f7),V.sl n9 (A aY f9),V.sl q (A aG Y),V.sl Qm (A L Qd),V.sl Qu (A CE Qf)]]
def DR (cx:List Cx):Lp JJ:=iZ (ik (aqc H G T Q O n5 f5 n7 f7 n9 f9 q Y Qm Qd Qu Qf) [false,false,false,true,false,false])
def acv:JJ->Lp JJ
 |(0,cx)=>DR H G T Q O n5 f5 n7 f7 n9 f9 q Y Qm Qd Qu Qf cx|(_,cx)=>DR H G T Q O n5 f5 n7 f7 n9 f9 q Y Qm Qd Qu Qf cx
def anv:LD JJ qJ:=⟨aie,acv H G T Q O n5 f5 n7 f7 n9 f9 q Y Qm Qd Qu Qf,jcl H G T Q O n5 f5 n7 f7 n9 f9 q Y Qm Qd Qu Qf⟩
def xJ (H:Nat) (G:bk) (T:Nat) (Q:bk) (O:Int) (n5:Nat) (f5:bk) (n7:Nat) (f7:bk) (n9:Nat) (f9:bk) (q:Nat) (Y:bk) (Qm:Nat) (Qd:bk) (Qu:Nat) (Qf:bk):qJ->RT qJ
 |.L0 Qg=>.br (decide (Qg<(Qm:Int))) (.ob (dI Qg Qm) (.ob (dI Qg Qu) (.am T (.cb (.br (!eJ (aE (Qd Qg.toNat)) (-1) (I ((T:Int)-1))) (.ret (V.tup [D 4,D Qg,D 4])) (.cb (.obi (.br (!!eJ (aE (Qf Qg.toNat)) 0 200000) (.ob (!!eJ (aE (Qf Qg.toNat)) 0 200000) (.cb (.obi (.br (!!eJ (bM (Qf Qg.toNat)) 0 600) (.ob (!!eJ (bM (Qf Qg.toNat)) 0 600) (.cb (.br (!eJ (d9 (Qf Qg.toNat)) 0 1000) (.ret (V.tup [D 4,D Qg,D 7])) (.br (decide (aE (Qd Qg.toNat)<0)) (.next H7 (qJ.L0 (I (Qg+1))) []) (.ob (dI (aE (Qd Qg.toNat)) T) (.ob (dI (bM (Q (aE (Qd Qg.toNat)).toNat)) H) (.obp (∀(i:Nat),i<aU (aM (ap (ap (ap (G (bM (Q (aE (Qd Qg.toNat)).toNat)).toNat)))))->(1:Nat)<=aU (aM (du (aM (ap (ap (ap (G (bM (Q (aE (Qd Qg.toNat)).toNat)).toNat))))) i))) (.obt (.br (decide (100000000000<I (max (rM (aU (aM (ap (ap (ap (G (bM (Q (aE (Qd Qg.toNat)).toNat)).toNat)))))) (λi=>au [Ty.sl L] (du (aM (ap (ap (ap (G (bM (Q (aE (Qd Qg.toNat)).toNat)).toNat))))) i)) (eV (G (bM (Q (aE (Qd Qg.toNat)).toNat)).toNat))) (ck (G (bM (Q (aE (Qd Qg.toNat)).toNat)).toNat))*cH (Q (aE (Qd Qg.toNat)).toNat)))) (.ret (V.tup [D 4,D Qg,D 7])) (.next H7 (qJ.L0 (I (Qg+1))) [])))))))))) (.ret (V.tup [D 4,D Qg,D 7])))))) (.ret (V.tup [D 4,D Qg,D 7])))))))))) (.ret (V.tup Jl))
def Mu:RT qJ:=dm (Qd,Qf) (.obp ((aI H G)/\aI T Q) (.obt (.br (bu H (A ao G) T (A al Q)!=0) (.ret (V.tup [D 1,D 0,D (bu H (A ao G) T (A al Q))])) (.obp ((aI n5 f5)/\aI q Y) (.obt (.br (jQ n5 (A aN f5) n7 (A aX f7) n9 (A aY f9) q (A aG Y)!=0) (.ret (V.tup [D 2,D 0,D (jQ n5 (A aN f5) n7 (A aX f7) n9 (A aY f9) q (A aG Y))])) (.am q (.am H (.cb (.br (!eJ O (-1) (I ((H:Int)-1))) (.ret (V.tup [D 3,D 0,D 4])) (.iv (.obi (.obj (decide (0<=O)) (dI O H) (.obi (.br (decide (0<=O)) (.ob (decide (0<=O)) (.obp (∀(i:Nat),i<aU (aM (ap (ap (ap (G O.toNat)))))->(1:Nat)<=aU (aM (du (aM (ap (ap (ap (G O.toNat))))) i))) (.obt (.br (decide (10000<rM (aU (aM (ap (ap (ap (G O.toNat)))))) (λi=>au [Ty.sl L] (du (aM (ap (ap (ap (G O.toNat))))) i)) (eV (G O.toNat)))) (.ret (V.tup [D 3,D 0,D 7])) (.am Qm (.ii (.asm ((!(Qm:Int)!=(q:Int))=true->Qu<=9223372036854775807) (.ii (.obi (.br (bif(Qm:Int)!=(q:Int) then true else(Qu:Int)!=(q:Int)) (.ret (V.tup [D 4,D 0,D 2])) (.am Qm (.enter H7 (qJ.L0 0) [])))))))))))) (.am Qm (.ii (.asm ((!(Qm:Int)!=(q:Int))=true->Qu<=9223372036854775807) (.ii (.obi (.br (bif(Qm:Int)!=(q:Int) then true else(Qu:Int)!=(q:Int)) (.ret (V.tup [D 4,D 0,D 2])) (.am Qm (.enter H7 (qJ.L0 0) [])))))))))))))))))))))))
theorem nc1:ig Jk u0 (anv H G T Q O n5 f5 n7 f7 n9 f9 q Y Qm Qd Qu Qf) (aqc H G T Q O n5 f5 n7 f7 n9 f9 q Y Qm Qd Qu Qf) (Mu H G T Q O n5 f5 n7 f7 n9 f9 q Y Qm Qd Qu Qf) (xJ H G T Q O n5 f5 n7 f7 n9 f9 q Y Qm Qd Qu Qf):=⟨cG,λs=>by cases s<;>exact cG⟩
theorem aiJ (hn:q<=9223372036854775807) (hT:∀ i,i<H->nm (G i)) (hL:∀ i:Nat,i<T->0<=bM (Q i)/\bM (Q i)<H):Ev (xJ H G T Q O n5 f5 n7 f7 n9 f9 q Y q Qd q Qf) (.L0 0) (PX (Df q (zf G T Q Qd Qf) 4 (0,0,0))):=by
 refine BE (n:=q) hn (λi=>zf G T Q Qd Qf i !=0) (P:=λi=>Ev (xJ H G T Q O n5 f5 n7 f7 n9 f9 q Y q Qd q Qf) (.L0 i) _) (λi Qw hj next=>Ev.of rfl (mC Qw (jw Qw (jw Qw (cg λiza1=>aC (ak ?_)))))) (λhj=>Ev.of rfl (lr (aA (by rw[in6 4 _ hj];rfl))));have RG:∀e,e≠0->zf G T Q Qd Qf i=e->dc (V.tup [D 4,D i,D e])=dc (PX (Df q (zf G T Q Qd Qf) 4 (0,0,0))):=λe he hc=>by rw[rkB 4 _ Qw (by rw[hc];exact anN he) hj,hc];rfl
 have Qo:zf G T Q Qd Qf i=0->(zf G T Q Qd Qf i !=0)=false:=λh=>by rw[h];rfl
 refine E2 (λh0=>aA (RG 4 Ej (ajL (K5 h0)))) (λh0=>aC (ak (BK (E2 (λM=>aL M (aC (ak (BK ?_)))) (λM=>aA (RG 7 Ej (amX (GI h0) (amx M))))))));refine E2 (λN=>aL N (aC (ak ?_))) (λN=>aA (RG 7 Ej (am0 (GI h0) (Ic M) (amx N))));refine E2 (λh3=>aA (RG 7 Ej (aiS (GI h0) (Ic M) (Ic N) (K5 h3)))) (λh3=>?_);refine E2 (λh4=>bb (next (Qo (al1 (GI h0) (Ic M) (Ic N) (GI h3) (eZ (λhh:0<=aE (Qd (i:Int).toNat)=>by have:=Fv h4;omega)))))) (λh4=>?_);have h5:decide (0<=aE (Qd (i:Int).toNat))=true:=BH (by have:=H3 h4;omega);have U:=PW (GI h0) h5 iza1;have VS:=Fv U;have ht:=hL (aE (Qd (i:Int).toNat)).toNat E;have hr:=hT (bM (Q (aE (Qd (i:Int).toNat)).toNat)).toNat E;refine aL U (aL (BH ht) (aP (AM hr) (ak ?_)));have hb:∀b,decide (100000000000<I (max (rM (ET (G (bM (Q (aE (Qd (i:Int).toNat)).toNat)).toNat)) (A [.sl L] (uQ (G (bM (Q (aE (Qd (i:Int).toNat)).toNat)).toNat))) (eV (G (bM (Q (aE (Qd (i:Int).toNat)).toNat)).toNat))) (ck (G (bM (Q (aE (Qd (i:Int).toNat)).toNat)).toNat))*cH (Q (aE (Qd (i:Int).toNat)).toNat)))=b->ai9 G (Q (aE (Qd i)).toNat)=b:=λb h=>by rw[BZ (AG hr)]at h;exact h
 exact E2 (λh6=>aA (RG 7 Ej (ank (GI h0) (Ic M) (Ic N) (GI h3) h5 (hb true h6)))) (λh6=>bb (next (Qo (akn (GI h0) (Ic M) (Ic N) (GI h3) h5 (hb false h6)))))
theorem ib0 (hp:aI H G/\aI T Q/\aI n5 f5/\aI q Y):a6 (Ev (xJ H G T Q O n5 f5 n7 f7 n9 f9 q Y Qm Qd Qu Qf)) (Mu H G T Q O n5 f5 n7 f7 n9 f9 q Y Qm Qd Qu Qf) (.tup [D (Bu H G T Q O n5 f5 n7 f7 n9 f9 q Y Qm Qd Qu Qf),D (Bw H G T Q O n5 f5 n7 f7 n9 f9 q Y Qm Qd Qu Qf),D (qg H G T Q O n5 f5 n7 f7 n9 f9 q Y Qm Qd Qu Qf)]):=by
 obtain⟨p0,p2,p5,p11⟩:=hp;show a6 _ _ (PX (NV H G T Q O n5 f5 n7 f7 n9 f9 q Y Qm Qd Qu Qf));unfold NV;rw[← show bu H (A ao G) T (A al Q)=dA H (A ao G) T (A al Q) from congrArg (λt=>t.2.2) (kT ..),← FN];refine aP ⟨p0,p2⟩ (ak (E2 (λh=>aA (by rw[h];rfl)) (λh=>?_)));rw[h];have V2:=xI (H:=H) (G:=A ao G) (T:=T) (Q:=A al Q) ((congrArg (λt=>t.2.2) (kT ..)).symm.trans (qK h));have hT:∀i,i<H->nm (G i):=λi hi=>nm.of_el (Ku (V2.tb i hi));have hL:∀i:Nat,i<T->0<=bM (Q i)/\bM (Q i)<H:=λi hi=>(XE V2.l0 (V2.lm i hi)).t;refine aP ⟨p5,p11⟩ (ak (E2 (λh'=>aA (by rw[h'];rfl)) (λh'=>?_)));rw[h'];have V3:=J4 (H:=n5) (G:=A aN f5) (T:=n7) (Q:=A aX f7) (n4:=n9) (f4:=A aY f9) (n6:=q) (f6:=A aG Y) (FN.symm.trans (qK h'));refine FW λ_=>?_;refine cg λVA=>aC (ak (E2 (λM=>?_) (λM=>?_)))
 ·have W:LB H G O=4:=by
   unfold LB;rw[show cM O (-1) (I ((H:Int)-1))=false from K5 M];rfl
  exact aA (by rw[W];rfl)
 ·have M:cM O (-1) (I ((H:Int)-1))=true:=GI M
  refine BK (BK (BK (BK (BK (fQ (λN=>?_) (BK (E2 (λN=>?_) (λN=>?_))))))))
  ·exact PW M N VA
  ·have hx:=Fv (PW M N VA)
   refine aL N (aP (AM (hT _ E)) (ak (E2 (λh3=>?_) (λh3=>?_))))
   ·have W:LB H G O=7:=by
     unfold LB CK;rw[M,N,← BZ (AG (hT O.toNat E))];exact congrArg (λb=>bif b then(7:Int) else 0) h3
    exact aA (by rw[W];rfl)
   have W:LB H G O=0:=by unfold LB CK;rw[M,N,← BZ (AG (hT O.toNat E))];exact congrArg (λb=>bif b then(7:Int) else 0) h3
   rw[W];cases hl:Lc q Qm Qu with
   |true=>exact FW λ_=>BK (BK (FW λ_=>BK (BK (BK (c68 hl (aA rfl))))))
   |false=>obtain⟨e1,e2⟩:=E7 hl;refine FW λ_=>BK (BK (FW λ_=>BK (BK (BK (fo3 hl (FW λ_=>aS ?_))))));subst e1 e2;exact aiJ _ _ _ _ _ _ _ _ _ _ _ _ _ _ _ (by have:=V3.l6;omega) hT hL
  ·have W:LB H G O=0:=by
    unfold LB;rw[M,N];rfl
   rw[W];cases hl:Lc q Qm Qu with
   |true=>exact FW λ_=>BK (BK (FW λ_=>BK (BK (BK (c68 hl (aA rfl))))))
   |false=>obtain⟨e1,e2⟩:=E7 hl;refine FW λ_=>BK (BK (FW λ_=>BK (BK (BK (fo3 hl (FW λ_=>aS ?_))))));subst e1 e2;exact aiJ _ _ _ _ _ _ _ _ _ _ _ _ _ _ _ (by have:=V3.l6;omega) hT hL
theorem ahN (hp:aI H (A ao G)/\aI T (A al Q)/\aI n5 (A aN f5)/\aI q (A aG Y)):a6 (Ev (xJ H G T Q O n5 f5 n7 f7 n9 f9 q Y Qm Qd Qu Qf)) (Mu H G T Q O n5 f5 n7 f7 n9 f9 q Y Qm Qd Qu Qf) (.tup [D (Bu H (A ao G) T (A al Q) O n5 (A aN f5) n7 (A aX f7) n9 (A aY f9) q (A aG Y) Qm (A L Qd) Qu (A CE Qf)),D (Bw H (A ao G) T (A al Q) O n5 (A aN f5) n7 (A aX f7) n9 (A aY f9) q (A aG Y) Qm (A L Qd) Qu (A CE Qf)),D (qg H (A ao G) T (A al Q) O n5 (A aN f5) n7 (A aX f7) n9 (A aY f9) q (A aG Y) Qm (A L Qd) Qu (A CE Qf))]):=ib0 H G T Q O n5 f5 n7 f7 n9 f9 q Y Qm Qd Qu Qf hp
def abf:aD:=cK [.agg [.sl ao,.sl al,tI,.sl aN,.sl aX,.sl aY,.sl aG,.sl L,.sl CE]] (λ
 |[.agg [.sl H G,.sl T Q,.int _ O,.sl n5 f5,.sl n7 f7,.sl n9 f9,.sl q Y,.sl Qm Qd,.sl Qu Qf]]=>aI H G/\aI T Q/\aI n5 f5/\aI q Y|_=>False) λ
 |[.agg [.sl H G,.sl T Q,.int _ O,.sl n5 f5,.sl n7 f7,.sl n9 f9,.sl q Y,.sl Qm Qd,.sl Qu Qf]]=>.tup [D (Bu H G T Q O n5 f5 n7 f7 n9 f9 q Y Qm Qd Qu Qf),D (Bw H G T Q O n5 f5 n7 f7 n9 f9 q Y Qm Qd Qu Qf),D (qg H G T Q O n5 f5 n7 f7 n9 f9 q Y Qm Qd Qu Qf)]|_=>.any
theorem asF:c7 abf 55:=bo aoR λ_ hp=>qV (nc1 ..) (ahN _ _ _ _ _ _ _ _ _ _ _ _ _ _ _ _ _ hp)
def I0:bm:=(55,.con abf)::Jk
theorem FQ:aV Tryz.prog BN D7 I0:=.con asF (aoR)
def ej:Int:=qg H (A ao G) T (A al Q) O n5 (A aN f5) n7 (A aX f7) n9 (A aY f9) q (A aG Y) Qm (A L Qd) Qu (A CE Qf)
def Tc:RT Empty:=.obp ((aI H G)/\(aI T Q)/\(aI n5 f5)/\aI q Y) (.obt (.ret (D (qg H (A ao G) T (A al Q) O n5 (A aN f5) n7 (A aX f7) n9 (A aY f9) q (A aG Y) Qm (A L Qd) Qu (A CE Qf)))))
theorem iy2:dZ d7 (ba JJ I0 u0 fx7 [V.agg [V.sl H (A ao G),V.sl T (A al Q),D O,V.sl n5 (A aN f5),V.sl n7 (A aX f7),V.sl n9 (A aY f9),V.sl q (A aG Y),V.sl Qm (A L Qd),V.sl Qu (A CE Qf)]]) (Tc H G T Q O n5 f5 n7 f7 n9 f9 q Y Qm Qd Qu Qf):=cG
def hval0:Int:=qg H (A ao G) T (A al Q) O n5 (A aN f5) n7 (A aX f7) n9 (A aY f9) q (A aG Y) Qm (A L Qd) Qu (A CE Qf)
theorem hze (hp:aI H G/\aI T Q/\aI n5 f5/\aI q Y):a6 dK (Tc H G T Q O n5 f5 n7 f7 n9 f9 q Y Qm Qd Qu Qf) (D (ej H G T Q O n5 f5 n7 f7 n9 f9 q Y Qm Qd Qu Qf)):=aP hp (ak (aA rfl))
theorem afH (hp:aI H (A ao G)/\aI T (A al Q)/\aI n5 (A aN f5)/\aI q (A aG Y)):a6 dK (Tc H G T Q O n5 f5 n7 f7 n9 f9 q Y Qm Qd Qu Qf) (D (ej H (A ao G) T (A al Q) O n5 (A aN f5) n7 (A aX f7) n9 (A aY f9) q (A aG Y) Qm (A L Qd) Qu (A CE Qf))):=hze H G T Q O n5 f5 n7 f7 n9 f9 q Y Qm Qd Qu Qf hp
def ha1:aD:=cK [.agg [.sl ao,.sl al,tI,.sl aN,.sl aX,.sl aY,.sl aG,.sl L,.sl CE]] (λ
 |[.agg [.sl H G,.sl T Q,.int _ O,.sl n5 f5,.sl n7 f7,.sl n9 f9,.sl q Y,.sl Qm Qd,.sl Qu Qf]]=>aI H G/\aI T Q/\aI n5 f5/\aI q Y|_=>False) λ
 |[.agg [.sl H G,.sl T Q,.int _ O,.sl n5 f5,.sl n7 f7,.sl n9 f9,.sl q Y,.sl Qm Qd,.sl Qu Qf]]=>D (ej H G T Q O n5 f5 n7 f7 n9 f9 q Y Qm Qd Qu Qf)|_=>.any
theorem aiu:c7 ha1 22:=bo FQ λ_ hp=>er (iy2 ..) (afH _ _ _ _ _ _ _ _ _ _ _ _ _ _ _ _ _ hp)
def hav:RT Empty:=.cb (.iv (.iv (.ii (.ret (V.bool (bif bif ta 4 (A L (cq [D R,D Z,D S,D x3] 0 1)) then decide (R<=Z) else false then decide (S<=x3) else false))))))
theorem iz8:dZ d7 (ba JJ I0 u0 aso [V.agg [D R,D S,D Z,D x3]]) (hav R S Z x3):=cG
def HN:Bool:=bif bif ta 4 (A L (cq [D R,D Z,D S,D x3] 0 1)) then decide (R<=Z) else false then decide (S<=x3) else false
def QT:V:=.bool (HN R S Z x3)
theorem adu:a6 dK (hav R S Z x3) (QT R S Z x3):=aC (ak (BK (BK (BK (BK (BK (BK (BK (BK (BK (BK (aA (by unfold QT HN;rfl)))))))))))))
def h12:aD:=cK [.agg kp] (λ_=>True) λ|[.agg [.int _ R,.int _ S,.int _ Z,.int _ x3]]=>QT R S Z x3|_=>.any
theorem ah9:c7 h12 23:=bo FQ λ_ hp=>er (iz8 ..) (adu _ _ _ _)
def Mh:bm:=(22,.con ha1)::(23,.con h12)::I0
theorem arc:aV Tryz.prog BN D7 Mh:=.con aiu (.con ah9 (FQ))
def pM:Int:=dJ (I (x6-S)) (I (x8-S)) (I (x7-Z)) (I (x9-Z)) O x5
def pY:Int:=fk (I (x6-S)) (I (x8-S)) (I (x7-Z)) (I (x9-Z)) O x5
def p8:Int:=dL (I (x6-S)) (I (x8-S)) (I (x7-Z)) (I (x9-Z)) O x5
def p9:Int:=fe (I (x6-S)) (I (x8-S)) (I (x7-Z)) (I (x9-Z)) O x5
def hcp:RT Empty:=dm (s0,x3) (.obp ((((-1000:Int)<=O/\O<=(1000:Int))/\((-1000:Int)<=x5/\x5<=(1000:Int))/\(O≠(0:Int)∨x5≠(0:Int)))/\((-1000000000:Int)<=I (x6-S)/\I (x6-S)<=(1000000000:Int))/\((-1000000000:Int)<=I (x8-S)/\I (x8-S)<=(1000000000:Int))/\((-1000000000:Int)<=I (x7-Z)/\I (x7-Z)<=(1000000000:Int))/\(-1000000000:Int)<=I (x9-Z)/\I (x9-Z)<=(1000000000:Int)) (.obt (.ret (V.agg [D (dJ (I (x6-S)) (I (x8-S)) (I (x7-Z)) (I (x9-Z)) O x5),D (fk (I (x6-S)) (I (x8-S)) (I (x7-Z)) (I (x9-Z)) O x5),D (dL (I (x6-S)) (I (x8-S)) (I (x7-Z)) (I (x9-Z)) O x5),D (fe (I (x6-S)) (I (x8-S)) (I (x7-Z)) (I (x9-Z)) O x5)]))))
theorem ie9:dZ d7 (ba JJ Mh u0 Cy [V.agg [V.str s0,D S,D Z,D x3,D O,D x5],V.agg [D x6,D x7,D x8,D x9]]) (hcp s0 S Z x3 O x5 x6 x7 x8 x9):=cG
def iza11:Int:=dJ (I (x6-S)) (I (x8-S)) (I (x7-Z)) (I (x9-Z)) O x5
def hsrc2:Int:=fk (I (x6-S)) (I (x8-S)) (I (x7-Z)) (I (x9-Z)) O x5
def iza17:Int:=dL (I (x6-S)) (I (x8-S)) (I (x7-Z)) (I (x9-Z)) O x5
def fzb27:Int:=fe (I (x6-S)) (I (x8-S)) (I (x7-Z)) (I (x9-Z)) O x5
def iO (x:Int):Prop:=-400000000<=x/\x<=400000000
theorem Eh {a b:Int} (h:iO a) (h':iO b):Bd (I (a-b)):=by
 unfold iO at *
 unfold Bd;rw[D5 E E];omega
theorem ac9 (hp:Hd O x5/\iO S/\iO Z/\iO x6/\iO x7/\iO x8/\iO x9):a6 dK (hcp s0 S Z x3 O x5 x6 x7 x8 x9) (.agg [D (pM S Z O x5 x6 x7 x8 x9),D (pY S Z O x5 x6 x7 x8 x9),D (p8 S Z O x5 x6 x7 x8 x9),D (p9 S Z O x5 x6 x7 x8 x9)]):=by obtain⟨hd,M,N,h6,h7,h8,h9⟩:=hp;exact aP ⟨hd,Eh h6 M,Eh h8 M,Eh h7 N,Eh h9 N⟩ (ak (aA rfl))
def aaC:aD:=cK [.agg aG,.agg kp] (λ
 |[.agg [.str s0,.int _ S,.int _ Z,.int _ x3,.int _ O,.int _ x5],.agg [.int _ x6,.int _ x7,.int _ x8,.int _ x9]]=>Hd O x5/\iO S/\iO Z/\iO x6/\iO x7/\iO x8/\iO x9|_=>False) λ
 |[.agg [.str s0,.int _ S,.int _ Z,.int _ x3,.int _ O,.int _ x5],.agg [.int _ x6,.int _ x7,.int _ x8,.int _ x9]]=>.agg [D (pM S Z O x5 x6 x7 x8 x9),D (pY S Z O x5 x6 x7 x8 x9),D (p8 S Z O x5 x6 x7 x8 x9),D (p9 S Z O x5 x6 x7 x8 x9)]|_=>.any
theorem adJ:c7 aaC 44:=bo arc λ_ hp=>er (ie9 ..) (ac9 _ _ _ _ _ _ _ _ _ _ hp)
theorem Nw (a b c d:Int):HN a b c d=(cM a (-100000) 100000&&(cM c (-100000) 100000&&(cM b (-100000) 100000&&(cM d (-100000) 100000&&(decide (a<=c)&&decide (b<=d)))))):=by
 have h:ta 4 (A L (cq [D a,D c,D b,D d] 0 1))=(cM a (-100000) 100000&&(cM c (-100000) 100000&&(cM b (-100000) 100000&&cM d (-100000) 100000))):=by
  show(!(decide (0<=idx 4 λii=>nK (aE (A L (A L (cq [D a,D c,D b,D d] 0 1)) ii)))))=_;rw[mb];show(!(!(fM 4 λii=>!nK (aE (A L (A L (cq [D a,D c,D b,D d] 0 1)) ii)))))=_;rw[Il,KE,tX];simp only[Eg];have At:∀x,(!nK x)=cM x (-100000) 100000:=λx=>Il _;constructor
  ·intro Qa;exact⟨(At a).symm.trans (Qa 0 Ej),(At c).symm.trans (Qa 1 Ej),(At b).symm.trans (Qa 2 Ej),(At d).symm.trans (Qa 3 Ej)⟩
  ·rintro⟨h0,M,N,h3⟩ i hi
   match i,hi with
   |0,_=>exact(At a).trans h0|1,_=>exact(At c).trans M|2,_=>exact(At b).trans N|3,_=>exact(At d).trans h3
 unfold HN;rw[h];cases cM a (-100000) 100000<;>cases cM c (-100000) 100000<;>cases cM b (-100000) 100000<;>cases cM d (-100000) 100000<;>cases decide (a<=c)<;>cases decide (b<=d)<;>rfl
def bW (e a b c d:Int):Int:=bif e==0 then bif HN a b c d then 0 else 7 else e
theorem Kp {x k:Int} {z:Int×Int×Int} (h:(bif x != 0 then(k,(0:Int),x) else z).2.2=0):x=0/\z.2.2=0:=by
 cases hb:x !=0 with
 |true=>rw[hb]at h;rw[show x=0 from h]at hb;cases hb|false=>rw[hb]at h;exact⟨qK hb,h⟩
structure Vn (x:List V):Prop where
 px:-100000<=bM x/\bM x<=100000
 py:-100000<=d9 x/\d9 x<=100000
 ph:1<=cH x/\cH x<=200
 hd:Hd (eV x) (ck x)
theorem NK {v a b:Int} (h:gR v a b=true):a<=v/\v<=b:=by
 unfold gR at h;cases M:decide (a<=v) with
 |false=>rw[M]at h;cases h|true=>rw[M]at h;exact⟨Fv M,Fv h⟩
theorem On {a b:Bool} (h:(bif a then true else b)=false):a=false/\b=false:=by cases a<;>cases b<;>first|exact⟨rfl,rfl⟩|cases h
theorem aq4 {n:Nat} {f:bk} {i:Nat} (h:cC n (A aG f) i=0):Vn (f i):=by
 unfold cC Kh at h;obtain⟨_,h⟩:=iQ h Ej;obtain⟨_,h⟩:=iQ h Ej;unfold RP at h;obtain⟨M,h⟩:=iQ h Ej;obtain⟨N,_⟩:=iQ h Ej;obtain⟨M,ip11⟩:=On M;obtain⟨M,io17⟩:=On M;obtain⟨M,hh⟩:=On M;have M:=GI M;unfold Lh at M;have hx:gR (bM (f i)) (-100000) 100000=true:=dh M 0 Ej;have hy:gR (d9 (f i)) (-100000) 100000=true:=dh M 1 Ej;refine⟨NK hx,NK hy,NK (GI hh),NK (GI io17),NK (GI ip11),?_⟩;have N:(bif eV ((f i))==0 then ck ((f i))==0 else false)=false:=N;cases hb:(eV ((f i))==0) with
 |false=>exact .inl λh=>by rw[h]at hb;cases hb
 |true=>rw[hb]at N;exact .inr λh=>by have N:(ck ((f i))==0)=false:=N;rw[h]at N;cases N
structure hd' (H:Nat) (G:bk) (T:Nat) (Q:bk) (O:Int) (n5:Nat) (f5:bk) (n7:Nat) (f7:bk) (n9:Nat) (f9:bk) (q:Nat) (Y:bk) (Qm:Nat) (Qd:bk) (Qu:Nat) (Qf:bk):Prop where
 v2:yD H G T Q
 v3:abL n5 (A aN f5) n7 (A aX f7) n9 (A aY f9) q (A aG Y)
 sf:LB H G O=0
 ll:Qm=q
 lu:Qu=q
 tb:∀i,i<H->nm (G i)
 lm:∀i,i<T->WS H (Q i)
 cl:∀i,i<q->Vn (Y i)
 co:∀i,i<q->zf G T Q Qd Qf i=0
theorem C7 {H:Nat} {G:bk} {T:Nat} {Q:bk} {O:Int} {n5:Nat} {f5:bk} {n7:Nat} {f7:bk} {n9:Nat} {f9:bk} {q:Nat} {Y:bk} {Qm:Nat} {Qd:bk} {Qu:Nat} {Qf:bk} (h:ej H G T Q O n5 f5 n7 f7 n9 f9 q Y Qm Qd Qu Qf=0):hd' H G T Q O n5 f5 n7 f7 n9 f9 q Y Qm Qd Qu Qf:=by
 have h:(NV H G T Q O n5 f5 n7 f7 n9 f9 q Y Qm Qd Qu Qf).2.2=0:=h;unfold NV at h;obtain⟨M,h⟩:=Kp h;obtain⟨N,h⟩:=Kp h;obtain⟨h3,h⟩:=Kp h;have M:dA H G T Q=0:=M;have V2:=xI M;have V3:=J4 N;cases hl:Lc q Qm Qu with
 |true=>rw[hl]at h;cases h
 |false=>rw[hl]at h;obtain⟨e1,e2⟩:=E7 hl;exact⟨V2,V3,h3,e1,e2,λi hi=>Ku (V2.tb i hi),λi hi=>XE V2.l0 (V2.lm i hi),λi hi=>aq4 (n:=q) (V3.cl i hi),(ln h).1⟩
def io (e z:Int):Int:=bif e==0 then z else 0
theorem anL {a b c d:Int} (h:HN a b c d=true):iO a/\iO b/\iO c/\iO d:=by rw[Nw]at h;obtain⟨M,h⟩:=rN h;obtain⟨N,h⟩:=rN h;obtain⟨h3,h⟩:=rN h;obtain⟨h4,_⟩:=rN h;have M:=qt (x:=a) M;have N:=qt (x:=c) N;have h3:=qt (x:=b) h3;have h4:=qt (x:=d) h4;unfold iO;omega
end
end Go.Dx
namespace Go.Dx
open Go.Sx
section
variable {J:Type}
def Na:V->cX J->cX J
 |.bool b,.res (.kb _)=>.res (.kb b)|r,_=>.res r
theorem ig8 (r:V) (a:cX J):qS r (Na r a):=by unfold Na;split<;>rfl
def q9 (r:V):BO (cX J)->BO (cX J)
 |.ret a=>.ret (Na r a)
 |.br b x y=>match b with|true=>.br true (q9 r x) y|false=>.br false x (q9 r y)
 |.ob _ x=>.ob true (q9 r x)
 |.obi c d x=>match c with|true=>.obi true true (q9 r x)|false=>.obi false d (q9 r x)
 |.obp _ x=>.obp True (q9 r x)|.obq a _ x=>.obq a a (q9 r x)|.fail _=>.ret (.res r)|.loop ..=>.ret (.res r)|.all f=>.all λl=>q9 r (f l)
 |.und x y=>.und (q9 r x) (q9 r y)|.asm p x=>.asm p (q9 r x)
theorem ic6 {LP:fK} (r:V):∀ t:BO (cX J),bR LP (q9 r t) (qS r):=by
 intro t;induction t with
 |ret a=>exact ig8 r a
 |br b x y hx hy=>
   cases b with
   |true=>exact⟨λ_=>hx,(λe=>by cases e)⟩|false=>exact⟨(λe=>by cases e),λ_=>hy⟩
 |ob b x hx=>exact⟨rfl,hx⟩
 |obi c d x hx=>
   cases c with
   |true=>exact⟨λ_=>rfl,hx⟩|false=>exact⟨(λe=>by cases e),hx⟩
 |obp p x hx=>exact⟨trivial,hx⟩|obq a b x hx=>exact⟨rfl,hx⟩|fail n=>exact(rfl:dc r=dc r)|loop fr b e h g k W=>exact(rfl:dc r=dc r)|all f hf=>exact λl=>hf l
 |und x y hx hy=>exact⟨hx,hy⟩|asm p x hx=>exact λ_=>hx
theorem yP {ct:bm} {un:l8} {w0:World} {sf:aO} {ds:List V} {r:V} (h:q9 r (ba J ct un sf ds)=ba J ct un sf ds):bR (dz w0 (SV ct)) (ba J ct un sf ds) (qS r):=by rw[← h];exact ic6 r _
end
def rH (ts:List Ty) (pre:List V->Bool) (r:List V->V):aD:=λds=>cond (pre (lD ts ds)) (some ((mQ ts ds [],mT ts ds []),True,r (lD ts ds))) none
theorem mA {P:Program} {f:FuncId} {ts:List Ty} {pre:List V->Prop} {preB:List V->Bool} {r:List V->V} (h:∀ ds,preB ds=true->pre ds) (hO:(vP (cK ts pre r)).Ok P f):(vP (rH ts preB r)).Ok P f:=by
 refine⟨λB m lh w args vs K hrel hargs SY=>?_,λ_ _ _ _ _ W ⟨ds,d,p,r,M,N,h3,h4,h5⟩=>⟨ds,d,p,r,M,N,h3,h4,W _ _ h5⟩,λ_ _ _ _ ⟨_,_,_,_,_,_,_,_,h⟩=>h⟩;refine hO.sound B m lh w args vs K hrel hargs ?_
 let ⟨ds,d,p,r',M,N,⟨TK,h3⟩,h4,h5⟩:=SY
 unfold rH at N;cases hb:preB (lD ts ds) with
 |false=>rw[hb]at N;cases N
 |true=>
   rw[hb]at N;simp only[cond_true,Et,Prod.mk.injEq]at N
   let ⟨rfl,rfl,rfl⟩:=N
   exact⟨ds,_,_,_,M,rfl,⟨TK,h _ hb⟩,h4,h5⟩
def KV (p:V->V->Bool):List V->List V->Bool
 |[],[]=>true|v::vs,x::xs=>p v x&&KV p vs xs|_,_=>false
def Re:Nat->V->V->Bool
 |0,_,_=>false
 |fu+1,v,x=>match v,x with
   |.int k a,.int k' b=>decide (k=k')&&decide (a=b)|.bool a,.bool b=>a==b|.kb a,.bool b=>a==b|.str a,.str b=>decide (a.data.toList=b.data.toList)|.agg xs,.agg ys=>KV (Re fu) xs ys|.sl n f,.sl m g=>Nat.beq n m&&fM n λi=>KV (Re fu) (f i) (g i)&&(g i).all V.fc
   |.sq n _ f,.sl m g=>Nat.beq n m&&fM n λi=>KV (Re fu) (f i) (g i)&&(g i).all V.fc
   |.pd xs,.pd ys=>Nat.beq (b7 xs) (b7 ys)&&(KV (Re fu) xs ys&&ys.all V.fc)|.fn f xs ys,.fn g us ws=>Nat.beq f g&&(KV (Re fu) xs us&&KV (Re fu) ys ws)|_,_=>false
theorem pC {w0:World} {lh:List ar} {p:V->V->Bool} (hp:∀ v x a,p v x=true->vr w0 lh Nu.nil v a->vr w0 lh Nu.nil x a):∀ (vs xs:List V) (qs:List af),KV p vs xs=true->bC w0 lh Nu.nil vs qs->bC w0 lh Nu.nil xs qs
 |[],[],qs,_,h=>h
 |v::vs,x::xs,qs,h,M=>by simp[KV,Eg]at h;simp[bC]at M ⊢;obtain⟨y,ys,rfl,N,h3⟩:=M;exact⟨y,ys,rfl,hp _ _ _ h.1 N,pC hp vs xs ys h.2 h3⟩
 |[],_::_,_,h,_=>by simp[KV]at h
 |_::_,[],_,h,_=>by simp[KV]at h
theorem qX {w0:World} {lh:List ar}:∀ (fu:Nat) (v x:V) (a:af),Re fu v x=true->vr w0 lh Nu.nil v a->vr w0 lh Nu.nil x a
 |0,v,x,a,h,_=>by simp[Re]at h
 |fu+1,v,x,a,h,U=>by
   simp only[Re]at h;split at h
   ·simp only[Eg,GV]at h;let ⟨rfl,rfl⟩:=h;exact U
   ·have:=HK h;subst this;exact U
   ·have:=HK h;subst this;simp only[vr]at U ⊢;exact U
   ·rename_i s t
    have h0:=Fv h;have:s=t:=by
     cases s with|mk d=>
     cases t with|mk e=>
     have:d=e:=Array.toList_inj.1 h0;rw[this]
    subst this;exact U
   ·simp only[vr]at U ⊢;obtain⟨qs,rfl,N⟩:=U;exact⟨qs,rfl,pC (λv x a=>qX fu v x a) _ _ _ h N⟩
   ·simp only[Eg]at h
    have hn:=FF h.1;subst hn;simp only[vr]at U ⊢
    let ⟨p,c,esz,M,N,h3,h4,h5⟩:=U
    refine⟨p,c,esz,M,N,h3,h4,λi hi=>?_⟩
    let ⟨At,qs,g1,g2,g3,g4⟩:=h5 i hi
    have hh:=dh h.2 i hi;simp only[Eg]at hh;exact⟨At,qs,g1,g2,pC (λv x a=>qX fu v x a) _ _ _ hh.1 g3,hh.2⟩
   ·simp only[Eg]at h
    have hn:=FF h.1;subst hn;simp only[vr]at U ⊢
    let ⟨p,c,esz,M,N,h3,h4,h5⟩:=U
    refine⟨p,c,esz,M,N.1,h3,h4,λi hi=>?_⟩
    let ⟨At,qs,g1,g2,g3,g4⟩:=h5 i hi
    have hh:=dh h.2 i hi;simp only[Eg]at hh;exact⟨At,qs,g1,g2,pC (λv x a=>qX fu v x a) _ _ _ hh.1 g3,hh.2⟩
   ·simp only[Eg]at h
    have hn:=FF h.1;rw[b5,b5]at hn;simp only[vr]at U ⊢
    let ⟨p,qs,M,N,h3,h4,h5⟩:=U
    exact⟨p,qs,M,N,by rw[← hn];exact h3,pC (λv x a=>qX fu v x a) _ _ _ h.2.1 h4,h.2.2⟩
   ·simp only[Eg]at h
    have hn:=FF h.1;subst hn;simp only[vr]at U ⊢
    let ⟨us,vs,M,N,h3⟩:=U
    exact⟨us,vs,M,pC (λv x a=>qX fu v x a) _ _ _ h.2.1 N,pC (λv x a=>qX fu v x a) _ _ _ h.2.2 h3⟩
   ·cases h
def gQ:List (List V×V)->aD
 |[],_=>none|(ex,r)::l,ds=>cond (KV (Re 8) ds ex) (some (([],[]),True,r)) (gQ l ds)
theorem Bs {P:Program} {f:FuncId} {C:aD} (hO:(vP C).Ok P f):∀ (l:List (List V×V)),(∀ e∈l,∃ d p,C e.1=some (d,p,e.2)/\d.1=d.2/\p)->(vP (gQ l)).Ok P f:=by
 intro l hl;refine⟨λB m lh w args vs K hrel hargs SY=>?_,λ_ _ _ _ _ W ⟨ds,d,p,r,M,N,h3,h4,h5⟩=>⟨ds,d,p,r,M,N,h3,h4,W _ _ h5⟩,λ_ _ _ _ ⟨_,_,_,_,_,_,_,_,h⟩=>h⟩;refine hO.sound B m lh w args vs K hrel hargs ?_;obtain⟨ds,d,p,r',M,N,_,h4,h5⟩:=SY;induction l with
 |nil=>simp[gQ]at N
 |cons e l ih=>
   simp[gQ]at N;cases hb:KV (Re 8) ds e.1 with
   |true=>rw[hb]at N;simp[cond_true,Et,Prod.mk.injEq]at N;obtain⟨_,_,rfl⟩:=N;obtain⟨d',p',e1,e2,e3⟩:=hl e (Hw ..);exact⟨e.1,d',p',_,pC (λv x a=>qX 8 v x a) _ _ _ hb M,e1,⟨e2,e3⟩,h4,h5⟩
   |false=>rw[hb]at N;exact ih (λe he=>hl e (HA _ he)) N
theorem Mc {ts:List Ty} {pre:List V->Prop} {r:List V->V} {raw:List V} {res:V} (hp:pre (lD ts (au ts raw))) (hr:r (lD ts (au ts raw))=res):∃ d p,cK ts pre r (au ts raw)=some (d,p,res)/\d.1=d.2/\p :=
 ⟨_,_,by rw[cK,hr],iI ts raw [],hp⟩
theorem U5 {α:Type} {a:α} {l:List α} {Qe:α->Prop} (h:Qe a) (hl:∀ e∈l,Qe e):∀ e∈a::l,Qe e:=λe he=>by
 rcases List.mem_cons.1 he with rfl|he
 ·exact h
 ·exact hl e he
theorem UB {α:Type} {Qe:α->Prop}:∀e∈([]:List α),Qe e:=λe he=>by cases he
end Go.Dx
namespace Go.Dx
open Go.IntKind (i64 u64 u8)
open Go.Sx Go.Proofs
variable (H:Nat) (G:bk) (R S:Int) (T:Nat) (Q:bk) (Z x3 O:Int) (n5:Nat) (f5:bk) (x5 x6:Int) (n7:Nat) (f7:bk) (n9:Nat) (f9:bk) (q:Nat) (Y:bk) (Qm:Nat) (Qd:bk) (Qu:Nat) (Qf:bk) (QY:Int) (Rf:ByteArray) (Qi Qk Qr Qt RA:Int)
noncomputable section
def uB:l8:=λ_=>1000
def fz25 (n:Nat) (f:bk):Bool:=fM n λi=>Nat.ble (sv (aM (f i))).size 9223372036854775807
theorem oU {n:Nat} {f:bk} (h:fz25 n f=true):aI n f:=λi hi=>G2 (dh h i hi)
def PU:Nat->List V
 |0=>[.str ⟨#[119,105,100,101]⟩,.sl 3 (λ|0=>[D (-1000)]|1=>[D 0]|_=>[D 2000]),.sl 2 (λ|0=>[D (-1000)]|_=>[D 1000]),.sl 3 (λ|0=>[.sl 2 (λ|0=>[D 100]|_=>[D 300])]|1=>[.sl 2 (λ|0=>[D 200]|_=>[D 600])]|_=>[.sl 2 (λ|0=>[D 0]|_=>[D 100])]),D 50,D 5]|_=>[.str ⟨#[97,115,112,104,97,108,116]⟩,.sl 2 (λ|0=>[D (-5000)]|_=>[D 5000]),.sl 2 (λ|0=>[D (-5000)]|_=>[D 5000]),.sl 2 (λ|0=>[.sl 2 (λ|0=>[D 700]|_=>[D 700])]|_=>[.sl 2 (λ|0=>[D 700]|_=>[D 700])]),D 0,D 0]
def PR:Nat->List V:=λ_=>[.str ⟨#[104,101,97,100]⟩,D 0,D 1,D 8000,D 60000,D 500,D 50,D 2,D 4,D 3,D 5,D 100000,D 200,D 0]
def TL:Nat->List V:=λ_=>[.str ⟨#[104,105,103,104]⟩,D 0,.sl 3 (λ|0=>G7|1=>[D 10000,D 0]|_=>[D 10000,D 10000]),D 4000]
def PQ:Nat->List V:=λ_=>[.str ⟨#[99]⟩,D 0,D 0,D 80,D 0,D 1]
abbrev Jj:=[D 0,D 0,D 1000]
def smS:V:=.agg [.sl 2 PU,.sl 1 PR,D 1,.sl 1 TL,.sl 0 TL,.sl 0 TL,.sl 1 PQ,.sl 1 (λ_=>[D 0]),.sl 1 λ_=>Jj]
def apU:List Ty:=[.agg [.sl ao,.sl al,tI,.sl aN,.sl aX,.sl aY,.sl aG,.sl L,.sl CE]]
def aoJ:aD:=gQ [(au apU [smS],.tup Jl)]
theorem ie4:(vP aoJ).Ok Tryz.prog 55:=Bs asF _ (U5 (Mc (ts:=apU) (raw:=[smS]) (⟨oU bw,oU bw,oU bw,oU bw⟩) bw) (UB))
def c64:List Ty:=[.agg [.sl ao,.sl al]]
def evL:aD:=gQ [(au c64 [.agg [.sl 2 PU,.sl 1 PR]],.tup Jl)]
theorem wOf:(vP evL).Ok Tryz.prog 82:=Bs fp7 _ (U5 (Mc (ts:=c64) (raw:=[.agg [.sl 2 PU,.sl 1 PR]]) (⟨oU bw,oU bw⟩) bw) (UB))
def akz:List Ty:=[.agg [.sl aN,.sl aX,.sl aY,.sl aG]]
def amO:aD:=gQ [(au akz [.agg [.sl 1 TL,.sl 0 TL,.sl 0 TL,.sl 1 PQ]],.tup Jl)]
theorem anD:(vP amO).Ok Tryz.prog 78:=Bs aoe _ (U5 (Mc (ts:=akz) (raw:=[.agg [.sl 1 TL,.sl 0 TL,.sl 0 TL,.sl 1 PQ]]) (⟨oU bw,oU bw⟩) bw) (UB))
def Jc:bm:=(44,.con aaC)::Mh
theorem pP:aV Tryz.prog BN D7 Jc:=.con adJ (arc)
def aaZ:RT Empty:=dm (H,G,T,Q,O,n5,f5,n7,f7,n9,f9,q,Y,Qm,Qd,Qu,Qf,QY,Rf,Qi,Qk,Qt,RA) (.ret (D (I (100*Qr))))
theorem iy0:dZ d7 (ba JJ Jc u0 c62 [V.agg [V.sl H (A ao G),V.sl T (A al Q),D O,V.sl n5 (A aN f5),V.sl n7 (A aX f7),V.sl n9 (A aY f9),V.sl q (A aG Y),V.sl Qm (A L Qd),V.sl Qu (A CE Qf),D QY,V.str Rf,D Qi,D Qk,D Qr,D Qt,D RA]]) (aaZ H G T Q O n5 f5 n7 f7 n9 f9 q Y Qm Qd Qu Qf QY Rf Qi Qk Qr Qt RA):=cG
def fA:Int:=I (100*Qr)
def N6:V:=dm (H,G,T,Q,O,n5,f5,n7,f7,n9,f9,q,Y,Qm,Qd,Qu,Qf,QY,Rf,Qi,Qk,Qt,RA) (D (fA Qr))
theorem agY:a6 dK (aaZ H G T Q O n5 f5 n7 f7 n9 f9 q Y Qm Qd Qu Qf QY Rf Qi Qk Qr Qt RA) (N6 H G T Q O n5 f5 n7 f7 n9 f9 q Y Qm Qd Qu Qf QY Rf Qi Qk Qr Qt RA):=aA (by unfold N6 fA;rfl)
def aad:aD:=cK [.agg [.sl ao,.sl al,tI,.sl aN,.sl aX,.sl aY,.sl aG,.sl L,.sl CE,tI,.str,tI,tI,tI,tI,tI]] (λ_=>True) λ|[.agg [.sl H G,.sl T Q,.int _ O,.sl n5 f5,.sl n7 f7,.sl n9 f9,.sl q Y,.sl Qm Qd,.sl Qu Qf,.int _ QY,.str Rf,.int _ Qi,.int _ Qk,.int _ Qr,.int _ Qt,.int _ RA]]=>N6 H G T Q O n5 f5 n7 f7 n9 f9 q Y Qm Qd Qu Qf QY Rf Qi Qk Qr Qt RA|_=>.any
theorem ac8:c7 aad 56:=bo pP λ_ hp=>er (iy0 ..) (agY _ _ _ _ _ _ _ _ _ _ _ _ _ _ _ _ _ _ _ _ _ _ _ _)
def hb8:RT Empty:=.ret (V.agg [D R,D R])
theorem szB:dZ d7 (ba JJ Jc u0 ag2 [D R]) (hb8 R):=cG
def Mq:V:=.agg [D R,D R]
theorem adW:a6 dK (hb8 R) (Mq R):=aA (by unfold Mq ; rfl)
def LN:aD:=cK L (λ_=>True) λ|[.int _ R]=>Mq R|_=>.any
theorem ev2:c7 LN 120:=bo pP λ_ hp=>er (szB ..) (adW _)
def aaM:RT Empty:=.obp (nz (I (x5-O))) (.obt (.obp (nz (I (x5-O))) (.obt (.ret (V.agg [D (bE (I (I (R*I (x5-x6))+I (Z*I (x6-O)))) (I (x5-O))),D (bF (I (I (S*I (x5-x6))+I (x3*I (x6-O)))) (I (x5-O)))])))))
theorem nm2:dZ d7 (ba JJ Jc u0 agK [V.agg [D R,D S],V.agg [D Z,D x3],D O,D x5,D x6]) (aaM R S Z x3 O x5 x6):=cG
def ip:Int:=bE (I (I (R*I (x5-x6))+I (Z*I (x6-O)))) (I (x5-O))
def fy:Int:=bF (I (I (S*I (x5-x6))+I (x3*I (x6-O)))) (I (x5-O))
def Hk:V:=.agg [D (ip R Z O x5 x6),D (fy S x3 O x5 x6)]
theorem ah5 (hp:I (x5-O)≠0):a6 dK (aaM R S Z x3 O x5 x6) (Hk R S Z x3 O x5 x6):=aP (by first|assumption|(exact hp)) (ak (aP (by first|assumption|(exact hp)) (ak (aA (by unfold Hk ip fy;rfl)))))
def hc1:aD:=cK [.agg aK,.agg aK,tI,tI,tI] (λ
 |[.agg [.int _ R,.int _ S],.agg [.int _ Z,.int _ x3],.int _ O,.int _ x5,.int _ x6]=>I (x5-O)≠0|_=>False) λ
 |[.agg [.int _ R,.int _ S],.agg [.int _ Z,.int _ x3],.int _ O,.int _ x5,.int _ x6]=>Hk R S Z x3 O x5 x6|_=>.any
theorem fn0:c7 hc1 119:=bo pP λ_ hp=>er (nm2 ..) (ah5 _ _ _ _ _ _ _ hp)
def asB:RT Empty:=.obp (nz 1000000) (.obt (.obp (nz 1000) (.obt (.obp (nz 1000) (.obt (.ret (D (bE (I (bE (I (bE (I (R*max (I (1000000-I (S*x3))) 0)) 1000000*max (I (1000-I (Z*O))) 0)) 1000*x5)) 1000))))))))
theorem ic3:dZ d7 (ba JJ Jc u0 fw6 [D R,D S,D Z,V.agg [D x3,D O,D x5],V.fn 51 [] []]) (asB R S Z x3 O x5):=cG
def m7:Int:=bE (I (bE (I (bE (I (R*max (I (1000000-I (S*x3))) 0)) 1000000*max (I (1000-I (Z*O))) 0)) 1000*x5)) 1000
def FE:V:=D (m7 R S Z x3 O x5)
theorem is5:a6 dK (asB R S Z x3 O x5) (FE R S Z x3 O x5):=aP (by first|assumption|(decide)) (ak (aP (by first|assumption|(decide)) (ak (aP (by first|assumption|(decide)) (ak (aA (by unfold FE m7;rfl)))))))
def f16:aD:=cK [tI,tI,tI,.agg CE,.fn 51 [] []] (λ_=>True) λ|[.int _ R,.int _ S,.int _ Z,.agg [.int _ x3,.int _ O,.int _ x5],.fn _ [] []]=>FE R S Z x3 O x5|_=>.any
theorem jf0:c7 f16 85:=bo pP λ_ hp=>er (ic3 ..) (is5 _ _ _ _ _ _)
def yaZ:RT Empty:=.obp (nz 1000000) (.obt (.obp (nz 1000) (.obt (.obp (nz 1000) (.obt (.ret (D (bF (I (bF (I (bF (I (R*max (I (1000000-I (S*x3))) 0)) 1000000*max (I (1000-I (Z*O))) 0)) 1000*x5)) 1000))))))))
theorem hwf:dZ d7 (ba JJ Jc u0 fw6 [D R,D S,D Z,V.agg [D x3,D O,D x5],V.fn 52 [] []]) (yaZ R S Z x3 O x5):=cG
def m9:Int:=bF (I (bF (I (bF (I (R*max (I (1000000-I (S*x3))) 0)) 1000000*max (I (1000-I (Z*O))) 0)) 1000*x5)) 1000
def E4:V:=D (m9 R S Z x3 O x5)
theorem nn7:a6 dK (yaZ R S Z x3 O x5) (E4 R S Z x3 O x5):=aP (by first|assumption|(decide)) (ak (aP (by first|assumption|(decide)) (ak (aP (by first|assumption|(decide)) (ak (aA (by unfold E4 m9;rfl)))))))
def fy3:aD:=cK [tI,tI,tI,.agg CE,.fn 52 [] []] (λ_=>True) λ|[.int _ R,.int _ S,.int _ Z,.agg [.int _ x3,.int _ O,.int _ x5],.fn _ [] []]=>E4 R S Z x3 O x5|_=>.any
theorem nh2:c7 fy3 85:=bo pP λ_ hp=>er (hwf ..) (nn7 _ _ _ _ _ _)
def ah1:List V->Bool
 |[_,_,_,_,.fn n _ _]=>Nat.beq n (match (.fn 51 [] []:V) with|.fn k _ _=>k|_=>0)|_=>false
def Rp:aD:=KZ ah1 f16 fy3
theorem fc1:(vP Rp).Ok Tryz.prog 85:=GC _ _ _ jf0 nh2
theorem yg {b:Int} (h:(b !=0)=true):b≠0:=by simpa using h
def asy:List V->Bool
 |[.int _ R,.int _ S]=>S !=0|_=>false
def arh:aD:=rH aK asy λ|[.int _ R,.int _ S]=>EA R S|_=>.any
theorem x11:(vP arh).Ok Tryz.prog 51:=mA (λds h=>by
 unfold asy at h;split at h
 ·exact yg h
 ·cases h) fu9
def asD:List V->Bool
 |[.agg [.int _ R,.int _ S]]=>S !=0|_=>false
def cvB:aD:=rH [.agg aK] asD λ|[.agg [.int _ R,.int _ S]]=>Dk R S|_=>.any
theorem ic17:(vP cvB).Ok Tryz.prog 59:=mA (λds h=>by
 unfold asD at h;split at h
 ·exact yg h
 ·cases h) ara
def asf:List V->Bool
 |[.int _ R,.int _ S]=>S !=0|_=>false
def fw9:aD:=rH aK asf λ|[.int _ R,.int _ S]=>IV R S|_=>.any
theorem is0:(vP fw9).Ok Tryz.prog 52:=mA (λds h=>by
 unfold asf at h;split at h
 ·exact yg h
 ·cases h) fm3
def fw2:List V->Bool
 |[.agg [.int _ R,.int _ S]]=>S !=0|_=>false
def apa:aD:=rH [.agg aK] fw2 λ|[.agg [.int _ R,.int _ S]]=>Im R S|_=>.any
theorem jcg:(vP apa).Ok Tryz.prog 61:=mA (λds h=>by
 unfold fw2 at h;split at h
 ·exact yg h
 ·cases h) aoI
def eqB:List V->Bool
 |[.sl H G]=>Nat.ble 1 H|_=>false
def asI:aD:=rH [.sl L] eqB λ|[.sl H G]=>D (gh H G)|_=>.any
theorem jf5:(vP asI).Ok Tryz.prog 97:=mA (λds h=>by
 unfold eqB at h;split at h
 ·exact G2 h
 ·cases h) api
def aoK:List V->Bool
 |[.sl H G]=>Nat.ble 1 H|_=>false
def asH:aD:=rH [.sl L] aoK λ|[.sl H G]=>D (g8 H G)|_=>.any
theorem shA:(vP asH).Ok Tryz.prog 96:=mA (λds h=>by
 unfold aoK at h;split at h
 ·exact G2 h
 ·cases h) ast
def f26:List V->Bool
 |[.agg [.int _ R,.int _ S],.agg [.int _ Z,.int _ x3],.int _ O,.int _ x5,.int _ x6]=>I (x5-O)!=0|_=>false
def apJ:aD:=rH [.agg aK,.agg aK,tI,tI,tI] f26 λ|[.agg [.int _ R,.int _ S],.agg [.int _ Z,.int _ x3],.int _ O,.int _ x5,.int _ x6]=>Hk R S Z x3 O x5 x6|_=>.any
theorem im1:(vP apJ).Ok Tryz.prog 119:=mA (λds h=>by
 unfold f26 at h;split at h
 ·exact yg h
 ·cases h) fn0
end
end Go.Dx
namespace Go.Dx
open Go.Sx
theorem bf.unhideG {B:dB} {m m':aH} {lh new:List ar} {w w':World} {X:List Nat} (h:bf B m lh w)
 (h':bf ⟨B.w0,w,λb=>∃k cs ty,k∉X/\lh[k]? = some (.cells cs ty)/\m k=some b,B.ds⟩ m' (hide X lh++new) w') (he:jB (hide X lh) m (hide X lh++new) m') :
 bf B m' (lh++new) w'/\jB lh m (lh++new) m':=by
 have hent:∀ k o,(lh++new)[k]? = some o->((hide X lh++new)[k]? = some o)∨(k∈X/\lh[k]? = some o/\(hide X lh++new)[k]? = some .hid):=λk o W=>by
  rw[HO]at W;split at W
  ·rename_i Qw
   rw[Fp (by rw[Go.Sx.hide_length];exact Qw),Go.Sx.hide_get];by_cases hX:k∈X
   ·rw[E5 hX,W];exact .inr ⟨hX,rfl,rfl⟩
   ·rw[DX hX];exact .inl W
  ·rename_i Ta;left;rw[GY (by rw[Go.Sx.hide_length];omega),Go.Sx.hide_length];exact W
 have hnoown:∀k cs ty b,k∈X->lh[k]? = some (.cells cs ty)->m k=some b->¬ ∃j cs ty,j∉X/\lh[j]? = some (ar.cells cs ty)/\m j=some b:=λk cs ty b hX W hb ⟨j,cs',ty',hj,hl,RQ⟩=>by exact hj (h.inj j k b cs' cs ty' ty hl W RQ hb▸hX)
 refine⟨⟨h'.os.trans h.os,h'.tape.trans h.tape,h'.output.trans h.output,h'.size,h'.old,HQ h.fsize h'.fsize,λb hb ho=>?_,λk cs ty W=>?_,λk k' b cs cs' ty ty' M N hb RQ=>?_,λk W=>?_,λk W=>?_,h'.rng⟩,he.1,λk W=>?_⟩
 ·rw [h'.kept b (Ho hb h.fsize) (λ⟨k,cs,ty,_,hl,hm⟩=>?_)]
  ·exact h.kept b hb ho
  ·let ⟨b',_,RQ,_,_,_,h3⟩:=h.loc k cs ty hl
   rw[hm]at RQ;cases RQ;rcases h3 with h3|h3
   ·omega
   ·exact ho h3
 ·rcases hent k _ W with hl|⟨hX,hl,_⟩
  ·let ⟨b,vs,hb,RZ,hh,M,N⟩:=h'.loc k cs ty hl
   refine⟨b,vs,hb,RZ,hh,M,?_⟩;rcases N with N|⟨j,cs',ty',hj,U7,u6⟩
   ·exact .inl (HQ h.fsize N)
   ·let ⟨b',_,RQ,_,_,_,h3⟩:=h.loc j cs' ty' U7
    rw[u6]at RQ;cases RQ;exact h3
  ·let ⟨b,vs,hb,RZ,hh,M,N⟩:=h.loc k cs ty hl
   refine⟨b,vs,he.1 _ _ hb,cW he.1 _ _ RZ,?_,M,N⟩;rw[h'.kept b (h.rng k b hb) (hnoown k cs ty b hX hl hb)];exact hh
 ·have mixed:∀ k k' b cs cs' ty ty',(hide X lh++new)[k]? = some (.cells cs ty)->k'∈X->lh[k']? = some (.cells cs' ty')->m' k=some b->m' k'=some b->False:=λk k' b cs cs' ty ty' hl hX SJ hb RQ=>by
   let ⟨b0,_,SH,_⟩:=h.loc k' cs' ty' SJ
   have e:=he.1 _ _ SH;rw[RQ]at e;cases e
   let ⟨b1,_,SU,_,_,_,N⟩:=h'.loc k cs ty hl
   rw[hb]at SU;cases SU;rcases N with N|N
   ·have h3:=h.rng k' b SH;have h4:w.heap.size<=b:=N;omega
   ·exact hnoown k' cs' ty' b hX SJ SH N
  rcases hent k _ M with hl|⟨hX,hl,_⟩<;>rcases hent k' _ N with SJ|⟨XV,SJ,_⟩
  ·exact h'.inj k k' b cs cs' ty ty' hl SJ hb RQ
  ·exact(mixed k k' b cs cs' ty ty' hl XV SJ hb RQ).elim
  ·exact(mixed k' k b cs' cs ty' ty SJ hX hl RQ hb).elim
  ·let ⟨b0,_,SH,_⟩:=h.loc k cs ty hl
   let ⟨b1,_,SU,_⟩:=h.loc k' cs' ty' SJ
   have e:=he.1 _ _ SH;rw[hb]at e;cases e;have e:=he.1 _ _ SU;rw[RQ]at e;cases e;exact h.inj k k' b cs cs' ty ty' hl SJ SH SU
 ·exact h'.dom k (by rw[HP]at W ⊢;rw[Go.Sx.hide_length];exact W)
 ·rcases hent k _ W with hl|⟨hX,hl,SJ⟩
  ·exact h'.dead k hl
  ·have hd:=h.dead k hl
   have hh:(hide X lh)[k]? = some .hid:=by rw[Go.Sx.hide_get,E5 hX,hl];rfl
   rw[(he.2 k hh).2];exact hd
 ·have hh:(hide X lh)[k]? = some .hid:=by
   rw[Go.Sx.hide_get];split
   ·rw[W];rfl
   ·exact W
  let ⟨M,N⟩:=he.2 k hh
  exact⟨by rw[Fp (List.getElem?_eq_some_iff.1 W).1];exact W,N⟩
mutual
def e9:V->Prop
 |.int ..|.bool _|.kb _|.str _|.any=>True|.agg cs|.tup cs=>iU cs|.sl n f=>∀i,i<n->iU (f i)|_=>False
def iU:List V->Prop
 |[]=>True|v::vs=>e9 v/\iU vs
end
theorem ig9:∀ (r v:V),e9 r->dc v=dc r->v.fc=true->r.fc=true
 |.int ..,_,_,_,_=>rfl|.bool _,_,_,_,_=>rfl|.kb _,_,_,_,_=>rfl|.str _,_,_,_,_=>rfl|.any,_,_,_,_=>rfl|.sl ..,_,_,_,_=>rfl|.agg _,v,_,h,hf=>by cases v<;>first|(simp[dc]at h;done)|(cases hf;done)
 |.tup _,v,_,h,hf=>by cases v<;>first|(simp[dc]at h;done)|(cases hf;done)
 |.fn ..,_,hg,_,_=>by simp[e9]at hg
 |.pd ..,_,hg,_,_=>rfl|.pl ..,_,hg,_,_=>rfl|.pe ..,_,hg,_,_=>rfl|.ss ..,_,hg,_,_=>rfl|.gs ..,_,hg,_,_=>rfl|.ns,_,hg,_,_=>rfl|.np,_,hg,_,_=>rfl|.gd ..,_,hg,_,_=>by simp[e9]at hg
 |.yl ..,_,hg,_,_=>by simp[e9]at hg
 |.go ..,_,hg,_,_=>rfl|.sq ..,_,hg,_,_=>rfl
theorem CU:∀ (rs vs:List V),iU rs->dj vs=dj rs->vs.all V.fc=true->rs.all V.fc=true
 |[],_,_,_,_=>rfl|r::rs,[],_,h,_=>by simp[dj]at h
 |r::rs,v::vs,hg,h,hf=>by simp[dj,G5]at h;simp[iU]at hg;simp only[Gw,Eg]at hf ⊢;exact⟨ig9 r v hg.1 h.1 hf.1,CU rs vs hg.2 h.2 hf.2⟩
section
variable {w0:World} {lh:List ar}
mutual
theorem eqA:∀ (r v:V) (a:af),e9 r->dc v=dc r->vr w0 lh Nu.nil v a->vr w0 lh Nu.nil r a
 |.int k n,v,a,_,h,U=>by cases v<;>simp only[dc]at h<;>cases h;exact U
 |.bool b,v,a,_,h,U=>by cases v<;>simp[dc]at h<;>cases h<;>(simp[vr]at U ⊢;exact U)
 |.kb b,v,a,_,h,U=>by cases v<;>simp[dc]at h<;>cases h<;>(simp[vr]at U ⊢;exact U)
 |.str s,v,a,_,h,U=>by cases v<;>simp[dc]at h<;>cases h;exact U
 |.any,v,a,_,_,_=>by simp[vr]
 |.agg cs,v,a,hg,h,U=>by
   cases v<;>simp[dc,af.agg.injEq]at h<;>first|(cases h;done)|skip
   simp[e9]at hg;simp[vr]at U ⊢
   let ⟨az,e,U⟩:=U
   exact⟨az,e,VH cs _ az hg h U⟩
 |.tup cs,v,a,hg,h,U=>by
   cases v<;>simp[dc,af.tup.injEq]at h<;>first|(cases h;done)|skip
   simp[e9]at hg;simp[vr]at U ⊢
   let ⟨az,e,U⟩:=U
   exact⟨az,e,VH cs _ az hg h U⟩
 |.sl n f,v,a,hg,h,U=>by
   cases v<;>first|(simp[dc]at h;done)|skip
   let ⟨rfl,Ri⟩:=GJ h
   simp[e9]at hg;simp only[vr]at U ⊢
   let ⟨p,c,esz,M,N,h3,h4,h5⟩:=U
   refine⟨p,c,esz,M,N,h3,h4,λi hi=>?_⟩
   let ⟨At,az,g1,g2,g3,g4⟩:=h5 i hi
   exact⟨At,az,g1,g2,VH (f i) _ az (hg i hi) (Ri i hi) g3,CU _ _ (hg i hi) (Ri i hi) g4⟩
 |.fn ..,_,_,hg,_,_=>by simp[e9]at hg
 |.pd ..,_,_,hg,_,_=>by simp[e9]at hg
 |.pl ..,_,_,hg,_,_=>by simp[e9]at hg
 |.pe ..,_,_,hg,_,_=>by simp[e9]at hg
 |.ss ..,_,_,hg,_,_=>by simp[e9]at hg
 |.gs ..,_,_,hg,_,_=>by simp[e9]at hg
 |.ns,_,_,hg,_,_=>by simp[e9]at hg
 |.np,_,_,hg,_,_=>by simp[e9]at hg
 |.gd ..,_,_,hg,_,_=>by simp[e9]at hg
 |.yl ..,_,_,hg,_,_=>by simp[e9]at hg
 |.go ..,_,_,hg,_,_=>by simp[e9]at hg
 |.sq ..,_,_,hg,_,_=>by simp[e9]at hg
theorem VH:∀ (rs vs:List V) (az:List af),iU rs->dj vs=dj rs->bC w0 lh Nu.nil vs az->bC w0 lh Nu.nil rs az
 |[],vs,az,_,h,U=>by
   cases vs with
   |nil=>exact U|cons v vs=>simp[dj]at h
 |r::rs,vs,az,hg,h,U=>by
   cases vs with
   |nil=>simp[dj]at h
   |cons v vs=>
     simp[dj,G5]at h;simp[iU]at hg;simp[bC]at U ⊢
     let ⟨x,xs,e,M,N⟩:=U
     exact⟨x,xs,e,eqA r v x hg.1 h.1 M,VH rs vs xs hg.2 h.2 N⟩
end
end
def Lm:V->V
 |.sq n _ f=>.sl n f|v=>v
def M3:V->V
 |.agg cs=>.agg (cs.map Lm)|.tup cs=>.tup (cs.map Lm)|v=>Lm v
theorem afR {w0:World} {lh:List ar} {ν:Nu} {v:V} {a:af} (h:vr w0 lh ν v a):vr w0 lh ν (Lm v) a:=by
 unfold Lm;split
 ·simp only[vr]at h ⊢
  let ⟨p,c,esz,M,N,h3,h4,h5⟩:=h
  exact⟨p,c,esz,M,N.1,h3,h4,h5⟩
 ·exact h
theorem xO {w0:World} {lh:List ar} {ν:Nu}:∀ {vs:List V} {qs:List af},bC w0 lh ν vs qs->bC w0 lh ν (vs.map Lm) qs
 |[],qs,h=>by simp[bC,Ia]at h ⊢;exact h
 |v::vs,qs,h=>by
   simp[bC,GZ]at h ⊢
   let ⟨x,xs,e,M,N⟩:=h
   exact⟨x,xs,e,afR M,xO N⟩
theorem af6 {w0:World} {lh:List ar} {ν:Nu} {v:V} {a:af} (h:vr w0 lh ν v a):vr w0 lh ν (M3 v) a:=by
 unfold M3;split
 ·simp[vr]at h ⊢
  let ⟨qs,e,h⟩:=h
  exact⟨qs,e,xO h⟩
 ·simp[vr]at h ⊢
  let ⟨qs,e,h⟩:=h
  exact⟨qs,e,xO h⟩
 ·exact afR h
theorem HR.fz (w0:World) (l:List ar):HR w0 ⟨λ_=>Option.none,l⟩ 0 0 [] l:=⟨λk o h=>by simp at h,λk k' x x' _ _ h=>by(cases h),λ_ _=>rfl,λ_ _ h=>by(cases h),mS _,λ_ _ _ h=>by(cases h)⟩
theorem hy' {l l1:List ar} {m m1:aH} (hz:wz l l1) (he:jB l m l1 m1) (hl:∀ (k:Nat) (o:ar),l[k]? = some o->o=.hid∨∃ az ty,o=.cells az ty):l1=l++l1.drop l.length:=by
 have hp:∀ k o,l[k]? = some o->l1[k]? = some o:=λk o W=>by
  rcases hl k o W with rfl|⟨az,ty,rfl⟩
  ·exact(he.2 k W).1
  ·exact hz k az ty W
 apply Hg;intro k;rw[HO];split
 ·rename_i Qw;have:l[k]? = some l[k]:=HU Qw;rw[hp k _ this,this]
 ·rename_i Ta;rw[Hq];congr 1;omega
theorem acO {α:Type} {P:Program} {BN:List TypeId} {D7:List jc} {ct:bm} {f:FuncId} {fn:Func} {sf:aO} {un:l8} {C:aD} {K0:V->List A7->BO α} {Q0:V->α->Prop} (hK0:∀ w0 r v h,bR (dz w0 (SV ct)) (K0 v h) (Q0 r)->Ts (re h [v])/\dc (M3 (td h v))=dc r) (hT:aV P BN D7 ct) (hE:∀ t∈BN,dw P t) (hI:mi P BN D7) (hf:P.funcs[f]? = some fn)
 (hn : (fn.name == "runtime.NumGoroutine") = false) (hc : eN P BN D7 fn = some sf) (hd : gr sf.ntmps sf.body = true) (hg : ∀ ds d p r, C ds = some (d, p, r) -> d.1 = d.2 -> p -> e9 r)
 (h:∀w0 ds d p r,C ds=some (d,p,r)->d.1=d.2->p->bR (dz w0 (SV ct)) (oE (oy ct LV) (nN ct) un LV sf ds [] K0) (Q0 r)):(vZ C).Ok P f:=by
 refine⟨λB m lh w args vs K hrel hargs SY=>?_,λ_ _ _ _ _ W ⟨ds,d,p,r,X,M,N,h3,h4,h5,h6⟩=>⟨ds,d,p,r,X,M,N,h3,h4,h5,λx new hx=>W _ _ (h6 x new hx)⟩,λ_ _ _ _ ⟨_,_,_,_,_,_,_,_,_,⟨x,new,hx⟩,h6⟩=>h6 x new hx⟩
 let ⟨ds,d,p,r,X,M,hX,N,⟨TK,h3⟩,_,h6⟩:=SY
 have hs:=pX (Sp:=λw0 args l K=>∃ ds d p r,bC w0 l Nu.nil ds args/\C ds=some (d,p,r)/\(d.1=d.2/\p)/\∀ x l',wz l l'->vr w0 l' Nu.nil r x->K x l') (hT.ok hE hI LV) hE hI hf hn hc (λw0 args l K hw ha ⟨ds,d,p,r,k1,k2,⟨k30,k3⟩,k4⟩=>by
  refine r7 (ν:=⟨λ_=>none,l⟩) (nV:=0) (nS:=0) (pS w0 ct hT.dst LV) (qi w0 ct _ LV) hd (iM (λk x h=>by cases h) ds args k1) (HR.fz w0 l) (h w0 ds d p r k2 k30 k3) λv h' ν' a lh' q0 q1 q2 q3=>?_
  let ⟨b1,b2⟩:=hK0 _ _ _ _ q3
  have hh:=q1 0 0
  have U:bC w0 lh' Nu.nil [td h' v] [a]:=sJ hh b1 (by simp only[bC];exact⟨_,_,rfl,q2,rfl⟩)
  simp only[bC]at U
  let ⟨x,xs,e,U,_⟩:=U
  cases e
  exact⟨a,lh',.inl ⟨rfl,(⟨.inr rfl,trivial⟩:mY [_] [_])⟩,k4 a lh' (pV q0.2 hh.zl) (eqA _ _ _ (hg _ _ _ _ k2 k30 k3) b2 (af6 U))⟩)
 let ⟨e1,e2⟩:=hs _ m (hide X lh) w args vs (λr' l'=>wz (hide X lh) l'/\vr B.w0 l' Nu.nil r r') (hrel.hide X) hargs ⟨ds,d,p,r,M,N,⟨TK,h3⟩,λx l' hz hx=>⟨hz,hx⟩⟩
 refine⟨e1,e2.mono λyav w' ⟨v,r',m1,l1,he,U,hext,hr,hz,hx⟩=>?_⟩
 have hfull:=hy' hz hext λk o W=>by
  rw[Go.Sx.hide_get]at W
  split at W
  ·cases hg:lh[k]? with
   |none=>rw[hg]at W;cases W
   |some o'=>rw[hg]at W;cases W;exact .inl rfl
  ·rename_i iz19
   rcases hX k iz19 with hc|hc
   ·right
    rw[W]at hc
    cases o with
    |cells az ty=>exact⟨az,ty,rfl⟩
    |_=>cases hc
   ·rw[GE hc]at W;cases W
 generalize l1.drop (hide X lh).length=new at hfull
 subst hfull
 let ⟨g1,g2⟩:=bf.unhideG hrel hr hext
 exact⟨v,r',m1,lh++new,he,U,g2,g1,h6 r' new hx⟩
theorem ajQ {P:Program} {f:FuncId} {e:Nat} {ty:TypeId} {C:aD} (h:(vL e ty C).Ok P f) (hL:∀ ds d p r,C ds=some (d,p,r)->d.1=d.2->p->WX e r/\∃ n f,r=.sl n f/\∀ i,i<n->(f i).all V.fc=true):(vN C).Ok P f:=by
 refine⟨λB m lh w args vs K hrel hargs ⟨ds,d,p,r,M,N,h3,h5,h6⟩=>?_,λ_ _ _ _ _ W ⟨ds,d,p,r,M,N,h3,h4,h5⟩=>⟨ds,d,p,r,M,N,h3,h4,λx new hx=>W _ _ (h5 x new hx)⟩,λw0 _ lh _ ⟨_,_,_,_,_,_,_,h4,h5⟩=>let ⟨x,new,hx⟩:=h4 w0 lh;h5 x new hx⟩;obtain⟨ho,n,f,rfl,YY⟩:=hL _ _ _ _ N h3.1 h3.2;have Ur:=ho
 let ⟨n',f',hl,hmax,Ri,_⟩:=Ur
 simp[qL,Et,Prod.mk.injEq]at hl
 let ⟨rfl,rfl⟩:=hl
 refine h.sound B m lh w args vs K hrel hargs ⟨ds,d,p,_,n,f,M,N,h3,rfl,ho,λx new hx=>?_⟩;show K x (lh++new);refine h6 x new ?_;simp only[vr];rcases hx with ⟨rfl,rfl⟩|⟨b,c,az,hb,TE,rfl,ce,UI,hall⟩
 ·exact⟨none,0,e,rfl,Em _,hmax,trivial,λi hi=>absurd hi (IG _)⟩
 ·have hbl':(List.replicate lh.length ar.dead++new)[b]? = some (.cells az ty):=by
   rw[GY (by simpa using hb)];rw[GY hb]at TE;simpa using TE
  refine⟨some (.l b 0),c,e,rfl,UI,hmax,⟨az,ty,hbl',GG _⟩,λi hi=>⟨.l b 0,dj (f i),rfl,?_,(fP (Ri i hi).2 _).2 rfl,YY i hi⟩⟩;have Rb:i*e+e<=az.length:=by rw[ce,← GW];exact Ga e E
  show lds B.w0 _ (.l b (0+i*e)) e=_;rw[Gh];simp only[lds,hbl'];rw[E5 Rb,hall i hi]
theorem apc {e n:Nat} {f:bk} (ho:WX e (.sl n f)) (YY:∀ i,i<n->(f i).all V.fc=true):JY (.sl n f):=λw0 lh=>by
 let ⟨n',f',hl,hmax,Ri,_⟩:=ho
 simp[qL,Et,Prod.mk.injEq]at hl
 let ⟨rfl,rfl⟩:=hl
 let ⟨M,N⟩:=A4 (e:=e) (f:=f) (n:=n) λi hi=>by rw[xu];exact(nT (Ri i hi).1).1
 refine⟨.slice (some (.l lh.length 0)) n n,[.cells ((List.range n).flatMap λi=>dj (f i)) 0],?_⟩;simp only[vr];have hbl':(List.replicate lh.length ar.dead++[ar.cells ((List.range n).flatMap λi=>dj (f i)) 0])[lh.length]? = some (.cells ((List.range n).flatMap λi=>dj (f i)) 0):=by rw[GY av];simp
 refine⟨some (.l lh.length 0),n,e,rfl,Em _,hmax,⟨_,0,hbl',GG _⟩,λi hi=>⟨.l lh.length 0,dj (f i),rfl,?_,(fP (Ri i hi).2 _).2 rfl,YY i hi⟩⟩;have Rb:i*e+e<=n*e:=by rw[← GW];exact Ga e E
 show lds w0 _ (.l lh.length (0+i*e)) e=_;rw[Gh];simp only[lds,hbl'];rw[E5 (by rw[M];exact Rb),N i hi]
theorem ap1 {P:Program} {f:FuncId} {e:Nat} {ty:TypeId} {C:aD} (h:(vL e ty C).Ok P f) (hL:∀ ds d p r,C ds=some (d,p,r)->d.1=d.2->p->WX e r/\∃ n f,r=.sl n f/\∀ i,i<n->(f i).all V.fc=true):(vN C).Ok P f/\∀ ds d p r,C ds=some (d,p,r)->d.1=d.2->p->JY r :=
 ⟨ajQ h hL,λds d p r M N h3=>by obtain⟨ho,n,f,rfl,YY⟩:=hL ds d p r M N h3;exact apc ho YY⟩
end Go.Dx
namespace Go.Dx
open Go.Sx
section
variable {J:Type}
def Ni (J:Type) (ct:bm) (un:l8) (sf:aO) (ds:List V):BO (cX J):=oE (oy ct LV) (nN ct) un LV sf ds [] λv h=>JX (re h [v]) (.ret (.res (M3 (td h v))))
theorem nx3 {P:Program} {BN:List TypeId} {D7:List jc} {ct:bm} {f:FuncId} {fn:Func} {sf:aO} {un:l8} {ts:List Ty} {pre:List V->Prop} {r:List V->V} (hT:aV P BN D7 ct) (hE:∀ t∈BN,dw P t) (hI:mi P BN D7) (hf:P.funcs[f]? = some fn)
 (hn : (fn.name == "runtime.NumGoroutine") = false) (hc : eN P BN D7 fn = some sf) (hd : gr sf.ntmps sf.body = true) (ho : gS ts = true) (hg : ∀ ds, pre (au ts ds) -> e9 (r (au ts ds)))
 (h:∀w0 ds,pre (au ts ds)->bR (dz w0 (SV ct)) (Ni J ct un sf (au ts ds)) (qS (r (au ts ds)))):(vZ (cK ts pre r)).Ok P f:=by
 refine⟨λB m lh w args vs K hrel hargs SY=>?_,λ_ _ _ _ _ W ⟨ds,d,p,r,X,M,N,h3,h4,h5,h6⟩=>⟨ds,d,p,r,X,M,N,h3,h4,h5,λx new hx=>W _ _ (h6 x new hx)⟩,λ_ _ _ _ ⟨_,_,_,_,_,_,_,_,_,⟨x,new,hx⟩,h6⟩=>h6 x new hx⟩
 let ⟨ds,d,p,r',X,M,hX,N,⟨TK,h3⟩,h5,h6⟩:=SY
 simp only[cK,Et,Prod.mk.injEq]at N
 let ⟨rfl,rfl,rfl⟩:=N
 have TG:=(kl ts ds [] [] ho TK).1
 rw[(im ts ds [] [] TK).1]at h3 h5 h6
 have key2:=acO (C:=λds'=>some ((ds',au ts ds),pre (au ts ds),r (au ts ds))) (P:=P) (f:=f) (un:=un) (K0:=λv h=>JX (re h [v]) (BO.ret (cX.res (J:=J) (M3 (td h v))))) (Q0:=qS (J:=J)) (λw0 r v h hs=>⟨(yk hs).1,by have N:=(yk hs).2;simp[bR,qS]at N;exact N⟩) hT hE hI hf hn hc hd (λds' d' p' r' e he hp=>by
  simp only[Et,Prod.mk.injEq]at e
  let ⟨rfl,rfl,rfl⟩:=e
  exact hg ds hp) (λw0 ds' d' p' r' e he hp=>by
  simp only[Et,Prod.mk.injEq]at e
  let ⟨rfl,rfl,rfl⟩:=e
  simp only at he
  subst he
  exact h w0 ds hp)
 exact key2.sound B m lh w args vs K hrel hargs ⟨au ts ds,_,_,_,X,gg ts ds args TG M,hX,rfl,⟨rfl,h3⟩,h5,h6⟩
theorem ih8 {ts:List Ty} {pre:List V->Prop} {r:List V->V} (hL:∀ ds,bN ts ds->pre (au ts ds)->∀ w0 lh args,bC w0 lh Nu.nil (au ts ds) args->∃ x new,vr w0 (lh++new) Nu.nil (r (au ts ds)) x) (ho:gS ts=true):∀ ds d p r',cK ts pre r ds=some (d,p,r')->d.1=d.2->p->∀ w0 lh args,bC w0 lh Nu.nil ds args->∃ x new,vr w0 (lh++new) Nu.nil r' x:=by
 intro ds d p r' h M N w0 lh args ha;simp only[cK,Et,Prod.mk.injEq]at h
 let ⟨rfl,rfl,rfl⟩:=h
 have TG:=(kl ts ds [] [] ho M).1;rw[(im ts ds [] [] M).1]at N ⊢;exact hL ds TG N w0 lh args (gg ts ds args TG ha)
end
theorem fb2 {w0:World} {lh:List ar} {e n:Nat} {f:bk} (hn:n<=9223372036854775807) (Ri:∀ i,i<n->nM e (f i)=true/\(dj (f i)).all bO=true/\(f i).all V.fc=true):∃ x new,vr w0 (lh++new) Nu.nil (.sl n f) x:=by
 let ⟨x,new,hx⟩:=apc (e:=e) (n:=n) (f:=f) ⟨n,f,rfl,hn,λi hi=>⟨(Ri i hi).1,(Ri i hi).2.1⟩,by simp[FC,dj]⟩ (λi hi=>(Ri i hi).2.2) w0 lh
 refine⟨x,new,nh (λk az ty W=>?_) _ x hx⟩;rw[HO]at W;split at W
 ·rename_i Qw;simp at Qw;simp[Qw]at W
 ·rename_i Ta;simp at Ta;rw[GY Ta];simpa using W
end Go.Dx
namespace Go.Dx
open Go.IntKind (i64 u64 u8)
open Go.Sx Go.Proofs
variable (H:Nat) (G:bk) (R:Int) (s0:ByteArray) (n1:Nat) (f1:bk) (S Z:Int) (n3:Nat) (f3:bk) (x3 O:Int) (n5:Nat) (f5:bk) (x7 x8:Int) (n9:Nat) (f9:bk) (x9:Int) (q:Nat) (Y:bk) (RI Qz Qy:Int)
noncomputable section
def B8:bm:=(56,.con aad)::(120,.con LN)::(119,.con hc1)::(85,.con Rp)::Jc
theorem adM:aV Tryz.prog BN D7 B8:=.con ac8 (.con ev2 (.con fn0 (.con fc1 (pP))))
inductive vo where|L0 (_:Int) (_:Nat) (_:bk)
def ris:vo->bZ×List A7×Option Ex
 |.L0 Qg Ry Y7=>([(9,D Qg),(8,D (H:Int)),(7,V.sl H (A L G)),(4,V.gs 0 Ry),(1,V.pd [D Z])],[A7.gl 1 Ry (A L Y7) 3],none)
def af3:vo->JJ
 |.L0 ..=>(0,[])
def at1:BO (cX JJ):=R9 JJ 1 3 B8 u0 aeM [V.sl H (A L G),V.pd [D Z]]
def Di (cx:List Cx):Lp JJ:=iZ (ik (at1 H G Z) [])
def ahC:JJ->Lp JJ
 |(0,cx)=>Di H G Z cx|(_,cx)=>Di H G Z cx
def akO:LD JJ vo:=⟨af3,ahC H G Z,ris H G Z⟩
def Cu:vo->RT vo
 |.L0 Qg Ry Y7=>.br (decide (Qg<(H:Int))) (.ob (dI Qg H) (.obt (.ob (decide (Ry<=Ry/\(Ry+1)*8<=140737488355328)&&!Nat.beq 8 0) (.next [some (some 2)] (vo.L0 (I (Qg+1)) (Ry+1) (bH Ry (A L Y7) λx=>[D (I (aE (G Qg.toNat)*Z))])) [⟨0,L,Ry+1,bH Ry (A L Y7) λx=>[D (I (aE (G Qg.toNat)*Z))],gO (aF rfl _ _) (fH rfl _ rfl)⟩])))) (.ob (decide (Ry<=Ry)) (.ret (V.sl Ry (A L Y7))))
def MK:RT vo:=dm (G,Z) (.am H (.enter [some none] (vo.L0 0 0 (λi=>[])) []))
theorem ng1:ig B8 u0 (akO H G Z) (at1 H G Z) (MK H G Z) (Cu H G Z):=⟨cG,λs=>by cases s<;>exact cG⟩
def bp (h:Int):Nat->List V:=λi=>[D (I (aE (G i)*h))]
theorem nmB {n:Nat} {f g:bk} (h:∀i,i<n->dj (f i)=dj (g i)):dc (.sl n f)=dc (.sl n g):=by simp only[dc];congr 1;exact Jm λi hi=>by rw[h i (List.mem_range.1 hi)]
theorem x17 {ts:List Ty} {pre:List V->Prop} {r:List V->V} {Qe:V->Prop} (hL:∀ds,pre (au ts ds)->Qe (r (au ts ds))):∀ds d p r',cK ts pre r ds=some (d,p,r')->d.1=d.2->p->Qe r':=by intro ds d p r' h M N;simp only[cK,Et,Prod.mk.injEq]at h;obtain⟨rfl,rfl,rfl⟩:=h;rw[(im ts ds [] [] M).1]at N ⊢;exact hL ds N
theorem OU {a b:Nat} (h:a<b):Nat.blt a b=true:=Hj h
theorem aaI {a b:Nat} (h:b<=a):Nat.blt a b=false:=by
 cases hb:Nat.blt a b with
 |false=>rfl|true=>have:=G2 hb;omega
theorem ajo (qu:H<=1000):∀ k,k<=H->∀ f:bk,(∀ j,j<k->au L (f j)=bp G Z j)->Ev (Cu H G Z) (.L0 (k:Int) k f) (.sl H (A L (bp G Z))):=by
 refine gE λk W ih f hf=>?_;refine Ev.of rfl ?_;by_cases Qw:k<H
 ·have Wa:I ((k:Int)+1)=((k+1:Nat):Int):=by rw[D5 E E];omega
  refine c9 (BH E) (aL (BH E) (ak (aL ?_ (bb ?_))))
  ·simp only[Eg];exact⟨BH ⟨Em _,E⟩,rfl⟩
  ·rw [Wa,GR]
   refine ih Qw _ λj hj=>?_;unfold bH;by_cases hjk:j<k
   ·rw[OU hjk];show au _ (au _ (f j))=_;rw[fq];exact hf j hjk
   ·have:j=k:=by omega
    subst this;rw[aaI (Em _)];rfl
 ·have e:k=H:=by omega
  subst e;refine d5 (eZ E) (aL (BH (Em _)) (aA ?_));exact nmB λi hi=>by show dj (au _ (f i))=dj (au _ (bp G Z i));rw[hf i hi];rfl
theorem hvy (hp:H<=1000):a6 (Ev (Cu H G Z)) (MK H G Z) (.sl H (A L (bp G Z))):=cg λ_=>aS (ajo H G Z hp 0 (GG _) _ λj hj=>absurd hj (IG _))
theorem afJ (hp:H<=1000):a6 (Ev (Cu H G Z)) (MK H G Z) (.sl H (A L (bp (A L G) Z))):=hvy H G Z hp
def nm7:List Ty:=[.sl L,.pd L]
def aml:List V->Prop
 |[.sl H _,.pd [.int _ _]]=>H<=1000|_=>False
def ajr:List V->V
 |[.sl H G,.pd [.int _ Z]]=>.sl H (A L (bp G Z))|_=>.any
def Ek:aD:=cK nm7 aml ajr
theorem w4 (f:bk) (h:Int) (i:Nat):nM 1 (A L (bp f h) i)=true/\(dj (A L (bp f h) i)).all bO=true/\(A L (bp f h) i).all V.fc=true:=by refine⟨rfl,?_,rfl⟩;show(dj [D _]).all bO=true;simp only[dj,dc,Gw,bO,List.all_nil,Bool.and_self]
theorem Dq8:∀ds d p r,Ek ds=some (d,p,r)->d.1=d.2->p->WX 1 r/\∃n f,r=.sl n f/\∀i,i<n->(f i).all V.fc=true:=x17 (Qe:=λr=>WX 1 r/\∃n f,r=.sl n f/\∀i,i<n->(f i).all V.fc=true) λds hp=>by have hp:aU (aM ds)<=1000:=hp;exact⟨⟨_,_,rfl,(by omega:aU (aM ds)<=9223372036854775807),λi hi=>⟨(w4 _ _ i).1,(w4 _ _ i).2.1⟩,(by simp only[dj,List.all_nil]:(dj []).all bO=true)⟩,_,_,rfl,λi hi=>(w4 _ _ i).2.2⟩
theorem agl:(vL 1 3 Ek).Ok Tryz.prog 86:=arE adM Tryz.func86 bw λds hp=>qV (ng1 ..) (afJ _ _ _ hp)
theorem adf:(vN Ek).Ok Tryz.prog 86:=ajQ agl Dq8
theorem ix9:∀ds d p r,Ek ds=some (d,p,r)->d.1=d.2->p->JY r:=(ap1 agl Dq8).2
def GM:bm:=(86,.conN Ek ix9)::B8
theorem ain:aV Tryz.prog BN D7 GM:=.conN adf (adM)
def aau:RT Empty:=.obp (n1<=(1000:Nat)) (.obp (n3<=(1000:Nat)) (.ret (V.agg [V.str s0,V.sl n1 (A L f1),V.sl n3 (A L f3),V.sl n5 (A [Ty.sl L] f5),D x7,D x8,V.sl n1 (A L (bp (A L f1) x9)),V.sl n3 (A L (bp (A L f3) x9)),D x9])))
theorem sl0:dZ d7 (Ni JJ GM u0 ahG [V.agg [V.str s0,V.sl n1 (A L f1),V.sl n3 (A L f3),V.sl n5 (A [Ty.sl L] f5),D x7,D x8],D x9]) (aau s0 n1 f1 n3 f3 n5 f5 x7 x8 x9):=cG
theorem apG {ct:bm} {f:FuncId} {fn:Func} {sf:aO} {un:l8} {ts:List Ty} {pre:List V->Prop} {r:List V->V} (hT:aV Tryz.prog BN D7 ct) (hf:Tryz.prog.funcs[f]? = some fn) (W:KL fn sf ts=(false,some sf,true,true)) (hg:∀ ds,pre (au ts ds)->e9 (r (au ts ds))) (h:∀ ds,pre (au ts ds)->Jd ct (Ni JJ ct un sf (au ts ds)) (r (au ts ds))):(vZ (cK ts pre r)).Ok Tryz.prog f :=
 nx3 (J:=JJ) (un:=un) hT hE hI hf (fE W).1 (fE W).2.1 (fE W).2.2.1 (fE W).2.2.2 hg λw0 ds hp=>h ds hp hT.dst w0
def BA:List Ty:=[.agg ao,tI]
def hY':List V->Prop
 |[.agg [.str _,.sl n1 _,.sl n3 _,.sl _ _,.int _ _,.int _ _],.int _ _]=>n1<=1000/\n3<=1000|_=>False
def PV:List V->V
 |[.agg [.str s0,.sl n1 f1,.sl n3 f3,.sl n5 f5,.int k7 x7,.int k8 x8],.int _ x9]=>.agg [.str s0,.sl n1 f1,.sl n3 f3,.sl n5 f5,.int k7 x7,.int k8 x8,.sl n1 (A L (bp f1 x9)),.sl n3 (A L (bp f3 x9)),D x9]|_=>.any
def Mb:aD:=cK BA hY' PV
theorem ahz (hp:n1<=1000/\n3<=1000):a6 dK (aau s0 n1 f1 n3 f3 n5 f5 x7 x8 x9) (.agg [V.str s0,V.sl n1 (A L f1),V.sl n3 (A L f3),V.sl n5 (A [Ty.sl L] f5),D x7,D x8,V.sl n1 (A L (bp (A L f1) x9)),V.sl n3 (A L (bp (A L f3) x9)),D x9]):=aP hp.1 (aP hp.2 (aA rfl))
theorem pG (vs:List V):iU (au L vs):=by show iU [V.int _ _];simp only[iU,e9,and_self]
theorem hqa (vs:List V):iU (au [Ty.sl L] vs):=by show iU [V.sl (aU (aM vs)) (A L (du (aM vs)))];simp only[iU,e9,and_true];exact λi hi=>pG _
theorem hty (ds:List V):e9 (PV (au BA ds)):=by show e9 (.agg [V.str _,V.sl _ (A L _),V.sl _ (A L _),V.sl _ (A [Ty.sl L] _),V.int _ _,V.int _ _,V.sl _ (A L _),V.sl _ (A L _),V.int _ _]);simp only[e9,iU,GQ,and_true];exact⟨λi hi=>pG _,λi hi=>pG _,λi hi=>hqa _,λi hi=>pG _,λi hi=>pG _⟩
theorem aiE:∀ ds d p r,Mb ds=some (d,p,r)->d.1=d.2->p->∀ w0 lh args,bC w0 lh Nu.nil ds args->∃ x new,vr w0 (lh++new) Nu.nil r x:=ih8 (λds TG hp w0 lh args ha=>by
 have hp:aU (aM (ap (Gu (aM ds))))<=1000/\aU (aM (ap (ap (Gu (aM ds)))))<=1000:=hp;change bC w0 lh Nu.nil [V.agg [V.str _,V.sl _ _,V.sl _ _,V.sl _ _,V.int _ _,V.int _ _],V.int _ _] args at ha;simp only[bC]at ha;obtain⟨a,as1,rfl,M,b,bs,rfl,N,rfl⟩:=ha;rw[vr.eq_5]at M;obtain⟨cs,rfl,M⟩:=M;simp only[bC]at M;obtain⟨c0,_,rfl,g0,c1,_,rfl,g1,c2,_,rfl,g2,c3,_,rfl,g3,c4,_,rfl,g4,yar,_,rfl,g5,rfl⟩:=M;obtain⟨x6,zW,g6⟩:=fb2 (w0:=w0) (lh:=lh) (e:=1) (n:=aU (aM (ap (Gu (aM ds))))) (f:=A L (bp (A L (du (aM (ap (Gu (aM ds)))))) (bM ds))) E λi hi=>w4 _ _ i;obtain⟨x7,yae,ybc⟩:=fb2 (w0:=w0) (lh:=lh++zW) (e:=1) (n:=aU (aM (ap (ap (Gu (aM ds)))))) (f:=A L (bp (A L (du (aM (ap (ap (Gu (aM ds))))))) (bM ds))) E λi hi=>w4 _ _ i;have z:∀(l t:List ar),wz l (l++t):=λl t k as1 ty W=>by rw[Fp (List.getElem?_eq_some_iff.1 W).1];exact W
 have up:∀v a,vr w0 lh Nu.nil v a->vr w0 (lh++(zW++yae)) Nu.nil v a:=λv a h=>nh (z _ _) v a h;refine⟨.agg [c0,c1,c2,c3,c4,yar,x6,x7,af.int .i64 (bM ds)],zW++yae,?_⟩;show vr w0 _ Nu.nil (.agg [V.str _,V.sl _ _,V.sl _ _,V.sl _ _,V.int _ _,V.int _ _,V.sl _ _,V.sl _ _,V.int _ _]) _;rw[vr.eq_5];simp only[bC];refine⟨_,rfl,_,_,rfl,up _ _ g0,_,_,rfl,up _ _ g1,_,_,rfl,up _ _ g2,_,_,rfl,up _ _ g3,_,_,rfl,up _ _ g4,_,_,rfl,up _ _ g5,_,_,rfl,?_,_,_,rfl,?_,_,_,rfl,?_,rfl⟩
 ·rw[← JE];exact nh (z _ _) _ _ g6
 ·rw[← JE];exact ybc
 ·simp only[vr]) rfl
theorem fs4:(vZ Mb).Ok Tryz.prog 49:=apG ain Tryz.func49 bw (λds _=>hty ds) λds hp=>er (sl0 ..) (ahz _ _ _ _ _ _ _ _ _ _ hp)
def xl:bm:=(182,.inl Pj u0)::(49,.conZ Mb aiE)::GM
theorem ul:aV Tryz.prog BN D7 xl:=iB Tryz.func182 bw (.conZ fs4 (ain))
def hac:RT Empty:=.br (R !=R) (.ob (R !=R) (.ii (.obi (.ret (V.bool (bif !S !=S then true else decide (R<S))))))) (.ret (V.bool (decide (R<S))))
theorem iw4:dZ d7 (ba JJ xl u0 arf [D R,D S]) (hac R S):=cG
def pQ:Bool:=bif R !=R then bif !S !=S then true else decide (R<S) else decide (R<S)
def Hb:V:=.bool (pQ R S)
theorem acG:a6 dK (hac R S) (Hb R S):=E2 (λh0=>aL (by first|assumption|(fail)) (BK (BK (BK (aA (by unfold Hb pQ;try rw[h0];rfl)))))) (λh0=>aA (by unfold Hb pQ;try rw[h0];rfl))
def aaJ:aD:=cK aK (λ_=>True) λ|[.int _ R,.int _ S]=>Hb R S|_=>.any
theorem ad8:c7 aaJ 165:=bo ul λ_ hp=>er (iw4 ..) (acG _ _)
def aab:RT Empty:=.ret (V.bool (R !=R))
theorem x21:dZ d7 (ba JJ xl u0 aqL [D R]) (aab R):=cG
def nX:Bool:=R !=R
def SN:V:=.bool (nX R)
theorem age:a6 dK (aab R) (SN R):=aA (by unfold SN nX;rfl)
def hbd:aD:=cK L (λ_=>True) λ|[.int _ R]=>SN R|_=>.any
theorem ado:c7 hbd 166:=bo ul λ_ hp=>er (x21 ..) (age _)
def abZ:RT Empty:=.cb (.obi (.br (!!aw R 0 200000) (.ob (!!aw R 0 200000) (.cb (.obi (.br (!!aw S 0 600) (.ob (!!aw S 0 600) (.cb (.ret (V.bool !aw Z 0 1000)))) (.ret (V.kb true)))))) (.ret (V.kb true))))
theorem iw0:dZ d7 (ba JJ xl u0 asJ [V.agg [D R,D S,D Z]]) (abZ R S Z):=cG
def fj:Bool:=bif !!aw R 0 200000 then bif !!aw S 0 600 then !aw Z 0 1000 else true else true
def EJ:V:=.bool (fj R S Z)
theorem agR:a6 dK (abZ R S Z) (EJ R S Z):=aC (ak (BK (E2 (λh0=>aL (by first|assumption|(fail)) (aC (ak (BK (E2 (λM=>aL (by first|assumption|(fail)) (aC (ak (aA (by unfold EJ fj;try rw[h0];try rw[M];rfl))))) (λM=>aA (by unfold EJ fj;try rw[h0];try rw[M];rfl))))))) (λh0=>aA (by unfold EJ fj;try rw[h0];rfl)))))
def hd2:aD:=cK [.agg CE] (λ_=>True) λ|[.agg [.int _ R,.int _ S,.int _ Z]]=>EJ R S Z|_=>.any
theorem agu:c7 hd2 46:=bo ul λ_ hp=>er (iw0 ..) (agR _ _ _)
def fF:Bool:=bz R (-200000) 200000
def abD:RT Empty:=.cb (.iv (.br (!!aw O 1 30000) (.ob (!!aw O 1 30000) (.ob (!!aw O 1 30000) (.ob (!!aw O 1 30000) (.ob (!!aw O 1 30000) (.cb (.br (!ed 4 (A L (cq [D R,D S,D Z,D x3] 0 1)) (-200000) 200000) (.ret (D 7)) (.iv (.obi (.br (bif decide (S<R) then true else decide (x3<Z)) (.ret (D 2)) (.ret (D 0))))))))))) (.ret (D 7))))
theorem m62:dZ d7 (ba JJ xl u0 aoT [V.agg [D R,D S,D Z,D x3],D O]) (abD R S Z x3 O):=cG
def eO:Int:=bif !!aw O 1 30000 then bif !ed 4 (A L (cq [D R,D S,D Z,D x3] 0 1)) (-200000) 200000 then 7 else bif bif decide (S<R) then true else decide (x3<Z) then 2 else 0 else 7
def Am:V:=D (eO R S Z x3 O)
theorem agG:a6 dK (abD R S Z x3 O) (Am R S Z x3 O):=aC (ak (BK (BK (BK (BK (E2 (λh0=>aL (by first|assumption|(fail)) (aL (by first|assumption|(fail)) (aL (by first|assumption|(fail)) (aL (by first|assumption|(fail)) (aC (ak (E2 (λM=>aA (by unfold Am eO;try rw[h0];try rw[M];rfl)) (λM=>BK (BK (BK (BK (BK (E2 (λN=>aA (by unfold Am eO;try rw[h0];try rw[M];try rw[N];rfl)) (λN=>aA (by unfold Am eO;try rw[h0];try rw[M];try rw[N];rfl))))))))))))))) (λh0=>aA (by unfold Am eO;try rw[h0];rfl))))))))
def ybg:aD:=cK [.agg kp,tI] (λ_=>True) λ|[.agg [.int _ R,.int _ S,.int _ Z,.int _ x3],.int _ O]=>Am R S Z x3 O|_=>.any
theorem agL:c7 ybg 47:=bo ul λ_ hp=>er (m62 ..) (agG _ _ _ _ _)
def hC':RT Empty:=dm (s0,n1,f1,n3,f3,n5,f5,x7,x8,RI) (.ob (decide ((0:Int)<=0/\0<(n9:Int))) (.am n9 (.ob (dI (I ((n9:Int)-1)) n9) (.cb (.ii (.obj (aw Qz (aE (f9 0)) (aE (f9 (I ((n9:Int)-1)).toNat))) (decide ((0:Int)<=0/\0<(q:Int))) (.iv (.asm (aw Qz (aE (f9 0)) (aE (f9 (I ((n9:Int)-1)).toNat))=true->q<=9223372036854775807) (.ii (.obi (.obj (aw Qz (aE (f9 0)) (aE (f9 (I ((n9:Int)-1)).toNat))) (dI (I ((q:Int)-1)) q) (.obi (.br (aw Qz (aE (f9 0)) (aE (f9 (I ((n9:Int)-1)).toNat))) (.ob (aw Qz (aE (f9 0)) (aE (f9 (I ((n9:Int)-1)).toNat))) (.ob (aw Qz (aE (f9 0)) (aE (f9 (I ((n9:Int)-1)).toNat))) (.ob (aw Qz (aE (f9 0)) (aE (f9 (I ((n9:Int)-1)).toNat))) (.cb (.ret (V.bool (aw Qy (aE (Y 0)) (aE (Y (I ((q:Int)-1)).toNat))))))))) (.ret (V.kb false)))))))))))))))
theorem yaU:dZ d7 (ba JJ xl u0 yaL [V.agg [V.str s0,V.sl n1 (A L f1),V.sl n3 (A L f3),V.sl n5 (A [Ty.sl L] f5),D x7,D x8,V.sl n9 (A L f9),V.sl q (A L Y),D RI],D Qz,D Qy]) (hC' s0 n1 f1 n3 f3 n5 f5 x7 x8 n9 f9 q Y RI Qz Qy):=cG
def bg:Bool:=bif aw Qz (aE (f9 0)) (aE (f9 (I ((n9:Int)-1)).toNat)) then aw Qy (aE (Y 0)) (aE (Y (I ((q:Int)-1)).toNat)) else false
def IU:V:=dm (s0,n1,f1,n3,f3,n5,f5,x7,x8,RI) (.bool (bg n9 f9 q Y Qz Qy))
theorem agy (hp:(1<=n9/\n9<=1000)/\(1<=q/\q<=1000)):a6 dK (hC' s0 n1 f1 n3 f3 n5 f5 x7 x8 n9 f9 q Y RI Qz Qy) (IU s0 n1 f1 n3 f3 n5 f5 x7 x8 n9 f9 q Y RI Qz Qy):=aL (by first|assumption|((first|exact BH E|(rw[D5 E E];exact BH E)))) (FW (λa0=>aL (by first|assumption|((first|exact BH E|(rw[D5 E E];exact BH E)))) (aC (ak (BK (BK (fQ (by first|assumption|((intro _;(first|exact BH E|(rw[D5 E E];exact BH E))))) (BK (BK (BK (BK (FW (λa0=>BK (BK (BK (fQ (by first|assumption|((intro _;(first|exact BH E|(rw[D5 E E];exact BH E))))) (BK (E2 (λh0=>aL (by first|assumption|((first|exact BH E|(rw[D5 E E];exact BH E)))) (aL (by first|assumption|((first|exact BH E|(rw[D5 E E];exact BH E)))) (aL (by first|assumption|((first|exact BH E|(rw[D5 E E];exact BH E)))) (aC (ak (aA (by unfold IU bg;try rw[h0];rfl))))))) (λh0=>aA (by unfold IU bg;try rw[h0];rfl))))))))))))))))))))
def abQ:aD:=cK [.agg [.str,.sl L,.sl L,.sl [.sl L],tI,tI,.sl L,.sl L,tI],tI,tI] (λ
 |[.agg [.str s0,.sl n1 f1,.sl n3 f3,.sl n5 f5,.int _ x7,.int _ x8,.sl n9 f9,.sl q Y,.int _ RI],.int _ Qz,.int _ Qy]=>(1<=n9/\n9<=1000)/\(1<=q/\q<=1000)|_=>False) λ
 |[.agg [.str s0,.sl n1 f1,.sl n3 f3,.sl n5 f5,.int _ x7,.int _ x8,.sl n9 f9,.sl q Y,.int _ RI],.int _ Qz,.int _ Qy]=>IU s0 n1 f1 n3 f3 n5 f5 x7 x8 n9 f9 q Y RI Qz Qy|_=>.any
theorem aer:c7 abQ 90:=bo ul λ_ hp=>er (yaU ..) (agy _ _ _ _ _ _ _ _ _ _ _ _ _ _ _ _ hp)
end
end Go.Dx
namespace Go.Dx
noncomputable section
theorem ajY {a b:Bool} (h:(a&&b)=true):a=true:=by cases a<;>simp_all
theorem al5 {a b:Bool} (h:(a&&b)=true):b=true:=by cases a<;>simp_all
end
end Go.Dx
namespace Go.Dx
open Go.IntKind (i64 u64 u8)
open Go.Sx Go.Proofs
variable (H:Nat) (G:bk) (R:Int) (s0:ByteArray) (n1:Nat) (f1:bk) (S:Int) (s1:ByteArray) (T:Nat) (Q:bk) (Z:Int) (n3:Nat) (f3:bk) (x3:Int) (n4:Nat) (f4:bk) (O:Int) (n5:Nat) (f5:bk) (n6:Nat) (f6:bk) (x7 x8:Int) (n9:Nat) (f9:bk) (x9:Int) (TA:Nat) (V6:bk) (q:Nat) (Y:bk) (Sj:Nat) (SG:bk) (RI Qz Qy R4:Int)
noncomputable section
def zZ:bm:=(165,.con aaJ)::(166,.con hbd)::(46,.con hd2)::(47,.con ybg)::(90,.con abQ)::xl
theorem GL:aV Tryz.prog BN D7 zZ:=.con ad8 (.con ado (.con agu (.con agL (.con aer (ul)))))
def mB:Int:=bif !!bz O 1 30000 then bif !!fF R then bif !!fF S then bif !!fF Z then bif !fF x3 then 7 else bif bif decide (S<R) then true else decide (x3<Z) then 2 else 0 else 7 else 7 else 7 else 7
inductive te where|L0 (_ _:Int)
def is9:te->bZ×List A7×Option Ex
 |.L0 Qg RU=>([(8,D Qg),(7,D RU),(6,D (H:Int)),(0,V.sl H (A L G)),(1,D Z)],[],none)
def afq:te->JJ
 |.L0 ..=>(0,[])
def fc3:BO (cX JJ):=ba JJ zZ u0 asi [V.sl H (A L G),D Z]
def CY (cx:List Cx):Lp JJ:=iZ (ik (fc3 H G Z) [])
def ahn:JJ->Lp JJ
 |(0,cx)=>CY H G Z cx|(_,cx)=>CY H G Z cx
def ajF:LD JJ te:=⟨afq,ahn H G Z,is9 H G Z⟩
def yd:te->RT te
 |.L0 Qg RU=>.br (decide (RU<Qg)) (.obt (.ob (dI (I ((u64.wrap (I (RU+Qg))).fdiv (2 ^ 1))) H) (.cb (.br (pQ (aE (G (I ((u64.wrap (I (RU+Qg))).fdiv (2 ^ 1))).toNat)) Z) (.next [] (te.L0 Qg (I (I ((u64.wrap (I (RU+Qg))).fdiv (2 ^ 1))+1))) []) (.next [] (te.L0 (I ((u64.wrap (I (RU+Qg))).fdiv (2 ^ 1))) RU) []))))) (.ii (.obj (decide (RU<(H:Int))) (dI RU H) (.iv (.ii (.obj (decide (RU<(H:Int))&&!aE (G RU.toNat)==Z) (dI RU H) (.obi (.br (decide (RU<(H:Int))&&!aE (G RU.toNat)==Z) (.ob (decide (RU<(H:Int))&&!aE (G RU.toNat)==Z) (.cb (.br (nX (aE (G RU.toNat))) (.ob (nX (aE (G RU.toNat))) (.cb (.obi (.ret (V.tup [D RU,V.bool (bif decide (RU<(H:Int)) then nX Z else false)]))))) (.obi (.ret (V.tup [D RU,V.bool (bif decide (RU<(H:Int)) then false else false)])))))) (.obi (.obj (decide (RU<(H:Int))&&!aE (G RU.toNat)==Z) (false) (.ii (.br (aE (G RU.toNat)==Z) (.obi (.ret (V.tup [D RU,V.bool (bif decide (RU<(H:Int)) then true else false)]))) (.obi (.bry (decide (RU<(H:Int))) (.ret (V.tup [D RU,V.kb false])))))))))))))))
def Oy:RT te:=dm (G,Z) (.am H (.enter [] (te.L0 ((H:Int)) 0) []))
theorem x22:ig zZ u0 (ajF H G Z) (fc3 H G Z) (Oy H G Z) (yd H G Z):=⟨cG,λs=>by cases s<;>exact cG⟩
def EU (f:Nat->Int) (t:Int):Nat->Nat->Nat->Nat
 |0,i,_=>i|d+1,i,j=>bif Nat.blt i j then bif decide (f ((i+j) / 2)<t) then EU f t d ((i+j) / 2+1) j else EU f t d i ((i+j) / 2) else i
def Iq:Nat:=EU (λk=>aE (G k)) Z H 0 H
def jO (H:Nat) (G:bk) (Z:Int):Int:=(Iq H G Z:Int)
def kH (H:Nat) (G:bk) (Z:Int):Bool:=bif decide ((Iq H G Z:Int)<(H:Int)) then aE (G (Iq H G Z))==Z else false
theorem an9 {i j:Nat} (h:i+j<=2000):I ((u64.wrap (I ((i:Int)+(j:Int)))).fdiv (2 ^ 1))=(((i+j) / 2:Nat):Int):=by
 rw[D5 (x:=(i:Int)+(j:Int)) E E];have:u64.wrap ((i:Int)+(j:Int))=(i:Int)+(j:Int):=by simp only[IntKind.wrap,IntKind.bits,IntKind.signed,Bool.false_and];rw[DX av];omega
 rw[this,Ji _ Ej,D5 E E];omega
theorem aja (x:Int):nX x=false:=by unfold nX;simp
theorem am8 {b:Bool} (h:(!b)=true):b=false:=by cases b<;>first|rfl|cases h
theorem ahZ (x y:Int):pQ x y=decide (x<y):=by unfold pQ;simp
theorem anF (hn:H<=1000):∀ d i j:Nat,j-i<=d->i<=j->j<=H->EU (λk=>aE (G k)) Z d i j=Iq H G Z->Ev (yd H G Z) (.L0 (j:Int) (i:Int)) (.tup [D (jO H G Z),.bool (kH H G Z)]):=by
 intro d;have exit:∀ i j:Nat,j<=i->j<=H->i<=j->i=Iq H G Z->Ev (yd H G Z) (.L0 (j:Int) (i:Int)) (.tup [D (jO H G Z),.bool (kH H G Z)]):=by
  intro i j M N h3 e;refine Ev.of rfl (d5 (eZ E) ?_);refine BK (BK (fQ (λh=>BH (by have:=Fv h;omega)) ?_));refine BK (BK (BK (BK (BK (BK (fQ (λh=>BH (by have:=Fv (ajY h);omega)) (BK ?_)))))));have RJ:∀b,b=kH H G Z->dc (V.tup [D (i:Int),V.bool b])=dc (V.tup [D (jO H G Z),V.bool (kH H G Z)]):=λb hb=>by unfold jO;rw[← e,hb]
  have SK:kH H G Z=bif decide ((i:Int)<(H:Int)) then aE (G i)==Z else false:=by unfold kH;rw[← e]
  rw[GR];refine E2 (λh=>aL h (aC (ak (d5 (aja _) (BK (aA (RJ _ ?_))))))) (λh=>?_)
  ·rw[SK,show(aE (G i)==Z)=false from am8 (al5 h)]
  ·refine BK (fQ (λh'=>absurd (h'.symm.trans h) Ej) (BK (BK (E2 (λN=>BK (aA (RJ _ ?_))) (λN=>?_)))))
   ·rw[SK,show(aE (G i)==Z)=true from N]
   ·have h3:decide ((i:Int)<(H:Int))=false:=by
     cases hd:decide ((i:Int)<(H:Int)) with
     |false=>rfl|true=>rw[hd,N]at h;cases h
    refine BK (amd h3 (aA ?_));exact RJ false (by rw[SK,h3];rfl)
 induction d with
 |zero=>intro i j M N h3 e;exact exit i j E h3 N e
 |succ d ih=>
   intro i j M N h3 e;by_cases Qw:i<j
   ·refine Ev.of rfl (c9 (BH E) (ak ?_))
    rw[an9 E,GR,ahZ];refine aL (BH E) (aC (ak (E2 (λh=>bb ?_) (λh=>bb ?_))))
    ·have e':EU (λk=>aE (G k)) Z d ((i+j) / 2+1) j=Iq H G Z:=by
      rw[← e];show _=bif Nat.blt i j then _ else _
      rw[OU Qw,h];rfl
     have:=ih ((i+j) / 2+1) j E E h3 e';rwa [show I ((((i+j) / 2:Nat):Int)+1)=(((i+j) / 2+1:Nat):Int) by rw[D5 E E];omega]
    ·have e':EU (λk=>aE (G k)) Z d i ((i+j) / 2)=Iq H G Z:=by
      rw[← e];show _=bif Nat.blt i j then _ else _
      rw[OU Qw,h];rfl
     exact ih i ((i+j) / 2) E E E e'
   ·refine exit i j E h3 N ?_
    rw[← e];show _=bif Nat.blt i j then _ else _
    rw[aaI E];rfl
theorem hw' (hp:H<=1000):a6 (Ev (yd H G Z)) (Oy H G Z) (.tup [D (jO H G Z),.bool (kH H G Z)]):=cg λ_=>aS (anF H G Z hp H 0 H E (GG _) (Em _) rfl)
theorem ad1 (hp:H<=1000):a6 (Ev (yd H G Z)) (Oy H G Z) (.tup [D (jO H (A L G) Z),.bool (kH H (A L G) Z)]):=hw' H G Z hp
def acm:aD:=cK [.sl L,tI] (λ
 |[.sl H G,.int _ Z]=>H<=1000|_=>False) λ
 |[.sl H G,.int _ Z]=>.tup [D (jO H G Z),.bool (kH H G Z)]|_=>.any
theorem afc:c7 acm 150:=bo GL λ_ hp=>qV (x22 ..) (ad1 _ _ _ hp)
inductive uT where|L0 (_ _ _:Int)
def k17 (R S:Int) (T:Nat) (Q:bk):uT->bZ×List A7×Option Ex
 |.L0 Qg RU Sg=>([(9,D Qg),(8,D (T:Int)),(7,V.sl T (A aK Q)),(4,V.pl 0 0),(2,V.pl 1 0)],[A7.cells G7 40,A7.cells [D RU,D Sg] 40],none)
def adw:uT->JJ
 |.L0 ..=>(0,[])
def by1:BO (cX JJ):=ba JJ zZ u0 jb [V.agg [D R,D S],V.sl T (A aK Q)]
def CL (cx:List Cx):Lp JJ:=iZ (ik (by1 R S T Q) [])
def acz:JJ->Lp JJ
 |(0,cx)=>CL R S T Q cx|(_,cx)=>CL R S T Q cx
def akA:LD JJ uT:=⟨adw,acz R S T Q,k17 R S T Q⟩
def N7 (R S:Int) (T:Nat) (Q:bk):uT->RT uT
 |.L0 Qg RU Sg=>.br (decide (Qg<(T:Int))) (.ob (dI Qg T) (.next IC (uT.L0 (I (Qg+1)) (min RU (aE (Q Qg.toNat))) (max Sg (bM (Q Qg.toNat)))) [])) (.ret (V.agg [D RU,D Sg]))
def LS:RT uT:=dm Q (.am T (.enter [some (some 1),some (some 0)] (uT.L0 0 R S) []))
theorem ntT:ig zZ u0 (akA R S T Q) (by1 R S T Q) (LS R S T Q) (N7 R S T Q):=⟨cG,λs=>by cases s<;>exact cG⟩
def dQ:Int:=JU (λi=>aE (Q i)) R T
def dS:Int:=vY (λi=>bM (Q i)) S T
theorem ib1:a6 (Ev (N7 R S T Q)) (LS R S T Q) (.agg [D (dQ R T Q),D (dS S T Q)]):=by refine cg λhn=>aS ?_;refine am3 hn (P:=λx=>Ev (N7 R S T Q) (.L0 x (JU (λi=>aE (Q i)) R x.toNat) (vY (λi=>bM (Q i)) S x.toNat)) (.agg [D (dQ R T Q),D (dS S T Q)])) (λi Qw nx=>?_) (Ev.of rfl (lr (aA rfl)));rw[show(I ((i:Int)+1)).toNat=i+1 by rw[uY Qw hn];rfl]at nx;exact Ev.of rfl (mC Qw (jw Qw (bb nx)))
theorem aeV:a6 (Ev (N7 R S T Q)) (LS R S T Q) (.agg [D (dQ R T (A aK Q)),D (dS S T (A aK Q))]):=ib1 R S T Q
def hdr:aD:=cK [.agg aK,.sl aK] (λ_=>True) λ|[.agg [.int _ R,.int _ S],.sl T Q]=>.agg [D (dQ R T Q),D (dS S T Q)]|_=>.any
theorem acX:c7 hdr 87:=bo GL λ_ hp=>qV (ntT ..) (aeV _ _ _ _)
section
variable (H:Nat) (G:bk) (Z x3 O:Int) (hn:H<=1000)
include hn
end
def H4:bm:=(150,.con acm)::(87,.con hdr)::zZ
theorem FG:aV Tryz.prog BN D7 H4:=.con afc (.con acX (GL))
def ab5:RT Empty:=.obp (H<=(1000:Nat)) (.obt (.am H (.ret (D (max 0 (min (I (jO H (A L G) (I (Z+1))-1)) (I ((H:Int)-2))))))))
theorem wm2:dZ d7 (ba JJ H4 u0 rr [V.sl H (A L G),D Z]) (ab5 H G Z):=cG
def aT:Int:=max 0 (min (I (jO H (A L G) (I (Z+1))-1)) (I ((H:Int)-2)))
def NN:V:=D (aT H G Z)
theorem agp (hp:H<=1000):a6 dK (ab5 H G Z) (NN H G Z):=aP (by first|assumption|(exact hp)) (ak (FW (λa0=>aA (by unfold NN aT;rfl))))
def abd:aD:=cK [.sl L,tI] (λ
 |[.sl H G,.int _ Z]=>H<=1000|_=>False) λ
 |[.sl H G,.int _ Z]=>NN H G Z|_=>.any
theorem adi:c7 abd 117:=bo FG λ_ hp=>er (wm2 ..) (agp _ _ _ hp)
def Jb (R:Int) (n6:Nat) (f6:bk) (Sj:Nat) (SG:bk) (Qy:Int):Prop:=(0<=R/\R<(n6:Int))/\(0<=Qy/\Qy+1<(aU (aM (f6 R.toNat)):Int)/\Qy+1<(Sj:Int)/\Sj<=1000)/\I (aE (SG (Qy+1).toNat)-aE (SG Qy.toNat))≠0
theorem Jb.w {R:Int} {n6:Nat} {f6:bk} {Sj:Nat} {SG:bk} {Qy:Int} (h:Jb R n6 f6 Sj SG Qy):I (Qy+1)=Qy+1:=by obtain⟨_,N,_⟩:=h;exact D5 E E
def he':RT Empty:=dm (s1,T,Q,n4,f4,x8,x9,TA,V6,Qz) (.ob (dI R n6) (.ob (decide (0<=Qy/\Qy<(↑(aU (aM (f6 R.toNat))):Int))) (.cb (.ob (decide (0<=I (Qy+1)/\I (Qy+1)<(↑(aU (aM (f6 R.toNat))):Int))) (.cb (.ob (dI Qy Sj) (.ob (dI (I (Qy+1)) Sj) (.obp (I (aE (SG (I (Qy+(1:Int))).toNat)-aE (SG Qy.toNat))=(0:Int)->False) (.obt (.ret (V.agg [D (ip (aE (du (aM (f6 R.toNat)) Qy.toNat)) (aE (du (aM (f6 R.toNat)) (I (Qy+1)).toNat)) (aE (SG Qy.toNat)) (aE (SG (I (Qy+1)).toNat)) R4),D (fy (aE (du (aM (f6 R.toNat)) Qy.toNat)) (aE (du (aM (f6 R.toNat)) (I (Qy+1)).toNat)) (aE (SG Qy.toNat)) (aE (SG (I (Qy+1)).toNat)) R4)])))))))))))
theorem nrp:dZ d7 (ba JJ H4 u0 nO [D R,V.pd [V.str s1,V.sl T (A L Q),V.sl n4 (A L f4),V.sl n6 (A [Ty.sl L] f6),D x8,D x9,V.sl TA (A L V6),V.sl Sj (A L SG),D Qz],V.pd [D Qy],V.pd [D R4]]) (he' R s1 T Q n4 f4 n6 f6 x8 x9 TA V6 Sj SG Qz Qy R4):=cG
def gL:Int:=ip (aE (du (aM (f6 R.toNat)) Qy.toNat)) (aE (du (aM (f6 R.toNat)) (I (Qy+1)).toNat)) (aE (SG Qy.toNat)) (aE (SG (I (Qy+1)).toNat)) R4
def fB:Int:=fy (aE (du (aM (f6 R.toNat)) Qy.toNat)) (aE (du (aM (f6 R.toNat)) (I (Qy+1)).toNat)) (aE (SG Qy.toNat)) (aE (SG (I (Qy+1)).toNat)) R4
def Sn:V:=dm (s1,T,Q,n4,f4,n6,x8,x9,TA,V6,Sj,Qz) (.agg [D (gL R f6 SG Qy R4),D (fB R f6 SG Qy R4)])
theorem agJ (hp:Jb R n6 f6 Sj SG Qy):a6 dK (he' R s1 T Q n4 f4 n6 f6 x8 x9 TA V6 Sj SG Qz Qy R4) (Sn R s1 T Q n4 f4 n6 f6 x8 x9 TA V6 Sj SG Qz Qy R4):=aL (by first|assumption|((try rw[hp.w]);exact BH (by obtain⟨M,N,h3⟩:=hp;omega))) (aL (by first|assumption|((try rw[hp.w]);exact BH (by obtain⟨M,N,h3⟩:=hp;omega))) (aC (ak (aL (by first|assumption|((try rw[hp.w]);exact BH (by obtain⟨M,N,h3⟩:=hp;omega))) (aC (ak (aL (by first|assumption|((try rw[hp.w]);exact BH (by obtain⟨M,N,h3⟩:=hp;omega))) (aL (by first|assumption|((try rw[hp.w]);exact BH (by obtain⟨M,N,h3⟩:=hp;omega))) (aP (by first|assumption|((rw[hp.w];exact hp.2.2))) (ak (aA (by unfold Sn gL fB;rfl))))))))))))
def abA:aD:=cK [tI,.pd [.str,.sl L,.sl L,.sl [.sl L],tI,tI,.sl L,.sl L,tI],.pd L,.pd L] (λ
 |[.int _ R,.pd [.str s1,.sl T Q,.sl n4 f4,.sl n6 f6,.int _ x8,.int _ x9,.sl TA V6,.sl Sj SG,.int _ Qz],.pd [.int _ Qy],.pd [.int _ R4]]=>Jb R n6 f6 Sj SG Qy|_=>False) λ
 |[.int _ R,.pd [.str s1,.sl T Q,.sl n4 f4,.sl n6 f6,.int _ x8,.int _ x9,.sl TA V6,.sl Sj SG,.int _ Qz],.pd [.int _ Qy],.pd [.int _ R4]]=>Sn R s1 T Q n4 f4 n6 f6 x8 x9 TA V6 Sj SG Qz Qy R4|_=>.any
theorem aek:c7 abA 118:=bo FG λ_ hp=>er (nrp ..) (agJ _ _ _ _ _ _ _ _ _ _ _ _ _ _ _ _ _ hp)
def LQ:bm:=(117,.con abd)::(118,.con abA)::H4
theorem ats:aV Tryz.prog BN D7 LQ:=.con adi (.con aek (FG))
def om:Prop:=(2<=n9/\n9<=1000)/\(2<=q/\q<=1000)/\(n9<=n5)/\(∀i:Nat,i<n5->q<=aU (aM (f5 i)))/\(∀i:Nat,i+1<n9->I (aE (f9 (i+1))-aE (f9 i))≠0)/\(∀i:Nat,i+1<q->I (aE (Y (i+1))-aE (Y i))≠0)
theorem om.a {n5:Nat} {f5:bk} {n9:Nat} {f9:bk} {q:Nat} {Y:bk} (h:om n5 f5 n9 f9 q Y):2<=n9/\n9<=1000:=h.1
theorem om.b {n5:Nat} {f5:bk} {n9:Nat} {f9:bk} {q:Nat} {Y:bk} (h:om n5 f5 n9 f9 q Y):2<=q/\q<=1000:=h.2.1
theorem om.c {n5:Nat} {f5:bk} {n9:Nat} {f9:bk} {q:Nat} {Y:bk} (h:om n5 f5 n9 f9 q Y):n9<=n5:=h.2.2.1
theorem om.d {n5:Nat} {f5:bk} {n9:Nat} {f9:bk} {q:Nat} {Y:bk} (h:om n5 f5 n9 f9 q Y):∀i:Nat,i<n5->q<=aU (aM (f5 i)):=h.2.2.2.1
theorem om.e {n5:Nat} {f5:bk} {n9:Nat} {f9:bk} {q:Nat} {Y:bk} (h:om n5 f5 n9 f9 q Y):∀i:Nat,i+1<n9->I (aE (f9 (i+1))-aE (f9 i))≠0:=h.2.2.2.2.1
theorem om.g {n5:Nat} {f5:bk} {n9:Nat} {f9:bk} {q:Nat} {Y:bk} (h:om n5 f5 n9 f9 q Y):∀i:Nat,i+1<q->I (aE (Y (i+1))-aE (Y i))≠0:=h.2.2.2.2.2
theorem qT {n:Nat} (f:bk) (x:Int) (h:2<=n/\n<=1000):0<=aT n f x/\aT n f x+1<(n:Int):=by unfold aT;rw[D5 (x:=(n:Int)-2) E E];generalize I _=At;omega
section
variable {n5:Nat} {f5:bk} {n9:Nat} {f9:bk} {q:Nat} {Y:bk} (hp:om n5 f5 n9 f9 q Y) (Qz Qy:Int)
include hp
theorem PY:I (aT n9 (A L f9) Qz+1)=aT n9 (A L f9) Qz+1:=by have:=qT (A L f9) Qz hp.a;have:=hp.a;exact D5 E E
theorem ai4 (y:Int) (h:0<=y/\y<(n9:Int)):Jb y n5 f5 q Y (aT q (A L Y) Qy):=by have At:=qT (A L Y) Qy hp.b;have hb:=hp.b;have hc:=hp.c;have hd:=hp.d y.toNat E;have hg:=hp.g (aT q (A L Y) Qy).toNat E;refine⟨E,⟨At.1,E,At.2,E⟩,?_⟩;rw[show(aT q (A L Y) Qy+1).toNat=(aT q (A L Y) Qy).toNat+1 by omega];exact hg
theorem Ah:Jb (aT n9 (A L f9) Qz) n5 f5 q Y (aT q (A L Y) Qy):=by have p:=qT (A L f9) Qz hp.a;exact ai4 hp Qy _ E
theorem Ar:Jb (I (aT n9 (A L f9) Qz+1)) n5 f5 q Y (aT q (A L Y) Qy):=by have p:=qT (A L f9) Qz hp.a;rw[PY hp];exact ai4 hp Qy _ E
theorem akT:decide (0<=aT n9 (A L f9) Qz/\aT n9 (A L f9) Qz<(n9:Int))=true:=by have p:=qT (A L f9) Qz hp.a;exact BH E
theorem akH:decide (0<=I (aT n9 (A L f9) Qz+1)/\I (aT n9 (A L f9) Qz+1)<(n9:Int))=true:=by have p:=qT (A L f9) Qz hp.a;rw[PY hp];exact BH E
theorem Kf:I (aE (f9 (I (aT n9 (A L f9) Qz+1)).toNat)-aE (f9 (aT n9 (A L f9) Qz).toNat))≠0:=by have p:=qT (A L f9) Qz hp.a;rw[PY hp,show(aT n9 (A L f9) Qz+1).toNat=(aT n9 (A L f9) Qz).toNat+1 by omega];exact hp.e _ E
theorem LJ:(1<=n9/\n9<=1000)/\1<=q/\q<=1000:=by have:=hp.a;have:=hp.b;omega
end
def ab7:RT Empty:=dm (s0,n1,f1,n3,f3,x8,RI) (.obp (((1:Nat)<=n9/\n9<=(1000:Nat))/\(1:Nat)<=q/\q<=(1000:Nat)) (.obt (.br (!bg n9 (A L f9) q (A L Y) Qz Qy) (.ret (V.agg [D 0,D x7])) (.obp (n9<=(1000:Nat)) (.obt (.obp (q<=(1000:Nat)) (.obt (.obp (((0:Int)<=aT n9 (A L f9) Qz/\aT n9 (A L f9) Qz<(n5:Int))/\((0:Int)<=aT q (A L Y) Qy/\aT q (A L Y) Qy+(1:Int)<(↑(aU (aM (f5 (aT n9 (A L f9) Qz).toNat))):Int)/\aT q (A L Y) Qy+(1:Int)<(q:Int)/\q<=(1000:Nat))/\I (aE (Y (aT q (A L Y) Qy+(1:Int)).toNat)-aE (Y (aT q (A L Y) Qy).toNat))≠(0:Int)) (.obt (.obp (((0:Int)<=I (aT n9 (A L f9) Qz+(1:Int))/\I (aT n9 (A L f9) Qz+(1:Int))<(n5:Int))/\((0:Int)<=aT q (A L Y) Qy/\aT q (A L Y) Qy+(1:Int)<(↑(aU (aM (f5 (I (aT n9 (A L f9) Qz+(1:Int))).toNat))):Int)/\aT q (A L Y) Qy+(1:Int)<(q:Int)/\q<=(1000:Nat))/\I (aE (Y (aT q (A L Y) Qy+(1:Int)).toNat)-aE (Y (aT q (A L Y) Qy).toNat))≠(0:Int)) (.obt (.ob (dI (aT n9 (A L f9) Qz) n9) (.ob (dI (I (aT n9 (A L f9) Qz+1)) n9) (.obp (I (aE (f9 (I (aT n9 (A L f9) Qz+(1:Int))).toNat)-aE (f9 (aT n9 (A L f9) Qz).toNat))=(0:Int)->False) (.obt (.ret (V.agg [D (ip (gL (aT n9 (A L f9) Qz) (A [Ty.sl L] f5) (A L Y) (aT q (A L Y) Qy) Qy) (gL (I (aT n9 (A L f9) Qz+1)) (A [Ty.sl L] f5) (A L Y) (aT q (A L Y) Qy) Qy) (aE (f9 (aT n9 (A L f9) Qz).toNat)) (aE (f9 (I (aT n9 (A L f9) Qz+1)).toNat)) Qz),D (fy (fB (aT n9 (A L f9) Qz) (A [Ty.sl L] f5) (A L Y) (aT q (A L Y) Qy) Qy) (fB (I (aT n9 (A L f9) Qz+1)) (A [Ty.sl L] f5) (A L Y) (aT q (A L Y) Qy) Qy) (aE (f9 (aT n9 (A L f9) Qz).toNat)) (aE (f9 (I (aT n9 (A L f9) Qz+1)).toNat)) Qz)])))))))))))))))))
theorem io1:dZ d7 (ba JJ LQ u0 pD [V.agg [V.str s0,V.sl n1 (A L f1),V.sl n3 (A L f3),V.sl n5 (A [Ty.sl L] f5),D x7,D x8,V.sl n9 (A L f9),V.sl q (A L Y),D RI],D Qz,D Qy]) (ab7 s0 n1 f1 n3 f3 n5 f5 x7 x8 n9 f9 q Y RI Qz Qy):=cG
def bc:Int:=bif !bg n9 (A L f9) q (A L Y) Qz Qy then 0 else ip (gL (aT n9 (A L f9) Qz) (A [Ty.sl L] f5) (A L Y) (aT q (A L Y) Qy) Qy) (gL (I (aT n9 (A L f9) Qz+1)) (A [Ty.sl L] f5) (A L Y) (aT q (A L Y) Qy) Qy) (aE (f9 (aT n9 (A L f9) Qz).toNat)) (aE (f9 (I (aT n9 (A L f9) Qz+1)).toNat)) Qz
def aZ:Int:=bif !bg n9 (A L f9) q (A L Y) Qz Qy then x7 else fy (fB (aT n9 (A L f9) Qz) (A [Ty.sl L] f5) (A L Y) (aT q (A L Y) Qy) Qy) (fB (I (aT n9 (A L f9) Qz+1)) (A [Ty.sl L] f5) (A L Y) (aT q (A L Y) Qy) Qy) (aE (f9 (aT n9 (A L f9) Qz).toNat)) (aE (f9 (I (aT n9 (A L f9) Qz+1)).toNat)) Qz
def G3:V:=dm (s0,n1,f1,n3,f3,n5,x8,RI) (.agg [D (bc f5 n9 f9 q Y Qz Qy),D (aZ f5 x7 n9 f9 q Y Qz Qy)])
theorem ah0 (hp:om n5 f5 n9 f9 q Y):a6 dK (ab7 s0 n1 f1 n3 f3 n5 f5 x7 x8 n9 f9 q Y RI Qz Qy) (G3 s0 n1 f1 n3 f3 n5 f5 x7 x8 n9 f9 q Y RI Qz Qy):=aP (by first|assumption|(first|exact hp.a.2|exact hp.b.2|exact LJ hp|exact Kf hp Qz|exact Ah hp Qz Qy|exact Ar hp Qz Qy)) (ak (E2 (λh0=>aA (by unfold G3 bc aZ;try rw[h0];rfl)) (λh0=>aP (by first|assumption|(first|exact hp.a.2|exact hp.b.2|exact LJ hp|exact Kf hp Qz|exact Ah hp Qz Qy|exact Ar hp Qz Qy)) (ak (aP (by first|assumption|(first|exact hp.a.2|exact hp.b.2|exact LJ hp|exact Kf hp Qz|exact Ah hp Qz Qy|exact Ar hp Qz Qy)) (ak (aP (by first|assumption|(first|exact hp.a.2|exact hp.b.2|exact LJ hp|exact Kf hp Qz|exact Ah hp Qz Qy|exact Ar hp Qz Qy)) (ak (aP (by first|assumption|(first|exact hp.a.2|exact hp.b.2|exact LJ hp|exact Kf hp Qz|exact Ah hp Qz Qy|exact Ar hp Qz Qy)) (ak (aL (by first|assumption|(first|exact akT hp Qz|exact akH hp Qz)) (aL (by first|assumption|(first|exact akT hp Qz|exact akH hp Qz)) (aP (by first|assumption|(first|exact hp.a.2|exact hp.b.2|exact LJ hp|exact Kf hp Qz|exact Ah hp Qz Qy|exact Ar hp Qz Qy)) (ak (aA (by unfold G3 bc aZ;try rw[h0];rfl))))))))))))))))
def aaL:aD:=cK [.agg [.str,.sl L,.sl L,.sl [.sl L],tI,tI,.sl L,.sl L,tI],tI,tI] (λ
 |[.agg [.str s0,.sl n1 f1,.sl n3 f3,.sl n5 f5,.int _ x7,.int _ x8,.sl n9 f9,.sl q Y,.int _ RI],.int _ Qz,.int _ Qy]=>om n5 f5 n9 f9 q Y|_=>False) λ
 |[.agg [.str s0,.sl n1 f1,.sl n3 f3,.sl n5 f5,.int _ x7,.int _ x8,.sl n9 f9,.sl q Y,.int _ RI],.int _ Qz,.int _ Qy]=>G3 s0 n1 f1 n3 f3 n5 f5 x7 x8 n9 f9 q Y RI Qz Qy|_=>.any
theorem adc:c7 aaL 88:=bo ats λ_ hp=>er (io1 ..) (ah0 _ _ _ _ _ _ _ _ _ _ _ _ _ _ _ _ hp)
end
end Go.Dx
