/- Part 6 of a proof. No conditions. -/
import Derived.Test.YtibmdlbnkaihjaaGreatDoorLw5
set_option maxRecDepth 100000
set_option linter.unusedVariables false
set_option linter.unusedSimpArgs false
namespace Go.Dx
open Go.IntKind (i64 u64 u8)
open Go.Sx Go.Proofs
variable (n0:Nat) (f0:aN) (s0:ByteArray) (x1:Int) (n2:Nat) (f2:aN) (x2 x3 x4:Int) (n5:Nat) (f5:aN) (x5 x6:Int) (n7:Nat) (f7:aN) (x7 x8:Int) (n9:Nat) (f9:aN) (x9:Int) (n11:Nat) (f11:aN) (n13:Nat) (f13:aN) (n15:Nat) (f15:aN)
noncomputable section
def xp:bj:=(67,.con Ru)::Kg
theorem Cf:aW Tryz.prog eqs its xp:=.con Lz (Qw)
theorem gE {x:Int} (h:(x != 0)=false):x=0:=eq_of_beq (by simpa using h:(x==0)=true)
theorem am7 {x:Int} (h:x≠0):(x != 0)=true:=by simpa using h
theorem IF {b:Bool} (h:(!b)=true):b=false:=by cases b<;>first|rfl|cases h
theorem yE {b:Bool} (h:(!!b)=true):b=true:=by cases b<;>first|rfl|cases h
theorem amf {b:Bool} (h:(!!b)=false):b=false:=by cases b<;>first|rfl|cases h
section
variable {S:Type} {Nx:S->V->Prop} {r:V} {b:Bool} {x y:RT S}
include S Nx r b x y
theorem yQ (h:b=true) (hx:aR Nx x r):aR Nx (.br b x y) r:=evBr (fun _=>hx) (fun h'=>by rw[h]at h';cases h')
theorem zE (h:b=false) (hx:aR Nx y r):aR Nx (.br b x y) r:=evBr (fun h'=>by rw[h]at h';cases h') (fun _=>hx)
end
theorem mU.of_el {f0:Nat->List V} {i:Nat} (h:mU (aa ak f0 i)):mU (f0 i):=⟨h.u,h.v,h.n,h.row,h.side,h.sky,h.val⟩
theorem xS {x:List V} (h:mU x):∀ i:Nat,i<au (ap (ab (ab (ab x))))->1<=au (ap (aX (ap (ab (ab (ab x)))) i)):=fun i hi=>by
 have h1:=h.row i hi
 have h2:=h.v.1
 show 1<=au (ap (tR x i))
 omega
theorem xO {x:List V} (h:mU x):∀ i:Nat,i<Fi x->1<=au (ap (aa [.sl ae] (tR x) i)):=xS h
theorem srf {x4:Int} {n0:Nat} (h:ci x4 (-1) (wI ((n0:Int)-1))=true) (h2:decide (0<=x4)=true) (hn:n0<=9223372036854775807):decide (0<=x4/\x4<(n0:Int))=true:=by
 have:=zj h
 rw [wrapI (by omega) (by omega)]at this
 have:=of_decide_eq_true h2
 exact dqt (by omega)
inductive qj where
 |L0 (ia0:Int)
def Wu:qj->bz×List O×Option Ex
 |.L0 ia0=>([(9,vi ia0),(8,vi (↑n11:Int)),(1,V.pl 0 0)],[O.cells [V.sl n0 (aa ak f0),V.sl n2 (aa ah f2),vi x4,V.sl n5 (aa aJ f5),V.sl n7 (aa aU f7),V.sl n9 (aa aV f9),V.sl n11 (aa aH f11),V.sl n13 (aa ae f13),V.sl n15 (aa bQ f15)] 35],none)
def adr:qj->JJ
 |.L0 ia0=>(0,[])
def Km:T (bO JJ):=aP JJ xp u0 afi [V.agg [V.sl n0 (aa ak f0),V.sl n2 (aa ah f2),vi x4,V.sl n5 (aa aJ f5),V.sl n7 (aa aU f7),V.sl n9 (aa aV f9),V.sl n11 (aa aH f11),V.sl n13 (aa ae f13),V.sl n15 (aa bQ f15)]]
def A2 (cx:List Cx):Lp JJ:=eR (ej (Km n0 f0 n2 f2 x4 n5 f5 n7 f7 n9 f9 n11 f11 n13 f13 n15 f15) [false,false,false,true,false,false])
def abi:JJ->Lp JJ
 |(0,cx)=>A2 n0 f0 n2 f2 x4 n5 f5 n7 f7 n9 f9 n11 f11 n13 f13 n15 f15 cx
 |(_,cx)=>A2 n0 f0 n2 f2 x4 n5 f5 n7 f7 n9 f9 n11 f11 n13 f13 n15 f15 cx
def anz:LD JJ qj:=⟨adr,abi n0 f0 n2 f2 x4 n5 f5 n7 f7 n9 f9 n11 f11 n13 f13 n15 f15,Wu n0 f0 n2 f2 x4 n5 f5 n7 f7 n9 f9 n11 f11 n13 f13 n15 f15⟩
def tW (n0:Nat) (f0:aN) (n2:Nat) (f2:aN) (x4:Int) (n5:Nat) (f5:aN) (n7:Nat) (f7:aN) (n9:Nat) (f9:aN) (n11:Nat) (f11:aN) (n13:Nat) (f13:aN) (n15:Nat) (f15:aN):qj->RT qj
 |.L0 ia0=>.br (decide (ia0<(↑n11:Int))) (.obp (((0:Int)<=ia0/\ia0<(↑n13:Int))/\((0:Int)<=ia0/\ia0<(↑n15:Int))/\∀ (i:Nat),i<n2->(0:Int)<=aQ (f2 i)/\aQ (f2 i)<(↑n0:Int)) (.obt (.br (fl (aa ak f0) n2 (aa ah f2) (aa ae f13) (aa bQ f15) ia0 != 0) (.ret (V.tup [vi 4,vi ia0,vi (fl (aa ak f0) n2 (aa ah f2) (aa ae f13) (aa bQ f15) ia0)])) (.next [some (some 0)] (qj.L0 (wI (ia0+1))) [])))) (.ret (V.tup [vi 0,vi 0,vi 0]))
def J3:RT qj:=dm (f13,f15) (.obp ((yaa n0 f0)/\yaa n2 f2) (.obt (.br (cg n0 (aa ak f0) n2 (aa ah f2)!=0) (.ret (V.tup [vi 1,vi 0,vi (cg n0 (aa ak f0) n2 (aa ah f2))])) (.obp ((yaa n5 f5)/\yaa n11 f11) (.obt (.br (ef n5 (aa aJ f5) n7 (aa aU f7) n9 (aa aV f9) n11 (aa aH f11)!=0) (.ret (V.tup [vi 2,vi 0,vi (ef n5 (aa aJ f5) n7 (aa aU f7) n9 (aa aV f9) n11 (aa aH f11))])) (.am n0 (.cb (.br (!ci x4 (-1) (wI ((↑n0:Int)-1))) (.ret (V.tup [vi 3,vi 0,vi 4])) (.iv (.obi (.obj (decide (0<=x4)) (dI x4 n0) (.obi (.br (decide (0<=x4)) (.ob (decide (0<=x4)) (.cb (.br (decide (10000<ma (au (ap (ab (ab (ab (f0 x4.toNat)))))) (fun i=>al [Ty.sl ae] (aX (ap (ab (ab (ab (f0 x4.toNat))))) i)) (db (f0 x4.toNat)))) (.ret (V.tup [vi 3,vi 0,vi 7])) (.am n11 (.am n13 (.ii (.asm ((!(↑n13:Int)!=(↑n11:Int))=true->n15<=9223372036854775807) (.ii (.obi (.br (bif(↑n13:Int)!=(↑n11:Int) then true else(↑n15:Int)!=(↑n11:Int)) (.ret (V.tup [vi 4,vi 0,vi 2])) (.enter [some (some 0)] (qj.L0 (0)) []))))))))))) (.am n11 (.am n13 (.ii (.asm ((!(↑n13:Int)!=(↑n11:Int))=true->n15<=9223372036854775807) (.ii (.obi (.br (bif(↑n13:Int)!=(↑n11:Int) then true else(↑n15:Int)!=(↑n11:Int)) (.ret (V.tup [vi 4,vi 0,vi 2])) (.enter [some (some 0)] (qj.L0 (0)) []))))))))))))))))))))))
theorem SY:dD xp u0 (anz n0 f0 n2 f2 x4 n5 f5 n7 f7 n9 f9 n11 f11 n13 f13 n15 f15) (Km n0 f0 n2 f2 x4 n5 f5 n7 f7 n9 f9 n11 f11 n13 f13 n15 f15) (J3 n0 f0 n2 f2 x4 n5 f5 n7 f7 n9 f9 n11 f11 n13 f13 n15 f15) (tW n0 f0 n2 f2 x4 n5 f5 n7 f7 n9 f9 n11 f11 n13 f13 n15 f15):=⟨⟨by kernel_rfl,by kernel_rfl⟩,fun s=>by cases s<;>exact⟨by kernel_rfl,by kernel_rfl⟩⟩
theorem EW (hn:n11<=9223372036854775807) (hT:∀ i,i<n0->mU (f0 i)) (hL:∀ i:Nat,i<n2->0<=aQ (f2 i)/\aQ (f2 i)<n0):Ev (tW n0 f0 n2 f2 x4 n5 f5 n7 f7 n9 f9 n11 f11 n11 f13 n11 f15) (.L0 0) (Ja (wS n11 (pn f0 n2 f2 f13 f15) 4 (0,0,0))):=by
 refine iA (n:=n11) hn (fun i=>pn f0 n2 f2 f13 f15 i != 0) (P:=fun i=>Ev (tW n0 f0 n2 f2 x4 n5 f5 n7 f7 n9 f9 n11 f11 n11 f13 n11 f15) (.L0 i) _) (fun i hlt hj next=>Ev.of rfl (cr hlt (evObp ⟨⟨by omega,by omega⟩,⟨by omega,by omega⟩,hL⟩ (evObt ?_)))) (fun hj=>Ev.of rfl (ck (evRet (by rw[jY 4 _ hj];rfl))))
 rw [show fl (aa ak f0) n2 (aa ah f2) (aa ae f13) (aa bQ f15) i=pn f0 n2 f2 f13 f15 i from ans ..]
 exact evBr (fun h=>evRet (by rw[i6 4 _ hlt h hj];rfl)) (fun h=>aK (next h))
theorem yaQ (hp:yaa n0 f0/\yaa n2 f2/\yaa n5 f5/\yaa n11 f11):aR (Ev (tW n0 f0 n2 f2 x4 n5 f5 n7 f7 n9 f9 n11 f11 n13 f13 n15 f15)) (J3 n0 f0 n2 f2 x4 n5 f5 n7 f7 n9 f9 n11 f11 n13 f13 n15 f15) (.tup [vi (nq n0 f0 n2 f2 x4 n5 f5 n7 f7 n9 f9 n11 f11 n13 f13 n15 f15),vi (nr n0 f0 n2 f2 x4 n5 f5 n7 f7 n9 f9 n11 f11 n13 f13 n15 f15),vi (gm n0 f0 n2 f2 x4 n5 f5 n7 f7 n9 f9 n11 f11 n13 f13 n15 f15)]):=by
 obtain ⟨p0,p2,p5,p11⟩:=hp
 show aR _ _ (Ja (TG n0 f0 n2 f2 x4 n5 f5 n7 f7 n9 f9 n11 f11 n13 f13 n15 f15))
 unfold TG
 refine evObp ⟨p0,p2⟩ (evObt (evBr (fun h=>evRet (by rw[h];rfl)) (fun h=>?_)))
 rw [h]
 have V2:=uG (n0:=n0) (f0:=aa ak f0) (n2:=n2) (f2:=aa ah f2) (gE h)
 have hT:∀ i,i<n0->mU (f0 i):=fun i hi=>mU.of_el (Cw (V2.tb i hi))
 have hL:∀ i:Nat,i<n2->0<=aQ (f2 i)/\aQ (f2 i)<n0:=fun i hi=>(PX V2.l0 (V2.lm i hi)).t
 refine evObp ⟨p5,p11⟩ (evObt (evBr (fun h'=>evRet (by rw[h'];rfl)) (fun h'=>?_)))
 rw [h']
 have V3:=sH (n0:=n5) (f0:=aa aJ f5) (n2:=n7) (f2:=aa aU f7) (n4:=n9) (f4:=aa aV f9) (n6:=n11) (f6:=aa aH f11) (gE h')
 refine bg fun hn0=>aw (evObt (evBr (fun h1=>?_) (fun h1=>?_)))
 ·have hk:xK n0 f0 x4=4:=by
   unfold xK
   rw [show ci x4 (-1) (wI ((n0:Int)-1))=false from IF h1];rfl
  exact evRet (by rw[hk];rfl)
 ·have h1:ci x4 (-1) (wI ((n0:Int)-1))=true:=notf h1
  refine evObi (evObi (evObi (evObi (evObi (evObj (fun h2=>?_) (evObi (evBr (fun h2=>?_) (fun h2=>?_))))))))
  ·exact srf h1 h2 hn0
  ·have hx:=of_decide_eq_true (srf h1 h2 hn0)
   refine aE h2 (aw (evObt (evBr (fun h3=>?_) (fun h3=>?_))))
   ·have hk:xK n0 f0 x4=7:=by
     unfold xK gr4
     rw [h1,h2];exact congrArg (fun b=>bif b then(7:Int) else 0) h3
    exact evRet (by rw[hk];rfl)
   have hk:xK n0 f0 x4=0:=by
    unfold xK gr4
    rw [h1,h2];exact congrArg (fun b=>bif b then(7:Int) else 0) h3
   rw [hk]
   cases hl:Bu n11 n13 n15 with
   |true=>exact evAsm fun _=>evAsm fun _=>evObi (evObi (evAsm fun _=>evObi (evObi (evObi (yQ hl (evRet rfl))))))
   | false =>
     obtain ⟨e1,e2⟩:=tU hl
     refine evAsm fun _=>evAsm fun _=>evObi (evObi (evAsm fun _=>evObi (evObi (evObi (zE hl (aF ?_))))))
     subst e1 e2
     exact EW _ _ _ _ _ _ _ _ _ _ _ _ _ _ _ (by have:=V3.l6;omega) hT hL
  ·have hk:xK n0 f0 x4=0:=by
    unfold xK
    rw [h1,h2];rfl
   rw [hk]
   cases hl:Bu n11 n13 n15 with
   |true=>exact evAsm fun _=>evAsm fun _=>evObi (evObi (evAsm fun _=>evObi (evObi (evObi (yQ hl (evRet rfl))))))
   | false =>
     obtain ⟨e1,e2⟩:=tU hl
     refine evAsm fun _=>evAsm fun _=>evObi (evObi (evAsm fun _=>evObi (evObi (evObi (zE hl (aF ?_))))))
     subst e1 e2
     exact EW _ _ _ _ _ _ _ _ _ _ _ _ _ _ _ (by have:=V3.l6;omega) hT hL
theorem aeb (hp:yaa n0 (aa ak f0)/\yaa n2 (aa ah f2)/\yaa n5 (aa aJ f5)/\yaa n11 (aa aH f11)):aR (Ev (tW n0 f0 n2 f2 x4 n5 f5 n7 f7 n9 f9 n11 f11 n13 f13 n15 f15)) (J3 n0 f0 n2 f2 x4 n5 f5 n7 f7 n9 f9 n11 f11 n13 f13 n15 f15) (.tup [vi (nq n0 (aa ak f0) n2 (aa ah f2) x4 n5 (aa aJ f5) n7 (aa aU f7) n9 (aa aV f9) n11 (aa aH f11) n13 (aa ae f13) n15 (aa bQ f15)),vi (nr n0 (aa ak f0) n2 (aa ah f2) x4 n5 (aa aJ f5) n7 (aa aU f7) n9 (aa aV f9) n11 (aa aH f11) n13 (aa ae f13) n15 (aa bQ f15)),vi (gm n0 (aa ak f0) n2 (aa ah f2) x4 n5 (aa aJ f5) n7 (aa aU f7) n9 (aa aV f9) n11 (aa aH f11) n13 (aa ae f13) n15 (aa bQ f15))]):=yaQ n0 f0 n2 f2 x4 n5 f5 n7 f7 n9 f9 n11 f11 n13 f13 n15 f15 hp
def Oc:aB:=bF [.agg [.sl ak,.sl ah,tI,.sl aJ,.sl aU,.sl aV,.sl aH,.sl ae,.sl bQ]] (fun
 |[.agg [.sl n0 f0,.sl n2 f2,.int _ x4,.sl n5 f5,.sl n7 f7,.sl n9 f9,.sl n11 f11,.sl n13 f13,.sl n15 f15]]=>yaa n0 f0/\yaa n2 f2/\yaa n5 f5/\yaa n11 f11
 |_=>False) fun
 |[.agg [.sl n0 f0,.sl n2 f2,.int _ x4,.sl n5 f5,.sl n7 f7,.sl n9 f9,.sl n11 f11,.sl n13 f13,.sl n15 f15]]=>.tup [vi (nq n0 f0 n2 f2 x4 n5 f5 n7 f7 n9 f9 n11 f11 n13 f13 n15 f15),vi (nr n0 f0 n2 f2 x4 n5 f5 n7 f7 n9 f9 n11 f11 n13 f13 n15 f15),vi (gm n0 f0 n2 f2 x4 n5 f5 n7 f7 n9 f9 n11 f11 n13 f13 n15 f15)]
 |_=>.any
theorem Pd:(vP Oc).Ok Tryz.prog 23:=bV Cf Tryz.func23 (by kernel_rfl) fun ds hp=>iS (SY ..) (aeb _ _ _ _ _ _ _ _ _ _ _ _ _ _ _ _ _ hp)
inductive oB where
 |L0 (ia0:Int)
def UJ:oB->bz×List O×Option Ex
 |.L0 ia0=>([(82,vi ia0),(81,vi (↑n13:Int)),(80,V.sl n13 (aa ae f13)),(1,V.pl 0 0)],[O.cells [V.sl n0 (aa ak f0),V.sl n2 (aa ah f2),vi x4,V.sl n5 (aa aJ f5),V.sl n7 (aa aU f7),V.sl n9 (aa aV f9),V.sl n11 (aa aH f11),V.sl n13 (aa ae f13),V.sl n15 (aa bQ f15)] 35],none)
def aiv:oB->JJ
 |.L0 ia0=>(0,[])
def Mi:T (bO JJ):=aP JJ xp u0 afu [V.agg [V.sl n0 (aa ak f0),V.sl n2 (aa ah f2),vi x4,V.sl n5 (aa aJ f5),V.sl n7 (aa aU f7),V.sl n9 (aa aV f9),V.sl n11 (aa aH f11),V.sl n13 (aa ae f13),V.sl n15 (aa bQ f15)]]
def A5 (cx:List Cx):Lp JJ:=eR (ej (Mi n0 f0 n2 f2 x4 n5 f5 n7 f7 n9 f9 n11 f11 n13 f13 n15 f15) [false,false,false,true,false,false])
def abe:JJ->Lp JJ
 |(0,cx)=>A5 n0 f0 n2 f2 x4 n5 f5 n7 f7 n9 f9 n11 f11 n13 f13 n15 f15 cx
 |(_,cx)=>A5 n0 f0 n2 f2 x4 n5 f5 n7 f7 n9 f9 n11 f11 n13 f13 n15 f15 cx
def amX:LD JJ oB:=⟨aiv,abe n0 f0 n2 f2 x4 n5 f5 n7 f7 n9 f9 n11 f11 n13 f13 n15 f15,UJ n0 f0 n2 f2 x4 n5 f5 n7 f7 n9 f9 n11 f11 n13 f13 n15 f15⟩
def uI (n0:Nat) (f0:aN) (n2:Nat) (f2:aN) (x4:Int) (n5:Nat) (f5:aN) (n7:Nat) (f7:aN) (n9:Nat) (f9:aN) (n11:Nat) (f11:aN) (n13:Nat) (f13:aN) (n15:Nat) (f15:aN):oB->RT oB
 |.L0 ia0=>.br (decide (ia0<(↑n13:Int))) (.ob (dI ia0 n13) (.ob (dI ia0 n15) (.am n2 (.cb (.br (!ge (ar (f13 ia0.toNat)) (-1) (wI ((↑n2:Int)-1))) (.ret (V.tup [vi 4,vi ia0,vi 4])) (.cb (.obi (.br (!!ge (ar (f15 ia0.toNat)) 0 200000) (.ob (!!ge (ar (f15 ia0.toNat)) 0 200000) (.cb (.obi (.br (!!ge (aQ (f15 ia0.toNat)) 0 600) (.ob (!!ge (aQ (f15 ia0.toNat)) 0 600) (.cb (.br (!ge (ca (f15 ia0.toNat)) 0 1000) (.ret (V.tup [vi 4,vi ia0,vi 7])) (.br (decide (ar (f13 ia0.toNat)<0)) (.next [some (some 0)] (oB.L0 (wI (ia0+1))) []) (.ob (dI (ar (f13 ia0.toNat)) n2) (.ob (dI (aQ (f2 (ar (f13 ia0.toNat)).toNat)) n0) (.obp (∀ (i:Nat),i<au (ap (ab (ab (ab (f0 (aQ (f2 (ar (f13 ia0.toNat)).toNat)).toNat)))))->(1:Nat)<=au (ap (aX (ap (ab (ab (ab (f0 (aQ (f2 (ar (f13 ia0.toNat)).toNat)).toNat))))) i))) (.obt (.br (decide (100000000000<wI (max (nT (au (ap (ab (ab (ab (f0 (aQ (f2 (ar (f13 ia0.toNat)).toNat)).toNat)))))) (fun i=>al [Ty.sl ae] (aX (ap (ab (ab (ab (f0 (aQ (f2 (ar (f13 ia0.toNat)).toNat)).toNat))))) i)) (db (f0 (aQ (f2 (ar (f13 ia0.toNat)).toNat)).toNat))) (bf (f0 (aQ (f2 (ar (f13 ia0.toNat)).toNat)).toNat))*bW (f2 (ar (f13 ia0.toNat)).toNat)))) (.ret (V.tup [vi 4,vi ia0,vi 7])) (.next [some (some 0)] (oB.L0 (wI (ia0+1))) [])))))))))) (.ret (V.tup [vi 4,vi ia0,vi 7])))))) (.ret (V.tup [vi 4,vi ia0,vi 7])))))))))) (.ret (V.tup [vi 0,vi 0,vi 0]))
def JS:RT oB:=dm (f13,f15) (.obp ((yaa n0 f0)/\yaa n2 f2) (.obt (.br (bI n0 (aa ak f0) n2 (aa ah f2)!=0) (.ret (V.tup [vi 1,vi 0,vi (bI n0 (aa ak f0) n2 (aa ah f2))])) (.obp ((yaa n5 f5)/\yaa n11 f11) (.obt (.br (g8 n5 (aa aJ f5) n7 (aa aU f7) n9 (aa aV f9) n11 (aa aH f11)!=0) (.ret (V.tup [vi 2,vi 0,vi (g8 n5 (aa aJ f5) n7 (aa aU f7) n9 (aa aV f9) n11 (aa aH f11))])) (.am n11 (.am n0 (.cb (.br (!ge x4 (-1) (wI ((↑n0:Int)-1))) (.ret (V.tup [vi 3,vi 0,vi 4])) (.iv (.obi (.obj (decide (0<=x4)) (dI x4 n0) (.obi (.br (decide (0<=x4)) (.ob (decide (0<=x4)) (.obp (∀ (i:Nat),i<au (ap (ab (ab (ab (f0 x4.toNat)))))->(1:Nat)<=au (ap (aX (ap (ab (ab (ab (f0 x4.toNat))))) i))) (.obt (.br (decide (10000<nT (au (ap (ab (ab (ab (f0 x4.toNat)))))) (fun i=>al [Ty.sl ae] (aX (ap (ab (ab (ab (f0 x4.toNat))))) i)) (db (f0 x4.toNat)))) (.ret (V.tup [vi 3,vi 0,vi 7])) (.am n13 (.ii (.asm ((!(↑n13:Int)!=(↑n11:Int))=true->n15<=9223372036854775807) (.ii (.obi (.br (bif(↑n13:Int)!=(↑n11:Int) then true else(↑n15:Int)!=(↑n11:Int)) (.ret (V.tup [vi 4,vi 0,vi 2])) (.am n13 (.enter [some (some 0)] (oB.L0 (0)) [])))))))))))) (.am n13 (.ii (.asm ((!(↑n13:Int)!=(↑n11:Int))=true->n15<=9223372036854775807) (.ii (.obi (.br (bif(↑n13:Int)!=(↑n11:Int) then true else(↑n15:Int)!=(↑n11:Int)) (.ret (V.tup [vi 4,vi 0,vi 2])) (.am n13 (.enter [some (some 0)] (oB.L0 (0)) [])))))))))))))))))))))))
theorem T5:dD xp u0 (amX n0 f0 n2 f2 x4 n5 f5 n7 f7 n9 f9 n11 f11 n13 f13 n15 f15) (Mi n0 f0 n2 f2 x4 n5 f5 n7 f7 n9 f9 n11 f11 n13 f13 n15 f15) (JS n0 f0 n2 f2 x4 n5 f5 n7 f7 n9 f9 n11 f11 n13 f13 n15 f15) (uI n0 f0 n2 f2 x4 n5 f5 n7 f7 n9 f9 n11 f11 n13 f13 n15 f15):=⟨⟨by kernel_rfl,by kernel_rfl⟩,fun s=>by cases s<;>exact⟨by kernel_rfl,by kernel_rfl⟩⟩
theorem GQ (hn:n11<=9223372036854775807) (hT:∀ i,i<n0->mU (f0 i)) (hL:∀ i:Nat,i<n2->0<=aQ (f2 i)/\aQ (f2 i)<n0):Ev (uI n0 f0 n2 f2 x4 n5 f5 n7 f7 n9 f9 n11 f11 n11 f13 n11 f15) (.L0 0) (Ja (wS n11 (pn f0 n2 f2 f13 f15) 4 (0,0,0))):=by
 refine iA (n:=n11) hn (fun i=>pn f0 n2 f2 f13 f15 i != 0) (P:=fun i=>Ev (uI n0 f0 n2 f2 x4 n5 f5 n7 f7 n9 f9 n11 f11 n11 f13 n11 f15) (.L0 i) _) (fun i hlt hj next=>Ev.of rfl (cr hlt (b7 hlt (b7 hlt (bg fun hn2=>aw (evObt ?_)))))) (fun hj=>Ev.of rfl (ck (evRet (by rw[jY 4 _ hj];rfl))))
 have L:∀ e,e≠0->pn f0 n2 f2 f13 f15 i=e->ce (V.tup [vi 4,vi i,vi e])=ce (Ja (wS n11 (pn f0 n2 f2 f13 f15) 4 (0,0,0))):=fun e he hc=>by
  rw [i6 4 _ hlt (by rw[hc];exact am7 he) hj,hc];rfl
 have N:pn f0 n2 f2 f13 f15 i=0->(pn f0 n2 f2 f13 f15 i != 0)=false:=fun h=>by rw[h];rfl
 refine evBr (fun h0=>evRet (L 4 (by decide) (Yy (IF h0)))) (fun h0=>aw (evObt (evObi (evBr (fun h1=>aE h1 (aw (evObt (evObi ?_)))) (fun h1=>evRet (L 7 (by decide) (amx (notf h0) (amf h1))))))))
 refine evBr (fun h2=>aE h2 (aw (evObt ?_))) (fun h2=>evRet (L 7 (by decide) (amB (notf h0) (yE h1) (amf h2))))
 refine evBr (fun h3=>evRet (L 7 (by decide) (ai4 (notf h0) (yE h1) (yE h2) (IF h3)))) (fun h3=>?_)
 refine evBr (fun h4=>aK (next (N (alM (notf h0) (yE h1) (yE h2) (notf h3) (gx (fun hh:0<=ar (f13 (i:Int).toNat)=>by have:=of_decide_eq_true h4;omega)))))) (fun h4=>?_)
 have h5:decide (0<=ar (f13 (i:Int).toNat))=true:=dqt (by have:=of_decide_eq_false h4;omega)
 have hv:=srf (notf h0) h5 hn2
 have hv':=of_decide_eq_true hv
 have ht:=hL (ar (f13 (i:Int).toNat)).toNat (by omega)
 have hr:=hT (aQ (f2 (ar (f13 (i:Int).toNat)).toNat)).toNat (by omega)
 refine aE hv (aE (dqt ht) (evObp (xS hr) (evObt ?_)))
 have hb:∀ b,decide (100000000000<wI (max (nT (Fi (f0 (aQ (f2 (ar (f13 (i:Int).toNat)).toNat)).toNat)) (aa [.sl ae] (tR (f0 (aQ (f2 (ar (f13 (i:Int).toNat)).toNat)).toNat))) (db (f0 (aQ (f2 (ar (f13 (i:Int).toNat)).toNat)).toNat))) (bf (f0 (aQ (f2 (ar (f13 (i:Int).toNat)).toNat)).toNat))*bW (f2 (ar (f13 (i:Int).toNat)).toNat)))=b->abX f0 (f2 (ar (f13 i)).toNat)=b:=fun b h=>by
  rw [to (xO hr)]at h;exact h
 exact evBr (fun h6=>evRet (L 7 (by decide) (amQ (notf h0) (yE h1) (yE h2) (notf h3) h5 (hb true h6)))) (fun h6=>aK (next (N (akA (notf h0) (yE h1) (yE h2) (notf h3) h5 (hb false h6)))))
theorem Pm (hp:yaa n0 f0/\yaa n2 f2/\yaa n5 f5/\yaa n11 f11):aR (Ev (uI n0 f0 n2 f2 x4 n5 f5 n7 f7 n9 f9 n11 f11 n13 f13 n15 f15)) (JS n0 f0 n2 f2 x4 n5 f5 n7 f7 n9 f9 n11 f11 n13 f13 n15 f15) (.tup [vi (nq n0 f0 n2 f2 x4 n5 f5 n7 f7 n9 f9 n11 f11 n13 f13 n15 f15),vi (nr n0 f0 n2 f2 x4 n5 f5 n7 f7 n9 f9 n11 f11 n13 f13 n15 f15),vi (gm n0 f0 n2 f2 x4 n5 f5 n7 f7 n9 f9 n11 f11 n13 f13 n15 f15)]):=by
 obtain ⟨p0,p2,p5,p11⟩:=hp
 show aR _ _ (Ja (TG n0 f0 n2 f2 x4 n5 f5 n7 f7 n9 f9 n11 f11 n13 f13 n15 f15))
 unfold TG
 rw [← show bI n0 (aa ak f0) n2 (aa ah f2)=cg n0 (aa ak f0) n2 (aa ah f2) from congrArg (fun t=>t.2.2) (nu ..),← yX]
 refine evObp ⟨p0,p2⟩ (evObt (evBr (fun h=>evRet (by rw[h];rfl)) (fun h=>?_)))
 rw [h]
 have V2:=uG (n0:=n0) (f0:=aa ak f0) (n2:=n2) (f2:=aa ah f2) ((congrArg (fun t=>t.2.2) (nu ..)).symm.trans (gE h))
 have hT:∀ i,i<n0->mU (f0 i):=fun i hi=>mU.of_el (Cw (V2.tb i hi))
 have hL:∀ i:Nat,i<n2->0<=aQ (f2 i)/\aQ (f2 i)<n0:=fun i hi=>(PX V2.l0 (V2.lm i hi)).t
 refine evObp ⟨p5,p11⟩ (evObt (evBr (fun h'=>evRet (by rw[h'];rfl)) (fun h'=>?_)))
 rw [h']
 have V3:=sH (n0:=n5) (f0:=aa aJ f5) (n2:=n7) (f2:=aa aU f7) (n4:=n9) (f4:=aa aV f9) (n6:=n11) (f6:=aa aH f11) (yX.symm.trans (gE h'))
 refine evAsm fun _=>?_
 refine bg fun hn0=>aw (evObt (evBr (fun h1=>?_) (fun h1=>?_)))
 ·have hk:xK n0 f0 x4=4:=by
   unfold xK
   rw [show ci x4 (-1) (wI ((n0:Int)-1))=false from IF h1];rfl
  exact evRet (by rw[hk];rfl)
 ·have h1:ci x4 (-1) (wI ((n0:Int)-1))=true:=notf h1
  refine evObi (evObi (evObi (evObi (evObi (evObj (fun h2=>?_) (evObi (evBr (fun h2=>?_) (fun h2=>?_))))))))
  ·exact srf h1 h2 hn0
  ·have hx:=of_decide_eq_true (srf h1 h2 hn0)
   refine aE h2 (evObp (xS (hT _ (by omega))) (evObt (evBr (fun h3=>?_) (fun h3=>?_))))
   ·have hk:xK n0 f0 x4=7:=by
     unfold xK gr4
     rw [h1,h2,← to (xO (hT x4.toNat (by omega)))];exact congrArg (fun b=>bif b then(7:Int) else 0) h3
    exact evRet (by rw[hk];rfl)
   have hk:xK n0 f0 x4=0:=by
    unfold xK gr4
    rw [h1,h2,← to (xO (hT x4.toNat (by omega)))];exact congrArg (fun b=>bif b then(7:Int) else 0) h3
   rw [hk]
   cases hl:Bu n11 n13 n15 with
   |true=>exact evAsm fun _=>evObi (evObi (evAsm fun _=>evObi (evObi (evObi (yQ hl (evRet rfl))))))
   | false =>
     obtain ⟨e1,e2⟩:=tU hl
     refine evAsm fun _=>evObi (evObi (evAsm fun _=>evObi (evObi (evObi (zE hl (evAsm fun _=>aF ?_))))))
     subst e1 e2
     exact GQ _ _ _ _ _ _ _ _ _ _ _ _ _ _ _ (by have:=V3.l6;omega) hT hL
  ·have hk:xK n0 f0 x4=0:=by
    unfold xK
    rw [h1,h2];rfl
   rw [hk]
   cases hl:Bu n11 n13 n15 with
   |true=>exact evAsm fun _=>evObi (evObi (evAsm fun _=>evObi (evObi (evObi (yQ hl (evRet rfl))))))
   | false =>
     obtain ⟨e1,e2⟩:=tU hl
     refine evAsm fun _=>evObi (evObi (evAsm fun _=>evObi (evObi (evObi (zE hl (evAsm fun _=>aF ?_))))))
     subst e1 e2
     exact GQ _ _ _ _ _ _ _ _ _ _ _ _ _ _ _ (by have:=V3.l6;omega) hT hL
theorem ahS (hp:yaa n0 (aa ak f0)/\yaa n2 (aa ah f2)/\yaa n5 (aa aJ f5)/\yaa n11 (aa aH f11)):aR (Ev (uI n0 f0 n2 f2 x4 n5 f5 n7 f7 n9 f9 n11 f11 n13 f13 n15 f15)) (JS n0 f0 n2 f2 x4 n5 f5 n7 f7 n9 f9 n11 f11 n13 f13 n15 f15) (.tup [vi (nq n0 (aa ak f0) n2 (aa ah f2) x4 n5 (aa aJ f5) n7 (aa aU f7) n9 (aa aV f9) n11 (aa aH f11) n13 (aa ae f13) n15 (aa bQ f15)),vi (nr n0 (aa ak f0) n2 (aa ah f2) x4 n5 (aa aJ f5) n7 (aa aU f7) n9 (aa aV f9) n11 (aa aH f11) n13 (aa ae f13) n15 (aa bQ f15)),vi (gm n0 (aa ak f0) n2 (aa ah f2) x4 n5 (aa aJ f5) n7 (aa aU f7) n9 (aa aV f9) n11 (aa aH f11) n13 (aa ae f13) n15 (aa bQ f15))]):=Pm n0 f0 n2 f2 x4 n5 f5 n7 f7 n9 f9 n11 f11 n13 f13 n15 f15 hp
def O7:aB:=bF [.agg [.sl ak,.sl ah,tI,.sl aJ,.sl aU,.sl aV,.sl aH,.sl ae,.sl bQ]] (fun
 |[.agg [.sl n0 f0,.sl n2 f2,.int _ x4,.sl n5 f5,.sl n7 f7,.sl n9 f9,.sl n11 f11,.sl n13 f13,.sl n15 f15]]=>yaa n0 f0/\yaa n2 f2/\yaa n5 f5/\yaa n11 f11
 |_=>False) fun
 |[.agg [.sl n0 f0,.sl n2 f2,.int _ x4,.sl n5 f5,.sl n7 f7,.sl n9 f9,.sl n11 f11,.sl n13 f13,.sl n15 f15]]=>.tup [vi (nq n0 f0 n2 f2 x4 n5 f5 n7 f7 n9 f9 n11 f11 n13 f13 n15 f15),vi (nr n0 f0 n2 f2 x4 n5 f5 n7 f7 n9 f9 n11 f11 n13 f13 n15 f15),vi (gm n0 f0 n2 f2 x4 n5 f5 n7 f7 n9 f9 n11 f11 n13 f13 n15 f15)]
 |_=>.any
theorem CH:(vP O7).Ok Tryz.prog 22:=bV Cf Tryz.func22 (by kernel_rfl) fun ds hp=>iS (T5 ..) (ahS _ _ _ _ _ _ _ _ _ _ _ _ _ _ _ _ _ hp)
def GK:bj:=(23,.con Oc)::(22,.con O7)::xp
theorem Dh:aW Tryz.prog eqs its GK:=.con Pd (.con CH (Cf))
def iD:Int:=gm n0 (aa ak f0) n2 (aa ah f2) x4 n5 (aa aJ f5) n7 (aa aU f7) n9 (aa aV f9) n11 (aa aH f11) n13 (aa ae f13) n15 (aa bQ f15)
def Rw:RT Empty:=.obp ((yaa n0 f0)/\(yaa n2 f2)/\(yaa n5 f5)/\yaa n11 f11) (.obt (.ret (vi (gm n0 (aa ak f0) n2 (aa ah f2) x4 n5 (aa aJ f5) n7 (aa aU f7) n9 (aa aV f9) n11 (aa aH f11) n13 (aa ae f13) n15 (aa bQ f15)))))
theorem SS:cJ cL (aP JJ GK u0 RL [V.agg [V.sl n0 (aa ak f0),V.sl n2 (aa ah f2),vi x4,V.sl n5 (aa aJ f5),V.sl n7 (aa aU f7),V.sl n9 (aa aV f9),V.sl n11 (aa aH f11),V.sl n13 (aa ae f13),V.sl n15 (aa bQ f15)]]) (Rw n0 f0 n2 f2 x4 n5 f5 n7 f7 n9 f9 n11 f11 n13 f13 n15 f15):=⟨by kernel_rfl,by kernel_rfl⟩
def aoh:Int:=gm n0 (aa ak f0) n2 (aa ah f2) x4 n5 (aa aJ f5) n7 (aa aU f7) n9 (aa aV f9) n11 (aa aH f11) n13 (aa ae f13) n15 (aa bQ f15)
theorem OB (hp:yaa n0 f0/\yaa n2 f2/\yaa n5 f5/\yaa n11 f11):aR cq (Rw n0 f0 n2 f2 x4 n5 f5 n7 f7 n9 f9 n11 f11 n13 f13 n15 f15) (vi (iD n0 f0 n2 f2 x4 n5 f5 n7 f7 n9 f9 n11 f11 n13 f13 n15 f15)):=evObp hp (evObt (evRet rfl))
theorem afm (hp:yaa n0 (aa ak f0)/\yaa n2 (aa ah f2)/\yaa n5 (aa aJ f5)/\yaa n11 (aa aH f11)):aR cq (Rw n0 f0 n2 f2 x4 n5 f5 n7 f7 n9 f9 n11 f11 n13 f13 n15 f15) (vi (iD n0 (aa ak f0) n2 (aa ah f2) x4 n5 (aa aJ f5) n7 (aa aU f7) n9 (aa aV f9) n11 (aa aH f11) n13 (aa ae f13) n15 (aa bQ f15))):=OB n0 f0 n2 f2 x4 n5 f5 n7 f7 n9 f9 n11 f11 n13 f13 n15 f15 hp
def Mg:aB:=bF [.agg [.sl ak,.sl ah,tI,.sl aJ,.sl aU,.sl aV,.sl aH,.sl ae,.sl bQ]] (fun
 |[.agg [.sl n0 f0,.sl n2 f2,.int _ x4,.sl n5 f5,.sl n7 f7,.sl n9 f9,.sl n11 f11,.sl n13 f13,.sl n15 f15]]=>yaa n0 f0/\yaa n2 f2/\yaa n5 f5/\yaa n11 f11
 |_=>False) fun
 |[.agg [.sl n0 f0,.sl n2 f2,.int _ x4,.sl n5 f5,.sl n7 f7,.sl n9 f9,.sl n11 f11,.sl n13 f13,.sl n15 f15]]=>vi (iD n0 f0 n2 f2 x4 n5 f5 n7 f7 n9 f9 n11 f11 n13 f13 n15 f15)
 |_=>.any
theorem RP:(vP Mg).Ok Tryz.prog 46:=bV Dh Tryz.func46 (by kernel_rfl) fun ds hp=>cQ (SS ..) (afm _ _ _ _ _ _ _ _ _ _ _ _ _ _ _ _ _ hp)
def MO:RT Empty:=.obp ((yaa n0 f0)/\(yaa n2 f2)/\(yaa n5 f5)/\yaa n11 f11) (.obt (.ret (vi (gm n0 (aa ak f0) n2 (aa ah f2) x4 n5 (aa aJ f5) n7 (aa aU f7) n9 (aa aV f9) n11 (aa aH f11) n13 (aa ae f13) n15 (aa bQ f15)))))
theorem TA:cJ cL (aP JJ GK u0 ack [V.agg [V.sl n0 (aa ak f0),V.sl n2 (aa ah f2),vi x4,V.sl n5 (aa aJ f5),V.sl n7 (aa aU f7),V.sl n9 (aa aV f9),V.sl n11 (aa aH f11),V.sl n13 (aa ae f13),V.sl n15 (aa bQ f15)]]) (MO n0 f0 n2 f2 x4 n5 f5 n7 f7 n9 f9 n11 f11 n13 f13 n15 f15):=⟨by kernel_rfl,by kernel_rfl⟩
def an4:Int:=gm n0 (aa ak f0) n2 (aa ah f2) x4 n5 (aa aJ f5) n7 (aa aU f7) n9 (aa aV f9) n11 (aa aH f11) n13 (aa ae f13) n15 (aa bQ f15)
theorem N3 (hp:yaa n0 f0/\yaa n2 f2/\yaa n5 f5/\yaa n11 f11):aR cq (MO n0 f0 n2 f2 x4 n5 f5 n7 f7 n9 f9 n11 f11 n13 f13 n15 f15) (vi (iD n0 f0 n2 f2 x4 n5 f5 n7 f7 n9 f9 n11 f11 n13 f13 n15 f15)):=evObp hp (evObt (evRet rfl))
theorem aiO (hp:yaa n0 (aa ak f0)/\yaa n2 (aa ah f2)/\yaa n5 (aa aJ f5)/\yaa n11 (aa aH f11)):aR cq (MO n0 f0 n2 f2 x4 n5 f5 n7 f7 n9 f9 n11 f11 n13 f13 n15 f15) (vi (iD n0 (aa ak f0) n2 (aa ah f2) x4 n5 (aa aJ f5) n7 (aa aU f7) n9 (aa aV f9) n11 (aa aH f11) n13 (aa ae f13) n15 (aa bQ f15))):=N3 n0 f0 n2 f2 x4 n5 f5 n7 f7 n9 f9 n11 f11 n13 f13 n15 f15 hp
def OC:aB:=bF [.agg [.sl ak,.sl ah,tI,.sl aJ,.sl aU,.sl aV,.sl aH,.sl ae,.sl bQ]] (fun
 |[.agg [.sl n0 f0,.sl n2 f2,.int _ x4,.sl n5 f5,.sl n7 f7,.sl n9 f9,.sl n11 f11,.sl n13 f13,.sl n15 f15]]=>yaa n0 f0/\yaa n2 f2/\yaa n5 f5/\yaa n11 f11
 |_=>False) fun
 |[.agg [.sl n0 f0,.sl n2 f2,.int _ x4,.sl n5 f5,.sl n7 f7,.sl n9 f9,.sl n11 f11,.sl n13 f13,.sl n15 f15]]=>vi (iD n0 f0 n2 f2 x4 n5 f5 n7 f7 n9 f9 n11 f11 n13 f13 n15 f15)
 |_=>.any
theorem JX:(vP OC).Ok Tryz.prog 69:=bV Dh Tryz.func69 (by kernel_rfl) fun ds hp=>cQ (TA ..) (aiO _ _ _ _ _ _ _ _ _ _ _ _ _ _ _ _ _ hp)
def Ew:bj:=(46,.con Mg)::(69,.con OC)::GK
theorem CG:aW Tryz.prog eqs its Ew:=.con RP (.con JX (Dh))
def aay:RT Empty:=dm (s0,x3) (.obp ((cW (wI ((1000000:Int)*wI (wI (x4*x4)+wI (x5*x5))))=(0:Int)->False)/\(dA (wI ((1000000:Int)*wI (wI (x4*x4)+wI (x5*x5))))=(0:Int)->False)) (.obt (.ret (V.agg [vi (iU (wI (x6-x1)) (wI (x8-x1)) (wI (x7-x2)) (wI (x9-x2)) x4 x5),vi (ja (wI (x6-x1)) (wI (x8-x1)) (wI (x7-x2)) (wI (x9-x2)) x4 x5),vi (iW (wI (x6-x1)) (wI (x8-x1)) (wI (x7-x2)) (wI (x9-x2)) x4 x5),vi (i4 (wI (x6-x1)) (wI (x8-x1)) (wI (x7-x2)) (wI (x9-x2)) x4 x5)]))))
theorem XF:cJ cL (aP JJ Ew u0 agU [V.agg [V.str s0,vi x1,vi x2,vi x3,vi x4,vi x5],V.agg [vi x6,vi x7,vi x8,vi x9]]) (aay s0 x1 x2 x3 x4 x5 x6 x7 x8 x9):=⟨by kernel_rfl,by kernel_rfl⟩
def kT:Int:=iU (wI (x6-x1)) (wI (x8-x1)) (wI (x7-x2)) (wI (x9-x2)) x4 x5
def lq:Int:=ja (wI (x6-x1)) (wI (x8-x1)) (wI (x7-x2)) (wI (x9-x2)) x4 x5
def lC:Int:=iW (wI (x6-x1)) (wI (x8-x1)) (wI (x7-x2)) (wI (x9-x2)) x4 x5
def lF:Int:=i4 (wI (x6-x1)) (wI (x8-x1)) (wI (x7-x2)) (wI (x9-x2)) x4 x5
def yaR:V:=dm (s0,x3) (.agg [vi (kT x1 x2 x4 x5 x6 x7 x8 x9),vi (lq x1 x2 x4 x5 x6 x7 x8 x9),vi (lC x1 x2 x4 x5 x6 x7 x8 x9),vi (lF x1 x2 x4 x5 x6 x7 x8 x9)])
theorem acx (hp:PL (wI (wI (x4*x4)+wI (x5*x5)))):aR cq (aay s0 x1 x2 x3 x4 x5 x6 x7 x8 x9) (yaR s0 x1 x2 x3 x4 x5 x6 x7 x8 x9):=evObp (by first|assumption|(exact hp)) (evObt (evRet (by unfold yaR kT lq lC lF;rfl)))
def OK:aB:=bF [.agg aH,.agg je] (fun
 |[.agg [.str s0,.int _ x1,.int _ x2,.int _ x3,.int _ x4,.int _ x5],.agg [.int _ x6,.int _ x7,.int _ x8,.int _ x9]]=>PL (wI (wI (x4*x4)+wI (x5*x5)))
 |_=>False) fun
 |[.agg [.str s0,.int _ x1,.int _ x2,.int _ x3,.int _ x4,.int _ x5],.agg [.int _ x6,.int _ x7,.int _ x8,.int _ x9]]=>yaR s0 x1 x2 x3 x4 x5 x6 x7 x8 x9
 |_=>.any
theorem N5:(vP OK).Ok Tryz.prog 70:=bV CG Tryz.func70 (by kernel_rfl) fun ds hp=>cQ (XF ..) (acx _ _ _ _ _ _ _ _ _ _ hp)
def Yl:RT Empty:=dm (s0,x3) (.obp ((((-1000:Int)<=x4/\x4<=(1000:Int))/\((-1000:Int)<=x5/\x5<=(1000:Int))/\(x4≠(0:Int)∨x5≠(0:Int)))/\((-1000000000:Int)<=wI (x6-x1)/\wI (x6-x1)<=(1000000000:Int))/\((-1000000000:Int)<=wI (x8-x1)/\wI (x8-x1)<=(1000000000:Int))/\((-1000000000:Int)<=wI (x7-x2)/\wI (x7-x2)<=(1000000000:Int))/\(-1000000000:Int)<=wI (x9-x2)/\wI (x9-x2)<=(1000000000:Int)) (.obt (.ret (V.agg [vi (iU (wI (x6-x1)) (wI (x8-x1)) (wI (x7-x2)) (wI (x9-x2)) x4 x5),vi (ja (wI (x6-x1)) (wI (x8-x1)) (wI (x7-x2)) (wI (x9-x2)) x4 x5),vi (iW (wI (x6-x1)) (wI (x8-x1)) (wI (x7-x2)) (wI (x9-x2)) x4 x5),vi (i4 (wI (x6-x1)) (wI (x8-x1)) (wI (x7-x2)) (wI (x9-x2)) x4 x5)]))))
theorem Sd:cJ cL (aP JJ Ew u0 zM [V.agg [V.str s0,vi x1,vi x2,vi x3,vi x4,vi x5],V.agg [vi x6,vi x7,vi x8,vi x9]]) (Yl s0 x1 x2 x3 x4 x5 x6 x7 x8 x9):=⟨by kernel_rfl,by kernel_rfl⟩
def aok:Int:=iU (wI (x6-x1)) (wI (x8-x1)) (wI (x7-x2)) (wI (x9-x2)) x4 x5
def an6:Int:=ja (wI (x6-x1)) (wI (x8-x1)) (wI (x7-x2)) (wI (x9-x2)) x4 x5
def anE:Int:=iW (wI (x6-x1)) (wI (x8-x1)) (wI (x7-x2)) (wI (x9-x2)) x4 x5
def anZ:Int:=i4 (wI (x6-x1)) (wI (x8-x1)) (wI (x7-x2)) (wI (x9-x2)) x4 x5
def ir (x:Int):Prop:=-400000000<=x/\x<=400000000
theorem Wi {a b:Int} (h:ir a) (h':ir b):Bd (wI (a-b)):=by
 unfold ir at *
 unfold Bd
 rw [wrapI (by omega) (by omega)];omega
theorem abY (hp:Hd x4 x5/\ir x1/\ir x2/\ir x6/\ir x7/\ir x8/\ir x9):aR cq (Yl s0 x1 x2 x3 x4 x5 x6 x7 x8 x9) (.agg [vi (kT x1 x2 x4 x5 x6 x7 x8 x9),vi (lq x1 x2 x4 x5 x6 x7 x8 x9),vi (lC x1 x2 x4 x5 x6 x7 x8 x9),vi (lF x1 x2 x4 x5 x6 x7 x8 x9)]):=by
 obtain ⟨hd,h1,h2,h6,h7,h8,h9⟩:=hp
 exact evObp ⟨hd,Wi h6 h1,Wi h8 h1,Wi h7 h2,Wi h9 h2⟩ (evObt (evRet rfl))
def Nt:aB:=bF [.agg aH,.agg je] (fun
 |[.agg [.str s0,.int _ x1,.int _ x2,.int _ x3,.int _ x4,.int _ x5],.agg [.int _ x6,.int _ x7,.int _ x8,.int _ x9]]=>Hd x4 x5/\ir x1/\ir x2/\ir x6/\ir x7/\ir x8/\ir x9
 |_=>False) fun
 |[.agg [.str s0,.int _ x1,.int _ x2,.int _ x3,.int _ x4,.int _ x5],.agg [.int _ x6,.int _ x7,.int _ x8,.int _ x9]]=>.agg [vi (kT x1 x2 x4 x5 x6 x7 x8 x9),vi (lq x1 x2 x4 x5 x6 x7 x8 x9),vi (lC x1 x2 x4 x5 x6 x7 x8 x9),vi (lF x1 x2 x4 x5 x6 x7 x8 x9)]
 |_=>.any
theorem KM:(vP Nt).Ok Tryz.prog 68:=bV CG Tryz.func68 (by kernel_rfl) fun ds hp=>cQ (Sd ..) (abY _ _ _ _ _ _ _ _ _ _ hp)
theorem ab3 {x k:Int} {z:Int×Int×Int} (h:(bif x != 0 then(k,(0:Int),x) else z).2.2=0):x=0/\z.2.2=0:=by
 cases hb:x != 0 with
 |true=>rw[hb]at h;rw[show x=0 from h]at hb;cases hb
 |false=>rw[hb]at h;exact⟨gE hb,h⟩
structure akP (x:List V):Prop where
 px:-100000<=aQ x/\aQ x<=100000
 py:-100000<=ca x/\ca x<=100000
 ph:1<=bW x/\bW x<=200
 hd:Hd (db x) (bf x)
theorem K8 {v a b:Int} (h:yac v a b=true):a<=v/\v<=b:=by
 unfold yac at h
 cases h1:decide (a<=v) with
 |false=>rw[h1]at h;cases h
 |true=>rw[h1]at h;exact⟨of_decide_eq_true h1,of_decide_eq_true h⟩
theorem bor {a b:Bool} (h:(bif a then true else b)=false):a=false/\b=false:=by cases a<;>cases b<;>first|exact⟨rfl,rfl⟩|cases h
theorem aqE {n:Nat} {f:Nat->List V} {i:Nat} (h:cC n (aa aH f) i=0):akP (f i):=by
 unfold cC VI at h
 obtain ⟨_,h⟩:=jB h (by decide)
 obtain ⟨_,h⟩:=jB h (by decide)
 unfold Ww at h
 obtain ⟨h1,h⟩:=jB h (by decide)
 obtain ⟨h2,_⟩:=jB h (by decide)
 obtain ⟨h1,hdy⟩:=bor h1
 obtain ⟨h1,hdx⟩:=bor h1
 obtain ⟨h1,hh⟩:=bor h1
 have h1:=notf h1
 unfold wk at h1
 have hx:yac (aQ (f i)) (-100000) 100000=true:=cS h1 0 (by decide)
 have hy:yac (ca (f i)) (-100000) 100000=true:=cS h1 1 (by decide)
 refine ⟨K8 hx,K8 hy,K8 (notf hh),K8 (notf hdx),K8 (notf hdy),?_⟩
 have h2:(bif db ((f i))==0 then bf ((f i))==0 else false)=false:=h2
 cases hb:(db ((f i))==0) with
 |false=>exact .inl fun h=>by rw[h]at hb;cases hb
 | true =>
   rw [hb]at h2
   exact .inr fun h=>by have h2:(bf ((f i))==0)=false:=h2;rw[h]at h2;cases h2
structure Yq (n0:Nat) (f0:aN) (n2:Nat) (f2:aN) (x4:Int) (n5:Nat) (f5:aN) (n7:Nat) (f7:aN) (n9:Nat) (f9:aN) (n11:Nat) (f11:aN) (n13:Nat) (f13:aN) (n15:Nat) (f15:aN):Prop where
 v2:zr n0 f0 n2 f2
 v3:aat n5 (aa aJ f5) n7 (aa aU f7) n9 (aa aV f9) n11 (aa aH f11)
 sf:xK n0 f0 x4=0
 ll:n13=n11
 lu:n15=n11
 tb:∀ i,i<n0->mU (f0 i)
 lm:∀ i,i<n2->af1 n0 (f2 i)
 cl:∀ i,i<n11->akP (f11 i)
 co:∀ i,i<n11->pn f0 n2 f2 f13 f15 i=0
theorem rX {n0:Nat} {f0:Nat->List V} {n2:Nat} {f2:Nat->List V} {x4:Int} {n5:Nat} {f5:Nat->List V} {n7:Nat} {f7:Nat->List V} {n9:Nat} {f9:Nat->List V} {n11:Nat} {f11:Nat->List V} {n13:Nat} {f13:Nat->List V} {n15:Nat} {f15:Nat->List V} (h:iD n0 f0 n2 f2 x4 n5 f5 n7 f7 n9 f9 n11 f11 n13 f13 n15 f15=0):Yq n0 f0 n2 f2 x4 n5 f5 n7 f7 n9 f9 n11 f11 n13 f13 n15 f15:=by
 have h:(TG n0 f0 n2 f2 x4 n5 f5 n7 f7 n9 f9 n11 f11 n13 f13 n15 f15).2.2=0:=h
 unfold TG at h
 obtain ⟨h1,h⟩:=ab3 h
 obtain ⟨h2,h⟩:=ab3 h
 obtain ⟨h3,h⟩:=ab3 h
 have h1:cg n0 f0 n2 f2=0:=h1
 have V2:=uG h1
 have V3:=sH h2
 cases hl:Bu n11 n13 n15 with
 |true=>rw[hl]at h;cases h
 | false =>
   rw [hl]at h
   obtain ⟨e1,e2⟩:=tU hl
   exact ⟨V2,V3,h3,e1,e2,fun i hi=>Cw (V2.tb i hi),fun i hi=>PX V2.l0 (V2.lm i hi),fun i hi=>aqE (n:=n11) (V3.cl i hi),(js h).1⟩
def kU (e z:Int):Int:=bif e==0 then z else 0
theorem adP {dx dy:Int} (h:Hd dx dy):PL (wI (wI (dx*dx)+wI (dy*dy))):=rts (hdS h)
end
end Go.Dx
namespace Go.Dx
open Go.Sx
section
variable {J:Type}
def Ku:V->bO J->bO J
 |.bool b,.res (.kb _)=>.res (.kb b)
 |r,_=>.res r
theorem RF (r:V) (a:bO J):pC r (Ku r a):=by
 unfold Ku;split<;>rfl
def oU (r:V):T (bO J)->T (bO J)
 |.ret a=>.ret (Ku r a)
 | .br b x y=>match b with
   |true=>.br true (oU r x) y
   |false=>.br false x (oU r y)
 |.ob _ x=>.ob true (oU r x)
 | .obi c d x=>match c with
   |true=>.obi true true (oU r x)
   |false=>.obi false d (oU r x)
 |.obp _ x=>.obp True (oU r x)
 |.obq a _ x=>.obq a a (oU r x)
 |.fail _=>.ret (.res r)
 |.loop ..=>.ret (.res r)
 |.all f=>.all fun l=>oU r (f l)
 |.und x y=>.und (oU r x) (oU r y)
 |.asm p x=>.asm p (oU r x)
theorem Rf {LP:eh} (r:V):∀ t:T (bO J),bw LP (oU r t) (pC r):=by
 intro t
 induction t with
 |ret a=>exact RF r a
 | br b x y hx hy =>
   cases b with
   |true=>exact⟨fun _=>hx,(fun e=>by cases e)⟩
   |false=>exact⟨(fun e=>by cases e),fun _=>hy⟩
 |ob b x hx=>exact⟨rfl,hx⟩
 | obi c d x hx =>
   cases c with
   |true=>exact⟨fun _=>rfl,hx⟩
   |false=>exact⟨(fun e=>by cases e),hx⟩
 |obp p x hx=>exact⟨trivial,hx⟩
 |obq a b x hx=>exact⟨rfl,hx⟩
 |fail n=>exact(rfl:ce r=ce r)
 |loop fr b e h g k hk=>exact(rfl:ce r=ce r)
 |all f hf=>exact fun l=>hf l
 |und x y hx hy=>exact⟨hx,hy⟩
 |asm p x hx=>exact fun _=>hx
theorem B3 {ct:bj} {un:kw} {w0:World} {sf:aC} {ds:List V} {r:V} (h:oU r (aP J ct un sf ds)=aP J ct un sf ds):bw (cV w0 (SV ct)) (aP J ct un sf ds) (pC r):=by
 rw [← h];exact Rf r _
end
def qZ (ts:List Ty) (pre:List V->Bool) (r:List V->V):aB:=fun ds=>cond (pre (jC ts ds)) (some ((jL ts ds [],jM ts ds []),True,r (jC ts ds))) none
theorem lW {P:Program} {f:FuncId} {ts:List Ty} {pre:List V->Prop} {preB:List V->Bool} {r:List V->V} (h:∀ ds,preB ds=true->pre ds) (hO:(vP (bF ts pre r)).Ok P f):(vP (qZ ts preB r)).Ok P f:=by
 refine ⟨fun B m lh w args vs K hrel hargs hsp=>?_,fun _ _ _ _ _ hk ⟨ds,d,p,r,h1,h2,h3,h4,h5⟩=>⟨ds,d,p,r,h1,h2,h3,h4,hk _ _ h5⟩,fun _ _ _ _ ⟨_,_,_,_,_,_,_,_,h⟩=>h⟩
 refine hO.sound B m lh w args vs K hrel hargs ?_
 obtain ⟨ds,d,p,r',h1,h2,⟨h30,h3⟩,h4,h5⟩:=hsp
 unfold qZ at h2
 cases hb:preB (jC ts ds) with
 |false=>rw[hb]at h2;cases h2
 | true =>
   rw [hb]at h2
   simp only [cond_true,Option.some.injEq,Prod.mk.injEq]at h2
   obtain ⟨rfl,rfl,rfl⟩:=h2
   exact ⟨ds,_,_,_,h1,rfl,⟨h30,h _ hb⟩,h4,h5⟩
def IA (p:V->V->Bool):List V->List V->Bool
 |[],[]=>true
 |v::vs,x::xs=>p v x&&IA p vs xs
 |_,_=>false
def Pf:Nat->V->V->Bool
 |0,_,_=>false
 | fu+1,v,x=>match v,x with
   |.int k a,.int k' b=>decide (k=k')&&decide (a=b)
   |.bool a,.bool b=>a==b
   |.kb a,.bool b=>a==b
   |.str a,.str b=>decide (a.data.toList=b.data.toList)
   |.agg xs,.agg ys=>IA (Pf fu) xs ys
   |.sl n f,.sl m g=>Nat.beq n m&&cz n fun i=>IA (Pf fu) (f i) (g i)&&(g i).all V.fc
   |.sq n _ f,.sl m g=>Nat.beq n m&&cz n fun i=>IA (Pf fu) (f i) (g i)&&(g i).all V.fc
   |.pd xs,.pd ys=>Nat.beq (bK xs) (bK ys)&&(IA (Pf fu) xs ys&&ys.all V.fc)
   |.fn f xs ys,.fn g us ws=>Nat.beq f g&&(IA (Pf fu) xs us&&IA (Pf fu) ys ws)
   |_,_=>false
theorem mZ {w0:World} {lh:List ao} {p:V->V->Bool} (hp:∀ v x a,p v x=true->vr w0 lh Nu.nil v a->vr w0 lh Nu.nil x a):∀ (vs xs:List V) (qs:List af),IA p vs xs=true->bl w0 lh Nu.nil vs qs->bl w0 lh Nu.nil xs qs
 |[],[],qs,_,h=>h
 | v::vs,x::xs,qs,h,h1=>by
   simp only [IA,Bool.and_eq_true]at h
   simp only [bl]at h1 ⊢
   obtain ⟨y,ys,rfl,h2,h3⟩:=h1
   exact ⟨y,ys,rfl,hp _ _ _ h.1 h2,mZ hp vs xs ys h.2 h3⟩
 |[],_::_,_,h,_=>by simp[IA]at h
 |_::_,[],_,h,_=>by simp[IA]at h
theorem oP {w0:World} {lh:List ao}:∀ (fu:Nat) (v x:V) (a:af),Pf fu v x=true->vr w0 lh Nu.nil v a->vr w0 lh Nu.nil x a
 |0,v,x,a,h,_=>by simp[Pf]at h
 | fu+1,v,x,a,h,hv=>by
   simp only [Pf]at h
   split at h
   ·simp only[Bool.and_eq_true,decide_eq_true_eq]at h;obtain⟨rfl,rfl⟩:=h;exact hv
   ·have:=eq_of_beq h;subst this;exact hv
   ·have:=eq_of_beq h;subst this;simp only[vr]at hv ⊢;exact hv
   ·rename_i s t
    have h0:=of_decide_eq_true h
    have:s=t:=by
     cases s with|mk d =>
     cases t with|mk e =>
     have:d=e:=Array.toList_inj.1 h0
     rw [this]
    subst this;exact hv
   ·simp only[vr]at hv ⊢
    obtain ⟨qs,rfl,h2⟩:=hv
    exact ⟨qs,rfl,mZ (fun v x a=>oP fu v x a) _ _ _ h h2⟩
   ·simp only[Bool.and_eq_true]at h
    have hn:=Nat.eq_of_beq_eq_true h.1
    subst hn
    simp only [vr]at hv ⊢
    obtain ⟨p,c,esz,h1,h2,h3,h4,h5⟩:=hv
    refine ⟨p,c,esz,h1,h2,h3,h4,fun i hi=>?_⟩
    obtain ⟨q,qs,g1,g2,g3,g4⟩:=h5 i hi
    have hh:=cS h.2 i hi
    simp only [Bool.and_eq_true]at hh
    exact ⟨q,qs,g1,g2,mZ (fun v x a=>oP fu v x a) _ _ _ hh.1 g3,hh.2⟩
   ·simp only[Bool.and_eq_true]at h
    have hn:=Nat.eq_of_beq_eq_true h.1
    subst hn
    simp only [vr]at hv ⊢
    obtain ⟨p,c,esz,h1,h2,h3,h4,h5⟩:=hv
    refine ⟨p,c,esz,h1,h2.1,h3,h4,fun i hi=>?_⟩
    obtain ⟨q,qs,g1,g2,g3,g4⟩:=h5 i hi
    have hh:=cS h.2 i hi
    simp only [Bool.and_eq_true]at hh
    exact ⟨q,qs,g1,g2,mZ (fun v x a=>oP fu v x a) _ _ _ hh.1 g3,hh.2⟩
   ·simp only[Bool.and_eq_true]at h
    have hn:=Nat.eq_of_beq_eq_true h.1
    rw [bH,bH]at hn
    simp only [vr]at hv ⊢
    obtain ⟨p,qs,h1,h2,h3,h4,h5⟩:=hv
    exact ⟨p,qs,h1,h2,by rw[← hn];exact h3,mZ (fun v x a=>oP fu v x a) _ _ _ h.2.1 h4,h.2.2⟩
   ·simp only[Bool.and_eq_true]at h
    have hn:=Nat.eq_of_beq_eq_true h.1
    subst hn
    simp only [vr]at hv ⊢
    obtain ⟨us,vs,h1,h2,h3⟩:=hv
    exact ⟨us,vs,h1,mZ (fun v x a=>oP fu v x a) _ _ _ h.2.1 h2,mZ (fun v x a=>oP fu v x a) _ _ _ h.2.2 h3⟩
   ·cases h
def fp:List (List V×V)->aB
 |[],_=>none
 |(ex,r)::l,ds=>cond (IA (Pf 8) ds ex) (some (([],[]),True,r)) (fp l ds)
theorem yz {P:Program} {f:FuncId} {C:aB} (hO:(vP C).Ok P f):∀ (l:List (List V×V)),(∀ e∈l,∃ d p,C e.1=some (d,p,e.2)/\d.1=d.2/\p)->(vP (fp l)).Ok P f:=by
 intro l hl
 refine ⟨fun B m lh w args vs K hrel hargs hsp=>?_,fun _ _ _ _ _ hk ⟨ds,d,p,r,h1,h2,h3,h4,h5⟩=>⟨ds,d,p,r,h1,h2,h3,h4,hk _ _ h5⟩,fun _ _ _ _ ⟨_,_,_,_,_,_,_,_,h⟩=>h⟩
 refine hO.sound B m lh w args vs K hrel hargs ?_
 obtain ⟨ds,d,p,r',h1,h2,_,h4,h5⟩:=hsp
 induction l with
 |nil=>simp[fp]at h2
 | cons e l ih =>
   simp only [fp]at h2
   cases hb:IA (Pf 8) ds e.1 with
   | true =>
     rw [hb]at h2
     simp only [cond_true,Option.some.injEq,Prod.mk.injEq]at h2
     obtain ⟨_,_,rfl⟩:=h2
     obtain ⟨d',p',e1,e2,e3⟩:=hl e (List.mem_cons_self ..)
     exact ⟨e.1,d',p',_,mZ (fun v x a=>oP 8 v x a) _ _ _ hb h1,e1,⟨e2,e3⟩,h4,h5⟩
   | false =>
     rw [hb]at h2
     exact ih (fun e he=>hl e (List.mem_cons_of_mem _ he)) h2
end Go.Dx
namespace Go.Dx
open Go.Sx
theorem at1 {ts:List Ty} {pre:List V->Prop} {r:List V->V} {raw:List V} {res:V} (hp:pre (jC ts (al ts raw))) (hr:r (jC ts (al ts raw))=res):∃ d p,bF ts pre r (al ts raw)=some (d,p,res)/\d.1=d.2/\p :=
 ⟨_,_,by rw[bF,hr],fj ts raw [],hp⟩
theorem TJ {α:Type} {a:α} {l:List α} {Q:α->Prop} (h:Q a) (hl:∀ e∈l,Q e):∀ e∈a::l,Q e:=fun e he=>by
 rcases List.mem_cons.1 he with rfl|he
 ·exact h
 ·exact hl e he
theorem S7 {α:Type} {Q:α->Prop}:∀ e∈([]:List α),Q e:=fun e he=>by cases he
end Go.Dx
namespace Go.Dx
open Go.IntKind (i64 u64 u8)
open Go.Sx Go.Proofs
variable (n0:Nat) (f0:aN) (x0 x1:Int) (n2:Nat) (f2:aN) (x2 x3 x4:Int) (n5:Nat) (f5:aN) (x5 x6:Int) (n7:Nat) (f7:aN) (n9:Nat) (f9:aN) (n11:Nat) (f11:aN) (n13:Nat) (f13:aN) (n15:Nat) (f15:aN) (x17:Int) (s18:ByteArray) (x19 x20 x21 x22 x23:Int)
noncomputable section
def uB:kw:=fun _=>1000
def szB (n:Nat) (f:Nat->List V):Bool:=cz n fun i=>Nat.ble (sv (ap (f i))).size 9223372036854775807
theorem mz {n:Nat} {f:Nat->List V} (h:szB n f=true):yaa n f:=fun i hi=>Nat.le_of_ble_eq_true (cS h i hi)
def smT:Nat->List V
 |0=>[.str ⟨#[119,105,100,101]⟩,.sl 3 (fun|0=>[vi (-1000)]|1=>[vi (0)]|_=>[vi (2000)]),.sl 2 (fun|0=>[vi (-1000)]|_=>[vi (1000)]),.sl 3 (fun|0=>[.sl 2 (fun|0=>[vi (100)]|_=>[vi (300)])]|1=>[.sl 2 (fun|0=>[vi (200)]|_=>[vi (600)])]|_=>[.sl 2 (fun|0=>[vi (0)]|_=>[vi (100)])]),vi (50),vi (5)]
 |_=>[.str ⟨#[97,115,112,104,97,108,116]⟩,.sl 2 (fun|0=>[vi (-5000)]|_=>[vi (5000)]),.sl 2 (fun|0=>[vi (-5000)]|_=>[vi (5000)]),.sl 2 (fun|0=>[.sl 2 (fun|0=>[vi (700)]|_=>[vi (700)])]|_=>[.sl 2 (fun|0=>[vi (700)]|_=>[vi (700)])]),vi (0),vi (0)]
def smL:Nat->List V:=fun _=>[.str ⟨#[104,101,97,100]⟩,vi (0),vi (1),vi (8000),vi (60000),vi (500),vi (50),vi (2),vi (4),vi (3),vi (5),vi (100000),vi (200),vi (0)]
def smR:Nat->List V:=fun _=>[.str ⟨#[104,105,103,104]⟩,vi (0),.sl 3 (fun|0=>[vi 0,vi 0]|1=>[vi 10000,vi 0]|_=>[vi 10000,vi 10000]),vi (4000)]
def smC:Nat->List V:=fun _=>[.str ⟨#[99]⟩,vi (0),vi (0),vi (80),vi (0),vi (1)]
def smS:V:=.agg [.sl 2 smT,.sl 1 smL,vi 1,.sl 1 smR,.sl 0 smR,.sl 0 smR,.sl 1 smC,.sl 1 (fun _=>[vi 0]),.sl 1 fun _=>[vi 0,vi 0,vi 1000]]
def KL:List Ty:=[.agg [.sl ak,.sl ah,tI,.sl aJ,.sl aU,.sl aV,.sl aH,.sl ae,.sl bQ]]
def Kl:aB:=fp [(al KL [smS],.tup [vi 0,vi 0,vi 0])]
theorem SD:(vP Kl).Ok Tryz.prog 22:=yz CH _ (TJ (at1 (ts:=KL) (raw:=[smS]) (⟨mz (by kernel_rfl),mz (by kernel_rfl),mz (by kernel_rfl),mz (by kernel_rfl)⟩) (by kernel_rfl)) (S7))
def N4:List Ty:=[.agg [.sl ak,.sl ah]]
def Ov:aB:=fp [(al N4 [.agg [.sl 2 smT,.sl 1 smL]],.tup [vi 0,vi 0,vi 0])]
theorem XC:(vP Ov).Ok Tryz.prog 59:=yz D9 _ (TJ (at1 (ts:=N4) (raw:=[.agg [.sl 2 smT,.sl 1 smL]]) (⟨mz (by kernel_rfl),mz (by kernel_rfl)⟩) (by kernel_rfl)) (S7))
def akE:List Ty:=[.agg [.sl aJ,.sl aU,.sl aV,.sl aH]]
def ybn:aB:=fp [(al akE [.agg [.sl 1 smR,.sl 0 smR,.sl 0 smR,.sl 1 smC]],.tup [vi 0,vi 0,vi 0])]
theorem am0:(vP ybn).Ok Tryz.prog 60:=yz Xw _ (TJ (at1 (ts:=akE) (raw:=[.agg [.sl 1 smR,.sl 0 smR,.sl 0 smR,.sl 1 smC]]) (⟨mz (by kernel_rfl),mz (by kernel_rfl)⟩) (by kernel_rfl)) (S7))
def o4:bj:=(70,.con OK)::(68,.con Nt)::Ew
theorem nd:aW Tryz.prog eqs its o4:=.con N5 (.con KM (CG))
def ZM:RT Empty:=dm (n0,f0,n2,f2,x4,n5,f5,n7,f7,n9,f9,n11,f11,n13,f13,n15,f15,x17,s18,x19,x20,x22,x23) (.ret (vi (wI (100*x21))))
theorem SQ:cJ cL (aP JJ o4 u0 N2 [V.agg [V.sl n0 (aa ak f0),V.sl n2 (aa ah f2),vi x4,V.sl n5 (aa aJ f5),V.sl n7 (aa aU f7),V.sl n9 (aa aV f9),V.sl n11 (aa aH f11),V.sl n13 (aa ae f13),V.sl n15 (aa bQ f15),vi x17,V.str s18,vi x19,vi x20,vi x21,vi x22,vi x23]]) (ZM n0 f0 n2 f2 x4 n5 f5 n7 f7 n9 f9 n11 f11 n13 f13 n15 f15 x17 s18 x19 x20 x21 x22 x23):=⟨by kernel_rfl,by kernel_rfl⟩
def Fj:Int:=wI (100*x21)
def Ls:V:=dm (n0,f0,n2,f2,x4,n5,f5,n7,f7,n9,f9,n11,f11,n13,f13,n15,f15,x17,s18,x19,x20,x22,x23) (vi (Fj x21))
theorem agX:aR cq (ZM n0 f0 n2 f2 x4 n5 f5 n7 f7 n9 f9 n11 f11 n13 f13 n15 f15 x17 s18 x19 x20 x21 x22 x23) (Ls n0 f0 n2 f2 x4 n5 f5 n7 f7 n9 f9 n11 f11 n13 f13 n15 f15 x17 s18 x19 x20 x21 x22 x23):=evRet (by unfold Ls Fj;rfl)
def MA:aB:=bF [.agg [.sl ak,.sl ah,tI,.sl aJ,.sl aU,.sl aV,.sl aH,.sl ae,.sl bQ,tI,.str,tI,tI,tI,tI,tI]] (fun _=>True) fun
 |[.agg [.sl n0 f0,.sl n2 f2,.int _ x4,.sl n5 f5,.sl n7 f7,.sl n9 f9,.sl n11 f11,.sl n13 f13,.sl n15 f15,.int _ x17,.str s18,.int _ x19,.int _ x20,.int _ x21,.int _ x22,.int _ x23]]=>Ls n0 f0 n2 f2 x4 n5 f5 n7 f7 n9 f9 n11 f11 n13 f13 n15 f15 x17 s18 x19 x20 x21 x22 x23
 |_=>.any
theorem JR:(vP MA).Ok Tryz.prog 111:=bV nd Tryz.func111 (by kernel_rfl) fun ds hp=>cQ (SQ ..) (agX _ _ _ _ _ _ _ _ _ _ _ _ _ _ _ _ _ _ _ _ _ _ _ _)
def YJ:RT Empty:=.ret (V.agg [vi x0,vi x0])
theorem V7:cJ cL (aP JJ o4 u0 ag0 [vi x0]) (YJ x0):=⟨by kernel_rfl,by kernel_rfl⟩
def JM:V:=.agg [vi (x0),vi (x0)]
theorem ade:aR cq (YJ x0) (JM x0):=evRet (by unfold JM ; rfl)
def El:aB:=bF ae (fun _=>True) fun
 |[.int _ x0]=>JM x0
 |_=>.any
theorem C8:(vP El).Ok Tryz.prog 226:=bV nd Tryz.func226 (by kernel_rfl) fun ds hp=>cQ (V7 ..) (ade _)
def ZC:RT Empty:=.obp (nz (wI (x5-x4))) (.obt (.obp (nz (wI (x5-x4))) (.obt (.ret (V.agg [vi (ea (wI (wI (x0*wI (x5-x6))+wI (x2*wI (x6-x4)))) (wI (x5-x4))),vi (fo (wI (wI (x1*wI (x5-x6))+wI (x3*wI (x6-x4)))) (wI (x5-x4)))])))))
theorem Vj:cJ cL (aP JJ o4 u0 agI [V.agg [vi x0,vi x1],V.agg [vi x2,vi x3],vi x4,vi x5,vi x6]) (ZC x0 x1 x2 x3 x4 x5 x6):=⟨by kernel_rfl,by kernel_rfl⟩
def jV:Int:=ea (wI (wI (x0*wI (x5-x6))+wI (x2*wI (x6-x4)))) (wI (x5-x4))
def jX:Int:=fo (wI (wI (x1*wI (x5-x6))+wI (x3*wI (x6-x4)))) (wI (x5-x4))
def EV:V:=.agg [vi (jV x0 x2 x4 x5 x6),vi (jX x1 x3 x4 x5 x6)]
theorem aif (hp:wI (x5-x4)≠0):aR cq (ZC x0 x1 x2 x3 x4 x5 x6) (EV x0 x1 x2 x3 x4 x5 x6):=evObp (by first|assumption|(exact hp)) (evObt (evObp (by first|assumption|(exact hp)) (evObt (evRet (by unfold EV jV jX;rfl)))))
def LH:aB:=bF [.agg bZ,.agg bZ,tI,tI,tI] (fun
 |[.agg [.int _ x0,.int _ x1],.agg [.int _ x2,.int _ x3],.int _ x4,.int _ x5,.int _ x6]=>wI (x5-x4)≠0
 |_=>False) fun
 |[.agg [.int _ x0,.int _ x1],.agg [.int _ x2,.int _ x3],.int _ x4,.int _ x5,.int _ x6]=>EV x0 x1 x2 x3 x4 x5 x6
 |_=>.any
theorem Ee:(vP LH).Ok Tryz.prog 225:=bV nd Tryz.func225 (by kernel_rfl) fun ds hp=>cQ (Vj ..) (aif _ _ _ _ _ _ _ hp)
def LQ:RT Empty:=.obp (nz 1000000) (.obt (.obp (nz 1000) (.obt (.obp (nz 1000) (.obt (.ret (vi (ea (wI (ea (wI (ea (wI (x0*max (wI (1000000-wI (x1*x3))) 0)) 1000000*max (wI (1000-wI (x2*x4))) 0)) 1000*x5)) 1000))))))))
theorem QX:cJ cL (aP JJ o4 u0 Rv [vi x0,vi x1,vi x2,V.agg [vi x3,vi x4,vi x5],V.fn 91 [] []]) (LQ x0 x1 x2 x3 x4 x5):=⟨by kernel_rfl,by kernel_rfl⟩
def mL:Int:=ea (wI (ea (wI (ea (wI (x0*max (wI (1000000-wI (x1*x3))) 0)) 1000000*max (wI (1000-wI (x2*x4))) 0)) 1000*x5)) 1000
def C3:V:=vi (mL x0 x1 x2 x3 x4 x5)
theorem Tr:aR cq (LQ x0 x1 x2 x3 x4 x5) (C3 x0 x1 x2 x3 x4 x5):=evObp (by first|assumption|(decide)) (evObt (evObp (by first|assumption|(decide)) (evObt (evObp (by first|assumption|(decide)) (evObt (evRet (by unfold C3 mL;rfl)))))))
def PN:aB:=bF [tI,tI,tI,.agg bQ,.fn 91 [] []] (fun _=>True) fun
 |[.int _ x0,.int _ x1,.int _ x2,.agg [.int _ x3,.int _ x4,.int _ x5],.fn _ [] []]=>C3 x0 x1 x2 x3 x4 x5
 |_=>.any
theorem Um:(vP PN).Ok Tryz.prog 165:=bV nd Tryz.func165 (by kernel_rfl) fun ds hp=>cQ (QX ..) (Tr _ _ _ _ _ _)
def yaV:RT Empty:=.obp (nz 1000000) (.obt (.obp (nz 1000) (.obt (.obp (nz 1000) (.obt (.ret (vi (fo (wI (fo (wI (fo (wI (x0*max (wI (1000000-wI (x1*x3))) 0)) 1000000*max (wI (1000-wI (x2*x4))) 0)) 1000*x5)) 1000))))))))
theorem Mx:cJ cL (aP JJ o4 u0 Rv [vi x0,vi x1,vi x2,V.agg [vi x3,vi x4,vi x5],V.fn 92 [] []]) (yaV x0 x1 x2 x3 x4 x5):=⟨by kernel_rfl,by kernel_rfl⟩
def mN:Int:=fo (wI (fo (wI (fo (wI (x0*max (wI (1000000-wI (x1*x3))) 0)) 1000000*max (wI (1000-wI (x2*x4))) 0)) 1000*x5)) 1000
def Cl:V:=vi (mN x0 x1 x2 x3 x4 x5)
theorem Vv:aR cq (yaV x0 x1 x2 x3 x4 x5) (Cl x0 x1 x2 x3 x4 x5):=evObp (by first|assumption|(decide)) (evObt (evObp (by first|assumption|(decide)) (evObt (evObp (by first|assumption|(decide)) (evObt (evRet (by unfold Cl mN;rfl)))))))
def RR:aB:=bF [tI,tI,tI,.agg bQ,.fn 92 [] []] (fun _=>True) fun
 |[.int _ x0,.int _ x1,.int _ x2,.agg [.int _ x3,.int _ x4,.int _ x5],.fn _ [] []]=>Cl x0 x1 x2 x3 x4 x5
 |_=>.any
theorem Vf:(vP RR).Ok Tryz.prog 165:=bV nd Tryz.func165 (by kernel_rfl) fun ds hp=>cQ (Mx ..) (Vv _ _ _ _ _ _)
def ah7:List V->Bool
 |[_,_,_,_,.fn n _ _]=>Nat.beq n (match (.fn 91 [] []:V) with|.fn k _ _=>k|_=>0)
 |_=>false
def G1:aB:=orC ah7 PN RR
theorem DJ:(vP G1).Ok Tryz.prog 165:=D7 _ _ _ Um Vf
theorem vb {b:Int} (h:(b != 0)=true):b≠0:=by simpa using h
def O8:List V->Bool
 |[.int _ x0,.int _ x1]=>x1 != 0
 |_=>false
def LM:aB:=qZ bZ O8 fun
 |[.int _ x0,.int _ x1]=>BN x0 x1
 |_=>.any
theorem XG:(vP LM).Ok Tryz.prog 91:=lW (fun ds h=>by
 unfold O8 at h
 split at h
 ·exact vb h
 ·cases h) D2
def LW:List V->Bool
 |[.agg [.int _ x0,.int _ x1]]=>x1 != 0
 |_=>false
def Oa:aB:=qZ [.agg bZ] LW fun
 |[.agg [.int _ x0,.int _ x1]]=>AF x0 x1
 |_=>.any
theorem Vi:(vP Oa).Ok Tryz.prog 106:=lW (fun ds h=>by
 unfold LW at h
 split at h
 ·exact vb h
 ·cases h) CE
def MV:List V->Bool
 |[.int _ x0,.int _ x1]=>x1 != 0
 |_=>false
def Rx:aB:=qZ bZ MV fun
 |[.int _ x0,.int _ x1]=>GG x0 x1
 |_=>.any
theorem Tp:(vP Rx).Ok Tryz.prog 92:=lW (fun ds h=>by
 unfold MV at h
 split at h
 ·exact vb h
 ·cases h) DC
def Rt:List V->Bool
 |[.agg [.int _ x0,.int _ x1]]=>x1 != 0
 |_=>false
def KR:aB:=qZ [.agg bZ] Rt fun
 |[.agg [.int _ x0,.int _ x1]]=>FY x0 x1
 |_=>.any
theorem UI:(vP KR).Ok Tryz.prog 108:=lW (fun ds h=>by
 unfold Rt at h
 split at h
 ·exact vb h
 ·cases h) Cs
def On:List V->Bool
 |[.sl n0 f0]=>Nat.ble 1 n0
 |_=>false
def NS:aB:=qZ [.sl ae] On fun
 |[.sl n0 f0]=>vi (eI n0 f0)
 |_=>.any
theorem Uq:(vP NS).Ok Tryz.prog 143:=lW (fun ds h=>by
 unfold On at h
 split at h
 ·exact Nat.le_of_ble_eq_true h
 ·cases h) CQ
def Kp:List V->Bool
 |[.sl n0 f0]=>Nat.ble 1 n0
 |_=>false
def NR:aB:=qZ [.sl ae] Kp fun
 |[.sl n0 f0]=>vi (fB n0 f0)
 |_=>.any
theorem VS:(vP NR).Ok Tryz.prog 192:=lW (fun ds h=>by
 unfold Kp at h
 split at h
 ·exact Nat.le_of_ble_eq_true h
 ·cases h) Dl
def PO:List V->Bool
 |[.agg [.int _ x0,.int _ x1],.agg [.int _ x2,.int _ x3],.int _ x4,.int _ x5,.int _ x6]=>wI (x5-x4)!=0
 |_=>false
def Lj:aB:=qZ [.agg bZ,.agg bZ,tI,tI,tI] PO fun
 |[.agg [.int _ x0,.int _ x1],.agg [.int _ x2,.int _ x3],.int _ x4,.int _ x5,.int _ x6]=>EV x0 x1 x2 x3 x4 x5 x6
 |_=>.any
theorem TL:(vP Lj).Ok Tryz.prog 225:=lW (fun ds h=>by
 unfold PO at h
 split at h
 ·exact vb h
 ·cases h) Ee
end
end Go.Dx
namespace Go.Dx
open Go.Sx Go.RowKit
noncomputable section
end
end Go.Dx
namespace Go.Dx
open Go.Sx
theorem aZ.unhideG {B:cU} {m m':aD} {lh new:List ao} {w w':World} {X:List Nat} (h:aZ B m lh w)
 (h':aZ ⟨B.w0,w,fun b=>∃ k cs ty,k∉X/\lh[k]? = some (.cells cs ty)/\m k=some b,B.ds⟩ m' (hide X lh++new) w') (he:gJ (hide X lh) m (hide X lh++new) m') :
 aZ B m' (lh++new) w'/\gJ lh m (lh++new) m':=by
 have hent:∀ k o,(lh++new)[k]? = some o->((hide X lh++new)[k]? = some o)∨(k∈X/\lh[k]? = some o/\(hide X lh++new)[k]? = some .hid):=fun k o hk=>by
  rw [List.getElem?_append]at hk
  split at hk
  ·rename_i hlt
   rw [List.getElem?_append_left (by rw[Go.Sx.hide_length];exact hlt),Go.Sx.hide_get]
   by_cases hX:k∈X
   ·rw[if_pos hX,hk];exact .inr ⟨hX,rfl,rfl⟩
   ·rw[if_neg hX];exact .inl hk
  ·rename_i hge
   left
   rw [List.getElem?_append_right (by rw[Go.Sx.hide_length];omega),Go.Sx.hide_length];exact hk
 have hnoown:∀ k cs ty b,k∈X->lh[k]? = some (.cells cs ty)->m k=some b->¬ ∃ j cs ty,j∉X/\lh[j]? = some (ao.cells cs ty)/\m j=some b:=fun k cs ty b hX hk hb ⟨j,cs',ty',hj,hl,hb'⟩=>by
  exact hj (h.inj j k b cs' cs ty' ty hl hk hb' hb▸hX)
 refine ⟨⟨h'.os.trans h.os,h'.tape.trans h.tape,h'.output.trans h.output,h'.size,h'.old,Nat.le_trans h.fsize h'.fsize,fun b hb ho=>?_,fun k cs ty hk=>?_,fun k k' b cs cs' ty ty' h1 h2 hb hb'=>?_,fun k hk=>?_,fun k hk=>?_,h'.rng⟩,he.1,fun k hk=>?_⟩
 ·rw [h'.kept b (Nat.lt_of_lt_of_le hb h.fsize) (fun ⟨k,cs,ty,_,hl,hm⟩=>?_)]
  ·exact h.kept b hb ho
  ·obtain⟨b',_,hb',_,_,_,h3⟩:=h.loc k cs ty hl
   rw [hm]at hb';cases hb'
   rcases h3 with h3|h3
   ·omega
   ·exact ho h3
 ·rcases hent k _ hk with hl|⟨hX,hl,_⟩
  ·obtain ⟨b,vs,hb,hvs,hh,h1,h2⟩:=h'.loc k cs ty hl
   refine ⟨b,vs,hb,hvs,hh,h1,?_⟩
   rcases h2 with h2|⟨j,cs',ty',hj,hlj,hmj⟩
   ·exact .inl (Nat.le_trans h.fsize h2)
   ·obtain⟨b',_,hb',_,_,_,h3⟩:=h.loc j cs' ty' hlj
    rw [hmj]at hb';cases hb'
    exact h3
  ·obtain⟨b,vs,hb,hvs,hh,h1,h2⟩:=h.loc k cs ty hl
   refine ⟨b,vs,he.1 _ _ hb,cd he.1 _ _ hvs,?_,h1,h2⟩
   rw [h'.kept b (h.rng k b hb) (hnoown k cs ty b hX hl hb)]
   exact hh
 ·have mixed:∀ k k' b cs cs' ty ty',(hide X lh++new)[k]? = some (.cells cs ty)->k'∈X->lh[k']? = some (.cells cs' ty')->m' k=some b->m' k'=some b->False:=fun k k' b cs cs' ty ty' hl hX hl' hb hb'=>by
   obtain ⟨b0,_,hb0,_⟩:=h.loc k' cs' ty' hl'
   have e:=he.1 _ _ hb0
   rw [hb']at e;cases e
   obtain ⟨b1,_,hb1,_,_,_,h2⟩:=h'.loc k cs ty hl
   rw [hb]at hb1;cases hb1
   rcases h2 with h2|h2
   ·have h3:=h.rng k' b hb0
    have h4:w.heap.size<=b:=h2
    omega
   ·exact hnoown k' cs' ty' b hX hl' hb0 h2
  rcases hent k _ h1 with hl|⟨hX,hl,_⟩<;>rcases hent k' _ h2 with hl'|⟨hX',hl',_⟩
  ·exact h'.inj k k' b cs cs' ty ty' hl hl' hb hb'
  ·exact(mixed k k' b cs cs' ty ty' hl hX' hl' hb hb').elim
  ·exact(mixed k' k b cs' cs ty' ty hl' hX hl hb' hb).elim
  ·obtain⟨b0,_,hb0,_⟩:=h.loc k cs ty hl
   obtain ⟨b1,_,hb1,_⟩:=h.loc k' cs' ty' hl'
   have e:=he.1 _ _ hb0;rw[hb]at e;cases e
   have e:=he.1 _ _ hb1;rw[hb']at e;cases e
   exact h.inj k k' b cs cs' ty ty' hl hl' hb0 hb1
 ·exact h'.dom k (by rw[List.length_append]at hk ⊢;rw[Go.Sx.hide_length];exact hk)
 ·rcases hent k _ hk with hl|⟨hX,hl,hl'⟩
  ·exact h'.dead k hl
  ·have hd:=h.dead k hl
   have hh:(hide X lh)[k]? = some .hid:=by rw[Go.Sx.hide_get,if_pos hX,hl];rfl
   rw [(he.2 k hh).2];exact hd
 ·have hh:(hide X lh)[k]? = some .hid:=by
   rw [Go.Sx.hide_get];split
   ·rw[hk];rfl
   ·exact hk
  obtain ⟨h1,h2⟩:=he.2 k hh
  exact ⟨by rw[List.getElem?_append_left (List.getElem?_eq_some_iff.1 hk).1];exact hk,h2⟩
mutual
def dd:V->Prop
 |.int ..|.bool _|.kb _|.str _|.any=>True
 |.agg cs|.tup cs=>fO cs
 |.sl n f=>∀ i,i<n->fO (f i)
 |_=>False
def fO:List V->Prop
 |[]=>True
 |v::vs=>dd v/\fO vs
end
theorem R2:∀ (r v:V),dd r->ce v=ce r->v.fc=true->r.fc=true
 |.int ..,_,_,_,_=>rfl
 |.bool _,_,_,_,_=>rfl
 |.kb _,_,_,_,_=>rfl
 |.str _,_,_,_,_=>rfl
 |.any,_,_,_,_=>rfl
 |.sl ..,_,_,_,_=>rfl
 |.agg _,v,_,h,hf=>by cases v<;>first|(simp[ce]at h;done)|(cases hf;done)
 |.tup _,v,_,h,hf=>by cases v<;>first|(simp[ce]at h;done)|(cases hf;done)
 |.fn ..,_,hg,_,_=>by simp[dd]at hg
 |.pd ..,_,hg,_,_=>rfl
 |.pl ..,_,hg,_,_=>rfl
 |.pe ..,_,hg,_,_=>rfl
 |.ss ..,_,hg,_,_=>rfl
 |.gs ..,_,hg,_,_=>rfl
 |.ns,_,hg,_,_=>rfl
 |.np,_,hg,_,_=>rfl
 |.gd ..,_,hg,_,_=>by simp[dd]at hg
 |.yl ..,_,hg,_,_=>by simp[dd]at hg
 |.go ..,_,hg,_,_=>rfl
 |.sq ..,_,hg,_,_=>rfl
theorem Ab:∀ (rs vs:List V),fO rs->cj vs=cj rs->vs.all V.fc=true->rs.all V.fc=true
 |[],_,_,_,_=>rfl
 |r::rs,[],_,h,_=>by simp[cj]at h
 | r::rs,v::vs,hg,h,hf=>by
   simp only [cj,List.cons.injEq]at h
   simp only [fO]at hg
   simp only [List.all_cons,Bool.and_eq_true]at hf ⊢
   exact ⟨R2 r v hg.1 h.1 hf.1,Ab rs vs hg.2 h.2 hf.2⟩
section
variable {w0:World} {lh:List ao}
mutual
theorem eqA:∀ (r v:V) (a:af),dd r->ce v=ce r->vr w0 lh Nu.nil v a->vr w0 lh Nu.nil r a
 |.int k n,v,a,_,h,hv=>by cases v<;>simp only[ce]at h<;>cases h;exact hv
 |.bool b,v,a,_,h,hv=>by cases v<;>simp only[ce]at h<;>cases h<;>(simp only[vr]at hv ⊢;exact hv)
 |.kb b,v,a,_,h,hv=>by cases v<;>simp only[ce]at h<;>cases h<;>(simp only[vr]at hv ⊢;exact hv)
 |.str s,v,a,_,h,hv=>by cases v<;>simp only[ce]at h<;>cases h;exact hv
 |.any,v,a,_,_,_=>by simp only[vr]
 | .agg cs,v,a,hg,h,hv=>by
   cases v<;>simp only[ce,af.agg.injEq]at h<;>first|(cases h;done)|skip
   simp only [dd]at hg
   simp only [vr]at hv ⊢
   obtain ⟨az,e,hv⟩:=hv
   exact ⟨az,e,Ur cs _ az hg h hv⟩
 | .tup cs,v,a,hg,h,hv=>by
   cases v<;>simp only[ce,af.tup.injEq]at h<;>first|(cases h;done)|skip
   simp only [dd]at hg
   simp only [vr]at hv ⊢
   obtain ⟨az,e,hv⟩:=hv
   exact ⟨az,e,Ur cs _ az hg h hv⟩
 | .sl n f,v,a,hg,h,hv=>by
   cases v<;>first|(simp[ce]at h;done)|skip
   obtain ⟨rfl,hel⟩:=Eg h
   simp only [dd]at hg
   simp only [vr]at hv ⊢
   obtain ⟨p,c,esz,h1,h2,h3,h4,h5⟩:=hv
   refine ⟨p,c,esz,h1,h2,h3,h4,fun i hi=>?_⟩
   obtain ⟨q,az,g1,g2,g3,g4⟩:=h5 i hi
   exact ⟨q,az,g1,g2,Ur (f i) _ az (hg i hi) (hel i hi) g3,Ab _ _ (hg i hi) (hel i hi) g4⟩
 |.fn ..,_,_,hg,_,_=>by simp[dd]at hg
 |.pd ..,_,_,hg,_,_=>by simp[dd]at hg
 |.pl ..,_,_,hg,_,_=>by simp[dd]at hg
 |.pe ..,_,_,hg,_,_=>by simp[dd]at hg
 |.ss ..,_,_,hg,_,_=>by simp[dd]at hg
 |.gs ..,_,_,hg,_,_=>by simp[dd]at hg
 |.ns,_,_,hg,_,_=>by simp[dd]at hg
 |.np,_,_,hg,_,_=>by simp[dd]at hg
 |.gd ..,_,_,hg,_,_=>by simp[dd]at hg
 |.yl ..,_,_,hg,_,_=>by simp[dd]at hg
 |.go ..,_,_,hg,_,_=>by simp[dd]at hg
 |.sq ..,_,_,hg,_,_=>by simp[dd]at hg
theorem Ur:∀ (rs vs:List V) (az:List af),fO rs->cj vs=cj rs->bl w0 lh Nu.nil vs az->bl w0 lh Nu.nil rs az
 | [],vs,az,_,h,hv=>by
   cases vs with
   |nil=>exact hv
   |cons v vs=>simp[cj]at h
 | r :: rs,vs,az,hg,h,hv=>by
   cases vs with
   |nil=>simp[cj]at h
   | cons v vs =>
     simp only [cj,List.cons.injEq]at h
     simp only [fO]at hg
     simp only [bl]at hv ⊢
     obtain ⟨x,xs,e,h1,h2⟩:=hv
     exact ⟨x,xs,e,eqA r v x hg.1 h.1 h1,Ur rs vs xs hg.2 h.2 h2⟩
end
end
def IW:V->V
 |.sq n _ f=>.sl n f
 |v=>v
def sqs:V->V
 |.agg cs=>.agg (cs.map IW)
 |.tup cs=>.tup (cs.map IW)
 |v=>IW v
theorem Ge {w0:World} {lh:List ao} {ν:Nu} {v:V} {a:af} (h:vr w0 lh ν v a):vr w0 lh ν (IW v) a:=by
 unfold IW
 split
 ·simp only[vr]at h ⊢
  obtain ⟨p,c,esz,h1,h2,h3,h4,h5⟩:=h
  exact ⟨p,c,esz,h1,h2.1,h3,h4,h5⟩
 ·exact h
theorem uM {w0:World} {lh:List ao} {ν:Nu}:∀ {vs:List V} {qs:List af},bl w0 lh ν vs qs->bl w0 lh ν (vs.map IW) qs
 |[],qs,h=>by simp only[bl,List.map_nil]at h ⊢;exact h
 | v::vs,qs,h=>by
   simp only [bl,List.map_cons]at h ⊢
   obtain ⟨x,xs,e,h1,h2⟩:=h
   exact ⟨x,xs,e,Ge h1,uM h2⟩
theorem afU {w0:World} {lh:List ao} {ν:Nu} {v:V} {a:af} (h:vr w0 lh ν v a):vr w0 lh ν (sqs v) a:=by
 unfold sqs
 split
 ·simp only[vr]at h ⊢
  obtain ⟨qs,e,h⟩:=h
  exact ⟨qs,e,uM h⟩
 ·simp only[vr]at h ⊢
  obtain ⟨qs,e,h⟩:=h
  exact ⟨qs,e,uM h⟩
 ·exact Ge h
theorem HR.fz (w0:World) (l:List ao):HR w0 ⟨fun _=>Option.none,l⟩ 0 0 [] l:=⟨fun k o h=>by simp at h,fun k k' x x' _ _ h=>by(cases h),fun _ _=>rfl,fun _ _ h=>by(cases h),kz _,fun _ _ _ h=>by(cases h)⟩
theorem NU {l l1:List ao} {m m1:aD} (hz:tt l l1) (he:gJ l m l1 m1) (hl:∀ (k:Nat) (o:ao),l[k]? = some o->o=.hid∨∃ az ty,o=.cells az ty):l1=l++l1.drop l.length:=by
 have hp:∀ k o,l[k]? = some o->l1[k]? = some o:=fun k o hk=>by
  rcases hl k o hk with rfl|⟨az,ty,rfl⟩
  ·exact(he.2 k hk).1
  ·exact hz k az ty hk
 apply List.ext_getElem?; intro k
 rw [List.getElem?_append]
 split
 ·rename_i hlt
  have:l[k]? = some l[k]:=List.getElem?_eq_getElem hlt
  rw [hp k _ this,this]
 ·rename_i hge
  rw [List.getElem?_drop];congr 1;omega
theorem abz {α:Type} {P:Program} {eqs:List TypeId} {its:List gk} {ct:bj} {f:FuncId} {fn:Func} {sf:aC} {un:kw} {C:aB} {K0:V->List O->T α} {Q0:V->α->Prop} (hK0:∀ w0 r v h,bw (cV w0 (SV ct)) (K0 v h) (Q0 r)->RZ (oW h [v])/\ce (sqs (qF h v))=ce r) (hT:aW P eqs its ct) (hE:∀ t∈eqs,cD P t) (hI:kh P eqs its) (hf:P.funcs[f]? = some fn)
 (hn : (fn.name == "runtime.NumGoroutine") = false) (hc : dT P eqs its fn = some sf) (hd : eX sf.ntmps sf.body = true) (hg : ∀ ds d p r, C ds = some (d, p, r) -> d.1 = d.2 -> p -> dd r)
 (h:∀ w0 ds d p r,C ds=some (d,p,r)->d.1=d.2->p->bw (cV w0 (SV ct)) (mf (lV ct LV) (ln ct) un LV sf ds [] K0) (Q0 r)):(vZ C).Ok P f:=by
 refine ⟨fun B m lh w args vs K hrel hargs hsp=>?_,fun _ _ _ _ _ hk ⟨ds,d,p,r,X,h1,h2,h3,h4,h5,h6⟩=>⟨ds,d,p,r,X,h1,h2,h3,h4,h5,fun x new hx=>hk _ _ (h6 x new hx)⟩,fun _ _ _ _ ⟨_,_,_,_,_,_,_,_,_,⟨x,new,hx⟩,h6⟩=>h6 x new hx⟩
 obtain ⟨ds,d,p,r,X,h1,hX,h2,⟨h30,h3⟩,_,h6⟩:=hsp
 have hs:=nn (Sp:=fun w0 args l K=>∃ ds d p r,bl w0 l Nu.nil ds args/\C ds=some (d,p,r)/\(d.1=d.2/\p)/\∀ x l',tt l l'->vr w0 l' Nu.nil r x->K x l') (hT.ok hE hI LV) hE hI hf hn hc (fun w0 args l K hw ha ⟨ds,d,p,r,k1,k2,⟨k30,k3⟩,k4⟩=>by
  refine pO (ν:=⟨fun _=>none,l⟩) (nV:=0) (nS:=0) (nj w0 ct hT.dst LV) (nG w0 ct _ LV) hd (fX (fun k x h=>by cases h) ds args k1) (HR.fz w0 l) (h w0 ds d p r k2 k30 k3) fun v h' ν' a lh' q0 q1 q2 q3=>?_
  obtain ⟨b1,b2⟩:=hK0 _ _ _ _ q3
  have hh:=q1 0 0
  have hv:bl w0 lh' Nu.nil [qF h' v] [a]:=qd hh b1 (by simp only[bl];exact⟨_,_,rfl,q2,rfl⟩)
  simp only [bl]at hv
  obtain ⟨x,xs,e,hv,_⟩:=hv
  cases e
  exact ⟨a,lh',.inl ⟨rfl,(⟨.inr rfl,trivial⟩:kD [_] [_])⟩,k4 a lh' (nm q0.2 hh.zl) (eqA _ _ _ (hg _ _ _ _ k2 k30 k3) b2 (afU hv))⟩)
 obtain ⟨e1,e2⟩:=hs _ m (hide X lh) w args vs (fun r' l'=>tt (hide X lh) l'/\vr B.w0 l' Nu.nil r r') (hrel.hide X) hargs ⟨ds,d,p,r,h1,h2,⟨h30,h3⟩,fun x l' hz hx=>⟨hz,hx⟩⟩
 refine ⟨e1,e2.mono fun ee w' ⟨v,r',m1,l1,he,hv,hext,hr,hz,hx⟩=>?_⟩
 have hfull:=NU hz hext fun k o hk=>by
  rw [Go.Sx.hide_get]at hk
  split at hk
  ·cases hg:lh[k]? with
   |none=>rw[hg]at hk;cases hk
   |some o'=>rw[hg]at hk;cases hk;exact .inl rfl
  ·rename_i hkX
   rcases hX k hkX with hc|hc
   ·right
    rw [hk]at hc
    cases o with
    |cells az ty=>exact⟨az,ty,rfl⟩
    |_=>cases hc
   ·rw[List.getElem?_eq_none hc]at hk;cases hk
 generalize l1.drop (hide X lh).length=new at hfull
 subst hfull
 obtain ⟨g1,g2⟩:=aZ.unhideG hrel hr hext
 exact ⟨v,r',m1,lh++new,he,hv,g2,g1,h6 r' new hx⟩
theorem aj2 {P:Program} {f:FuncId} {e:Nat} {ty:TypeId} {C:aB} (h:(vL e ty C).Ok P f) (hL:∀ ds d p r,C ds=some (d,p,r)->d.1=d.2->p->VD e r/\∃ n f,r=.sl n f/\∀ i,i<n->(f i).all V.fc=true):(vN C).Ok P f:=by
 refine ⟨fun B m lh w args vs K hrel hargs ⟨ds,d,p,r,h1,h2,h3,h5,h6⟩=>?_,fun _ _ _ _ _ hk ⟨ds,d,p,r,h1,h2,h3,h4,h5⟩=>⟨ds,d,p,r,h1,h2,h3,h4,fun x new hx=>hk _ _ (h5 x new hx)⟩,fun w0 _ lh _ ⟨_,_,_,_,_,_,_,h4,h5⟩=>let ⟨x,new,hx⟩:=h4 w0 lh;h5 x new hx⟩
 obtain ⟨ho,n,f,rfl,hfc⟩:=hL _ _ _ _ h2 h3.1 h3.2
 have ho':=ho
 obtain ⟨n',f',hl,hmax,hel,_⟩:=ho'
 simp only [oC,Option.some.injEq,Prod.mk.injEq]at hl
 obtain ⟨rfl,rfl⟩:=hl
 refine h.sound B m lh w args vs K hrel hargs ⟨ds,d,p,_,n,f,h1,h2,h3,rfl,ho,fun x new hx=>?_⟩
 show K x (lh++new)
 refine h6 x new ?_
 simp only [vr]
 rcases hx with ⟨rfl,rfl⟩|⟨b,c,az,hb,hbl,rfl,hal,hnc,hall⟩
 ·exact⟨none,0,e,rfl,Nat.le_refl _,hmax,trivial,fun i hi=>absurd hi (Nat.not_lt_zero _)⟩
 ·have hbl':(List.replicate lh.length ao.dead++new)[b]? = some (.cells az ty):=by
   rw [List.getElem?_append_right (by simpa using hb)]
   rw [List.getElem?_append_right hb]at hbl
   simpa using hbl
  refine ⟨some (.l b 0),c,e,rfl,hnc,hmax,⟨az,ty,hbl',Nat.zero_le _⟩,fun i hi=>⟨.l b 0,cj (f i),rfl,?_,(en (hel i hi).2 _).2 rfl,hfc i hi⟩⟩
  have hle:i*e+e<=az.length:=by rw[hal,← Nat.succ_mul];exact Nat.mul_le_mul_right e (by omega)
  show lds B.w0 _ (.l b (0+i*e)) e=_
  rw [Nat.zero_add]
  simp only [lds,hbl']
  rw [if_pos hle,hall i hi]
theorem KS {e n:Nat} {f:Nat->List V} (ho:VD e (.sl n f)) (hfc:∀ i,i<n->(f i).all V.fc=true):okN (.sl n f):=fun w0 lh=>by
 obtain ⟨n',f',hl,hmax,hel,_⟩:=ho
 simp only [oC,Option.some.injEq,Prod.mk.injEq]at hl
 obtain ⟨rfl,rfl⟩:=hl
 obtain ⟨h1,h2⟩:=yb (e:=e) (f:=f) (n:=n) fun i hi=>by rw[uv];exact(lz (hel i hi).1).1
 refine ⟨.slice (some (.l lh.length 0)) n n,[.cells ((List.range n).flatMap fun i=>cj (f i)) 0],?_⟩
 simp only [vr]
 have hbl':(List.replicate lh.length ao.dead++[ao.cells ((List.range n).flatMap fun i=>cj (f i)) 0])[lh.length]? = some (.cells ((List.range n).flatMap fun i=>cj (f i)) 0):=by
  rw [List.getElem?_append_right (by simp)];simp
 refine ⟨some (.l lh.length 0),n,e,rfl,Nat.le_refl _,hmax,⟨_,0,hbl',Nat.zero_le _⟩,fun i hi=>⟨.l lh.length 0,cj (f i),rfl,?_,(en (hel i hi).2 _).2 rfl,hfc i hi⟩⟩
 have hle:i*e+e<=n*e:=by rw[← Nat.succ_mul];exact Nat.mul_le_mul_right e (by omega)
 show lds w0 _ (.l lh.length (0+i*e)) e=_
 rw [Nat.zero_add]
 simp only [lds,hbl']
 rw [if_pos (by rw[h1];exact hle),h2 i hi]
theorem apG {P:Program} {f:FuncId} {e:Nat} {ty:TypeId} {C:aB} (h:(vL e ty C).Ok P f) (hL:∀ ds d p r,C ds=some (d,p,r)->d.1=d.2->p->VD e r/\∃ n f,r=.sl n f/\∀ i,i<n->(f i).all V.fc=true):(vN C).Ok P f/\∀ ds d p r,C ds=some (d,p,r)->d.1=d.2->p->okN r :=
 ⟨aj2 h hL,fun ds d p r h1 h2 h3=>by obtain⟨ho,n,f,rfl,hfc⟩:=hL ds d p r h1 h2 h3;exact KS ho hfc⟩
end Go.Dx
namespace Go.Dx
open Go.Sx
section
variable {J:Type}
def KG (J:Type) (ct:bj) (un:kw) (sf:aC) (ds:List V):T (bO J):=mf (lV ct LV) (ln ct) un LV sf ds [] fun v h=>obs (oW h [v]) (.ret (.res (sqs (qF h v))))
theorem U6 {P:Program} {eqs:List TypeId} {its:List gk} {ct:bj} {f:FuncId} {fn:Func} {sf:aC} {un:kw} {ts:List Ty} {pre:List V->Prop} {r:List V->V} (hT:aW P eqs its ct) (hE:∀ t∈eqs,cD P t) (hI:kh P eqs its) (hf:P.funcs[f]? = some fn)
 (hn : (fn.name == "runtime.NumGoroutine") = false) (hc : dT P eqs its fn = some sf) (hd : eX sf.ntmps sf.body = true) (ho : fq ts = true) (hg : ∀ ds, pre (al ts ds) -> dd (r (al ts ds)))
 (h:∀ w0 ds,pre (al ts ds)->bw (cV w0 (SV ct)) (KG J ct un sf (al ts ds)) (pC (r (al ts ds)))):(vZ (bF ts pre r)).Ok P f:=by
 refine ⟨fun B m lh w args vs K hrel hargs hsp=>?_,fun _ _ _ _ _ hk ⟨ds,d,p,r,X,h1,h2,h3,h4,h5,h6⟩=>⟨ds,d,p,r,X,h1,h2,h3,h4,h5,fun x new hx=>hk _ _ (h6 x new hx)⟩,fun _ _ _ _ ⟨_,_,_,_,_,_,_,_,_,⟨x,new,hx⟩,h6⟩=>h6 x new hx⟩
 obtain ⟨ds,d,p,r',X,h1,hX,h2,⟨h30,h3⟩,h5,h6⟩:=hsp
 simp only [bF,Option.some.injEq,Prod.mk.injEq]at h2
 obtain ⟨rfl,rfl,rfl⟩:=h2
 have hty:=(iB ts ds [] [] ho h30).1
 rw [(fH ts ds [] [] h30).1]at h3 h5 h6
 have key2:=abz (C:=fun ds'=>some ((ds',al ts ds),pre (al ts ds),r (al ts ds))) (P:=P) (f:=f) (un:=un) (K0:=fun v h=>obs (oW h [v]) (T.ret (bO.res (J:=J) (sqs (qF h v))))) (Q0:=pC (J:=J)) (fun w0 r v h hs=>⟨(vg hs).1,by have h2:=(vg hs).2;simp only[bw,pC]at h2;exact h2⟩) hT hE hI hf hn hc hd (fun ds' d' p' r' e he hp=>by
  simp only [Option.some.injEq,Prod.mk.injEq]at e
  obtain ⟨rfl,rfl,rfl⟩:=e
  exact hg ds hp) (fun w0 ds' d' p' r' e he hp=>by
  simp only [Option.some.injEq,Prod.mk.injEq]at e
  obtain ⟨rfl,rfl,rfl⟩:=e
  simp only at he
  subst he
  exact h w0 ds hp)
 exact key2.sound B m lh w args vs K hrel hargs ⟨al ts ds,_,_,_,X,eF ts ds args hty h1,hX,rfl,⟨rfl,h3⟩,h5,h6⟩
theorem yq {ts:List Ty} {pre:List V->Prop} {r:List V->V} (hL:∀ ds,bp ts ds->pre (al ts ds)->∀ w0 lh args,bl w0 lh Nu.nil (al ts ds) args->∃ x new,vr w0 (lh++new) Nu.nil (r (al ts ds)) x) (ho:fq ts=true):∀ ds d p r',bF ts pre r ds=some (d,p,r')->d.1=d.2->p->∀ w0 lh args,bl w0 lh Nu.nil ds args->∃ x new,vr w0 (lh++new) Nu.nil r' x:=by
 intro ds d p r' h h1 h2 w0 lh args ha
 simp only [bF,Option.some.injEq,Prod.mk.injEq]at h
 obtain ⟨rfl,rfl,rfl⟩:=h
 have hty:=(iB ts ds [] [] ho h1).1
 rw [(fH ts ds [] [] h1).1]at h2 ⊢
 exact hL ds hty h2 w0 lh args (eF ts ds args hty ha)
end
theorem DG {w0:World} {lh:List ao} {e n:Nat} {f:Nat->List V} (hn:n<=9223372036854775807) (hel:∀ i,i<n->lk e (f i)=true/\(cj (f i)).all bo=true/\(f i).all V.fc=true):∃ x new,vr w0 (lh++new) Nu.nil (.sl n f) x:=by
 obtain ⟨x,new,hx⟩:=KS (e:=e) (n:=n) (f:=f) ⟨n,f,rfl,hn,fun i hi=>⟨(hel i hi).1,(hel i hi).2.1⟩,by simp[C0,cj]⟩ (fun i hi=>(hel i hi).2.2) w0 lh
 refine ⟨x,new,kM (fun k az ty hk=>?_) _ x hx⟩
 rw [List.getElem?_append]at hk
 split at hk
 ·rename_i hlt
  simp at hlt
  simp [hlt]at hk
 ·rename_i hge
  simp at hge
  rw [List.getElem?_append_right hge]
  simpa using hk
end Go.Dx
namespace Go.Dx
open Go.IntKind (i64 u64 u8)
open Go.Sx Go.Proofs
variable (n0:Nat) (f0:aN) (x0:Int) (s0:ByteArray) (n1:Nat) (f1:aN) (x1 x2:Int) (n3:Nat) (f3:aN) (x3 x4:Int) (n5:Nat) (f5:aN) (x5 x7 x8:Int) (n9:Nat) (f9:aN) (x9 x10:Int) (n11:Nat) (f11:aN) (x11 x13 x14 x15:Int)
noncomputable section
def zb:bj:=(111,.con MA)::(226,.con El)::(225,.con LH)::(165,.con G1)::o4
theorem GB:aW Tryz.prog eqs its zb:=.con JR (.con C8 (.con Ee (.con DJ (nd))))
inductive sC where
 |L0 (ia0:Int) (na1:Nat) (fa2:Nat->List V)
def WI:sC->bz×List O×Option Ex
 |.L0 ia0 na1 fa2=>([(9,vi ia0),(8,vi (↑n0:Int)),(7,V.sl n0 (aa ae f0)),(4,V.gs 0 na1),(1,V.pd [vi x2])],[O.gl 1 na1 (aa ae fa2) 3],none)
def afM:sC->JJ
 |.L0 ia0 na1 fa2=>(0,[])
def OH:T (bO JJ):=Qr JJ 1 3 zb u0 aed [V.sl n0 (aa ae f0),V.pd [vi x2]]
def AD (cx:List Cx):Lp JJ:=eR (ej (OH n0 f0 x2) [])
def ahG:JJ->Lp JJ
 |(0,cx)=>AD n0 f0 x2 cx
 |(_,cx)=>AD n0 f0 x2 cx
def akT:LD JJ sC:=⟨afM,ahG n0 f0 x2,WI n0 f0 x2⟩
def zI:sC->RT sC
 |.L0 ia0 na1 fa2=>.br (decide (ia0<(↑n0:Int))) (.ob (dI ia0 n0) (.obt (.ob (decide (na1<=na1/\(na1+1)*8<=140737488355328)&&!Nat.beq 8 0) (.next [some (some 2)] (sC.L0 (wI (ia0+1)) (na1+1) (bG na1 (aa ae fa2) fun x=>[vi (wI (ar (f0 ia0.toNat)*x2))])) [⟨0,ae,na1+1,bG na1 (aa ae fa2) fun x=>[vi (wI (ar (f0 ia0.toNat)*x2))],G0 (ew rfl _ _) (Al rfl _ rfl)⟩])))) (.ob (decide (na1<=na1)) (.ret (V.sl na1 (aa ae fa2))))
def Ka:RT sC:=dm (f0,x2) (.am n0 (.enter [some none] (sC.L0 (0) (0) (fun i=>[])) []))
theorem VL:dD zb u0 (akT n0 f0 x2) (OH n0 f0 x2) (Ka n0 f0 x2) (zI n0 f0 x2):=⟨⟨by kernel_rfl,by kernel_rfl⟩,fun s=>by cases s<;>exact⟨by kernel_rfl,by kernel_rfl⟩⟩
def cK (h:Int):Nat->List V:=fun i=>[vi (wI (ar (f0 i)*h))]
theorem yV {n:Nat} {f g:Nat->List V} (h:∀ i,i<n->cj (f i)=cj (g i)):ce (.sl n f)=ce (.sl n g):=by
 simp only [ce]
 congr 1
 exact List.map_congr_left fun i hi=>by rw[h i (List.mem_range.1 hi)]
theorem W6 {ts:List Ty} {pre:List V->Prop} {r:List V->V} {Q:V->Prop} (hL:∀ ds,pre (al ts ds)->Q (r (al ts ds))):∀ ds d p r',bF ts pre r ds=some (d,p,r')->d.1=d.2->p->Q r':=by
 intro ds d p r' h h1 h2
 simp only [bF,Option.some.injEq,Prod.mk.injEq]at h
 obtain ⟨rfl,rfl,rfl⟩:=h
 rw [(fH ts ds [] [] h1).1]at h2 ⊢
 exact hL ds h2
theorem FN {a b:Nat} (h:a<b):Nat.blt a b=true:=Nat.ble_eq_true_of_le h
theorem NP {a b:Nat} (h:b<=a):Nat.blt a b=false:=by
 cases hb:Nat.blt a b with
 |false=>rfl
 |true=>have:=Nat.le_of_ble_eq_true hb;omega
theorem ajG (h24:n0<=1000):∀ k,k<=n0->∀ f:Nat->List V,(∀ j,j<k->al ae (f j)=cK f0 x2 j)->Ev (zI n0 f0 x2) (.L0 (k:Int) k f) (.sl n0 (aa ae (cK f0 x2))):=by
 refine cO fun k hk ih f hf=>?_
 refine Ev.of rfl ?_
 by_cases hlt:k<n0
 ·have hk1:wI ((k:Int)+1)=((k+1:Nat):Int):=by rw[wrapI (by omega) (by omega)];omega
  refine eG (dqt (by omega)) (aE (dqt (by omega)) (evObt (aE ?_ (aK ?_))))
  ·simp only[Bool.and_eq_true];exact⟨dqt ⟨Nat.le_refl _,by omega⟩,rfl⟩
  ·rw [hk1,Int.toNat_natCast]
   refine ih hlt _ fun j hj=>?_
   unfold bG
   by_cases hjk:j<k
   ·rw[FN hjk];show al _ (al _ (f j))=_;rw[dz];exact hf j hjk
   ·have:j=k:=by omega
    subst this
    rw [NP (Nat.le_refl _)];rfl
 ·have e:k=n0:=by omega
  subst e
  refine ed (gx (by omega)) (aE (dqt (Nat.le_refl _)) (evRet ?_))
  exact yV fun i hi=>by show cj (al _ (f i))=cj (al _ (cK f0 x2 i));rw[hf i hi];rfl
theorem Ml (hp:n0<=1000):aR (Ev (zI n0 f0 x2)) (Ka n0 f0 x2) (.sl n0 (aa ae (cK f0 x2))):=bg fun _=>aF (ajG n0 f0 x2 hp 0 (Nat.zero_le _) _ fun j hj=>absurd hj (Nat.not_lt_zero _))
theorem afp (hp:n0<=1000):aR (Ev (zI n0 f0 x2)) (Ka n0 f0 x2) (.sl n0 (aa ae (cK (aa ae f0) x2))):=Ml n0 f0 x2 hp
def Vp:List Ty:=[.sl ae,.pd ae]
def al2:List V->Prop
 |[.sl n0 _,.pd [.int _ _]]=>n0<=1000
 |_=>False
def ajK:List V->V
 |[.sl n0 f0,.pd [.int _ x2]]=>.sl n0 (aa ae (cK f0 x2))
 |_=>.any
def xq:aB:=bF Vp al2 ajK
theorem tY (f:Nat->List V) (h:Int) (i:Nat):lk 1 (aa ae (cK f h) i)=true/\(cj (aa ae (cK f h) i)).all bo=true/\(aa ae (cK f h) i).all V.fc=true:=by
 refine ⟨rfl,?_,rfl⟩
 show (cj [vi _]).all bo=true
 simp only [cj,ce,List.all_cons,bo,List.all_nil,Bool.and_self]
theorem Ff:∀ ds d p r,xq ds=some (d,p,r)->d.1=d.2->p->VD 1 r/\∃ n f,r=.sl n f/\∀ i,i<n->(f i).all V.fc=true:=W6 (Q:=fun r=>VD 1 r/\∃ n f,r=.sl n f/\∀ i,i<n->(f i).all V.fc=true) fun ds hp=>by
 have hp:au (ap ds)<=1000:=hp
 exact ⟨⟨_,_,rfl,(by omega:au (ap ds)<=9223372036854775807),fun i hi=>⟨(tY _ _ i).1,(tY _ _ i).2.1⟩,(by simp only[cj,List.all_nil]:(cj []).all bo=true)⟩,_,_,rfl,fun i hi=>(tY _ _ i).2.2⟩
theorem HY:(vL 1 3 xq).Ok Tryz.prog 166:=arc GB Tryz.func166 (by kernel_rfl) fun ds hp=>iS (VL ..) (afp _ _ _ hp)
theorem J5:(vN xq).Ok Tryz.prog 166:=aj2 HY Ff
theorem EX:∀ ds d p r,xq ds=some (d,p,r)->d.1=d.2->p->okN r:=(apG HY Ff).2
def Ei:bj:=(166,.conN xq EX)::zb
theorem G3:aW Tryz.prog eqs its Ei:=.conN J5 (GB)
def Zm:RT Empty:=.obp (n1<=(1000:Nat)) (.obp (n3<=(1000:Nat)) (.ret (V.agg [V.str s0,V.sl n1 (aa ae f1),V.sl n3 (aa ae f3),V.sl n5 (aa [Ty.sl ae] f5),vi x7,vi x8,V.sl n1 (aa ae (cK (aa ae f1) x9)),V.sl n3 (aa ae (cK (aa ae f3) x9)),vi x9])))
theorem VV:cJ cL (KG JJ Ei u0 ahL [V.agg [V.str s0,V.sl n1 (aa ae f1),V.sl n3 (aa ae f3),V.sl n5 (aa [Ty.sl ae] f5),vi x7,vi x8],vi x9]) (Zm s0 n1 f1 n3 f3 n5 f5 x7 x8 x9):=⟨by kernel_rfl,by kernel_rfl⟩
theorem adj {ct:bj} {f:FuncId} {fn:Func} {sf:aC} {un:kw} {ts:List Ty} {pre:List V->Prop} {r:List V->V} (hT:aW Tryz.prog eqs its ct) (hf:Tryz.prog.funcs[f]? = some fn) (hk:fnQ fn sf ts=(false,some sf,true,true)) (hg:∀ ds,pre (al ts ds)->dd (r (al ts ds))) (h:∀ ds,pre (al ts ds)->Run ct (KG JJ ct un sf (al ts ds)) (r (al ts ds))):(vZ (bF ts pre r)).Ok Tryz.prog f :=
 U6 (J:=JJ) (un:=un) hT hE hI hf (d9 hk).1 (d9 hk).2.1 (d9 hk).2.2.1 (d9 hk).2.2.2 hg fun w0 ds hp=>h ds hp hT.dst w0
def yH:List Ty:=[.agg ak,tI]
def X7:List V->Prop
 |[.agg [.str _,.sl n1 _,.sl n3 _,.sl _ _,.int _ _,.int _ _],.int _ _]=>n1<=1000/\n3<=1000
 |_=>False
def NJ:List V->V
 |[.agg [.str s0,.sl n1 f1,.sl n3 f3,.sl n5 f5,.int k7 x7,.int k8 x8],.int _ x9]=>.agg [.str s0,.sl n1 f1,.sl n3 f3,.sl n5 f5,.int k7 x7,.int k8 x8,.sl n1 (aa ae (cK f1 x9)),.sl n3 (aa ae (cK f3 x9)),vi x9]
 |_=>.any
def Eu:aB:=bF yH X7 NJ
theorem ahA (hp:n1<=1000/\n3<=1000):aR cq (Zm s0 n1 f1 n3 f3 n5 f5 x7 x8 x9) (.agg [V.str s0,V.sl n1 (aa ae f1),V.sl n3 (aa ae f3),V.sl n5 (aa [Ty.sl ae] f5),vi x7,vi x8,V.sl n1 (aa ae (cK (aa ae f1) x9)),V.sl n3 (aa ae (cK (aa ae f3) x9)),vi x9]):=evObp hp.1 (evObp hp.2 (evRet rfl))
theorem iq (vs:List V):fO (al ae vs):=by
 show fO [V.int _ _]
 simp only [fO,dd,and_self]
theorem xe (vs:List V):fO (al [Ty.sl ae] vs):=by
 show fO [V.sl (au (ap vs)) (aa ae (aX (ap vs)))]
 simp only [fO,dd,and_true]
 exact fun i hi=>iq _
theorem Lk (ds:List V):dd (NJ (al yH ds)):=by
 show dd (.agg [V.str _,V.sl _ (aa ae _),V.sl _ (aa ae _),V.sl _ (aa [Ty.sl ae] _),V.int _ _,V.int _ _,V.sl _ (aa ae _),V.sl _ (aa ae _),V.int _ _])
 simp only [dd,fO,true_and,and_true]
 exact ⟨fun i hi=>iq _,fun i hi=>iq _,fun i hi=>xe _,fun i hi=>iq _,fun i hi=>iq _⟩
theorem zC:∀ ds d p r,Eu ds=some (d,p,r)->d.1=d.2->p->∀ w0 lh args,bl w0 lh Nu.nil ds args->∃ x new,vr w0 (lh++new) Nu.nil r x:=yq (fun ds hty hp w0 lh args ha=>by
 have hp:au (ap (ab (dJ (ap ds))))<=1000/\au (ap (ab (ab (dJ (ap ds)))))<=1000:=hp
 change bl w0 lh Nu.nil [V.agg [V.str _,V.sl _ _,V.sl _ _,V.sl _ _,V.int _ _,V.int _ _],V.int _ _] args at ha
 simp only [bl]at ha
 obtain ⟨a,as1,rfl,h1,b,bs,rfl,h2,rfl⟩:=ha
 rw [vr.eq_5]at h1
 obtain ⟨cs,rfl,h1⟩:=h1
 simp only [bl]at h1
 obtain ⟨c0,_,rfl,g0,c1,_,rfl,g1,c2,_,rfl,g2,c3,_,rfl,g3,c4,_,rfl,g4,c5,_,rfl,g5,rfl⟩:=h1
 obtain ⟨x6,new6,g6⟩:=DG (w0:=w0) (lh:=lh) (e:=1) (n:=au (ap (ab (dJ (ap ds))))) (f:=aa ae (cK (aa ae (aX (ap (ab (dJ (ap ds)))))) (aQ ds))) (by omega) fun i hi=>tY _ _ i
 obtain ⟨x7,new7,g7⟩:=DG (w0:=w0) (lh:=lh++new6) (e:=1) (n:=au (ap (ab (ab (dJ (ap ds)))))) (f:=aa ae (cK (aa ae (aX (ap (ab (ab (dJ (ap ds))))))) (aQ ds))) (by omega) fun i hi=>tY _ _ i
 have z:∀ (l t:List ao),tt l (l++t):=fun l t k as1 ty hk=>by rw[List.getElem?_append_left (List.getElem?_eq_some_iff.1 hk).1];exact hk
 have up:∀ v a,vr w0 lh Nu.nil v a->vr w0 (lh++(new6++new7)) Nu.nil v a:=fun v a h=>kM (z _ _) v a h
 refine ⟨.agg [c0,c1,c2,c3,c4,c5,x6,x7,af.int .i64 (aQ ds)],new6++new7,?_⟩
 show vr w0 _ Nu.nil (.agg [V.str _,V.sl _ _,V.sl _ _,V.sl _ _,V.int _ _,V.int _ _,V.sl _ _,V.sl _ _,V.int _ _]) _
 rw [vr.eq_5]
 simp only [bl]
 refine ⟨_,rfl,_,_,rfl,up _ _ g0,_,_,rfl,up _ _ g1,_,_,rfl,up _ _ g2,_,_,rfl,up _ _ g3,_,_,rfl,up _ _ g4,_,_,rfl,up _ _ g5,_,_,rfl,?_,_,_,rfl,?_,_,_,rfl,?_,rfl⟩
 ·rw[← List.append_assoc];exact kM (z _ _) _ _ g6
 ·rw[← List.append_assoc];exact g7
 ·simp only[vr]) rfl
theorem DT:(vZ Eu).Ok Tryz.prog 89:=adj G3 Tryz.func89 (by kernel_rfl) (fun ds _=>Lk ds) fun ds hp=>cQ (VV ..) (ahA _ _ _ _ _ _ _ _ _ _ hp)
def od:bj:=(309,.inl PZ u0)::(89,.conZ Eu zC)::Ei
theorem lI:aW Tryz.prog eqs its od:=fZ Tryz.func309 (by kernel_rfl) (.conZ DT (G3))
def Y6:RT Empty:=.br (x0 != x0) (.ob (x0 != x0) (.ii (.obi (.ret (V.bool (bif !x1 != x1 then true else decide (x0<x1))))))) (.ret (V.bool (decide (x0<x1))))
theorem SH:cJ cL (aP JJ od u0 LL [vi x0,vi x1]) (Y6 x0 x1):=⟨by kernel_rfl,by kernel_rfl⟩
def nf:Bool:=bif x0 != x0 then bif !x1 != x1 then true else decide (x0<x1) else decide (x0<x1)
def EL:V:=.bool (nf x0 x1)
theorem abr:aR cq (Y6 x0 x1) (EL x0 x1):=evBr (fun h0=>aE (by first|assumption|(fail)) (evObi (evObi (evObi (evRet (by unfold EL nf;try rw[h0];rfl)))))) (fun h0=>evRet (by unfold EL nf;try rw[h0];rfl))
def Zz:aB:=bF bZ (fun _=>True) fun
 |[.int _ x0,.int _ x1]=>EL x0 x1
 |_=>.any
theorem adp:(vP Zz).Ok Tryz.prog 283:=bV lI Tryz.func283 (by kernel_rfl) fun ds hp=>cQ (SH ..) (abr _ _)
def Zd:RT Empty:=.ret (V.bool (x0 != x0))
theorem Xc:cJ cL (aP JJ od u0 MM [vi x0]) (Zd x0):=⟨by kernel_rfl,by kernel_rfl⟩
def lB:Bool:=x0 != x0
def Re:V:=.bool (lB x0)
theorem af9:aR cq (Zd x0) (Re x0):=evRet (by unfold Re lB;rfl)
def YK:aB:=bF ae (fun _=>True) fun
 |[.int _ x0]=>Re x0
 |_=>.any
theorem aco:(vP YK).Ok Tryz.prog 284:=bV lI Tryz.func284 (by kernel_rfl) fun ds hp=>cQ (Xc ..) (af9 _)
def aaJ:RT Empty:=.cb (.obi (.br (!!av x0 0 200000) (.ob (!!av x0 0 200000) (.cb (.obi (.br (!!av x1 0 600) (.ob (!!av x1 0 600) (.cb (.ret (V.bool !av x2 0 1000)))) (.ret (V.kb true)))))) (.ret (V.kb true))))
theorem SG:cJ cL (aP JJ od u0 NW [V.agg [vi x0,vi x1,vi x2]]) (aaJ x0 x1 x2):=⟨by kernel_rfl,by kernel_rfl⟩
def eV:Bool:=bif !!av x0 0 200000 then bif !!av x1 0 600 then !av x2 0 1000 else true else true
def BV:V:=.bool (eV x0 x1 x2)
theorem agQ:aR cq (aaJ x0 x1 x2) (BV x0 x1 x2):=aw (evObt (evObi (evBr (fun h0=>aE (by first|assumption|(fail)) (aw (evObt (evObi (evBr (fun h1=>aE (by first|assumption|(fail)) (aw (evObt (evRet (by unfold BV eV;try rw[h0];try rw[h1];rfl))))) (fun h1=>evRet (by unfold BV eV;try rw[h0];try rw[h1];rfl))))))) (fun h0=>evRet (by unfold BV eV;try rw[h0];rfl)))))
def Yr:aB:=bF [.agg bQ] (fun _=>True) fun
 |[.agg [.int _ x0,.int _ x1,.int _ x2]]=>BV x0 x1 x2
 |_=>.any
theorem ago:(vP Yr).Ok Tryz.prog 86:=bV lI Tryz.func86 (by kernel_rfl) fun ds hp=>cQ (SG ..) (agQ _ _ _)
def X2:RT Empty:=.cb (.obi (.br (!!aA x0 0 200000) (.ob (!!aA x0 0 200000) (.cb (.obi (.br (!!aA x1 0 600) (.ob (!!aA x1 0 600) (.cb (.br (!aA x2 0 1000) (.ret (vi 7)) (.ret (vi 0))))) (.ret (vi 7)))))) (.ret (vi 7))))
theorem R7:cJ cL (aP JJ od u0 aeL [V.agg [vi x0,vi x1,vi x2]]) (X2 x0 x1 x2):=⟨by kernel_rfl,by kernel_rfl⟩
def dt:Int:=bif !!aA x0 0 200000 then bif !!aA x1 0 600 then bif !aA x2 0 1000 then 7 else 0 else 7 else 7
def wx:V:=vi (dt x0 x1 x2)
theorem aeB:aR cq (X2 x0 x1 x2) (wx x0 x1 x2):=aw (evObt (evObi (evBr (fun h0=>aE (by first|assumption|(fail)) (aw (evObt (evObi (evBr (fun h1=>aE (by first|assumption|(fail)) (aw (evObt (evBr (fun h2=>evRet (by unfold wx dt;try rw[h0];try rw[h1];try rw[h2];rfl)) (fun h2=>evRet (by unfold wx dt;try rw[h0];try rw[h1];try rw[h2];rfl)))))) (fun h1=>evRet (by unfold wx dt;try rw[h0];try rw[h1];rfl))))))) (fun h0=>evRet (by unfold wx dt;try rw[h0];rfl)))))
def aaW:aB:=bF [.agg bQ] (fun _=>True) fun
 |[.agg [.int _ x0,.int _ x1,.int _ x2]]=>wx x0 x1 x2
 |_=>.any
theorem aga:(vP aaW).Ok Tryz.prog 178:=bV lI Tryz.func178 (by kernel_rfl) fun ds hp=>cQ (R7 ..) (aeB _ _ _)
def X1:RT Empty:=.cb (.ret (V.bool (aA x0 (-200000) 200000)))
theorem R8:cJ cL (aP JJ od u0 afC [vi x0]) (X1 x0):=⟨by kernel_rfl,by kernel_rfl⟩
def da:Bool:=aA x0 (-200000) 200000
def Rp:V:=.bool (da x0)
theorem abo:aR cq (X1 x0) (Rp x0):=aw (evObt (evRet (by unfold Rp da;rfl)))
def Yh:aB:=bF ae (fun _=>True) fun
 |[.int _ x0]=>Rp x0
 |_=>.any
theorem acZ:(vP Yh).Ok Tryz.prog 258:=bV lI Tryz.func258 (by kernel_rfl) fun ds hp=>cQ (R8 ..) (abo _)
def aaT:RT Empty:=.ret (V.tup [vi (wI (wI (x0*wI (wI (x3*x5)-x4))+wI (x1*wI (x4-wI (x2*x5))))),vi (wI (wI (x3-x2)*x5))])
theorem Xv:cJ cL (aP JJ od u0 abt [vi x0,vi x1,vi x2,vi x3,vi x4,vi x5]) (aaT x0 x1 x2 x3 x4 x5):=⟨by kernel_rfl,by kernel_rfl⟩
def dj:Int:=wI (wI (x0*wI (wI (x3*x5)-x4))+wI (x1*wI (x4-wI (x2*x5))))
def b5:Int:=wI (wI (x3-x2)*x5)
def MZ:V:=.tup [vi (dj x0 x1 x2 x3 x4 x5),vi (b5 x2 x3 x5)]
theorem ahg:aR cq (aaT x0 x1 x2 x3 x4 x5) (MZ x0 x1 x2 x3 x4 x5):=evRet (by unfold MZ dj b5;rfl)
def XP:aB:=bF [tI,tI,tI,tI,tI,tI] (fun _=>True) fun
 |[.int _ x0,.int _ x1,.int _ x2,.int _ x3,.int _ x4,.int _ x5]=>MZ x0 x1 x2 x3 x4 x5
 |_=>.any
theorem ady:(vP XP).Ok Tryz.prog 286:=bV lI Tryz.func286 (by kernel_rfl) fun ds hp=>cQ (Xv ..) (ahg _ _ _ _ _ _)
def aao:RT Empty:=.cb (.iv (.br (!!av x4 1 30000) (.ob (!!av x4 1 30000) (.ob (!!av x4 1 30000) (.ob (!!av x4 1 30000) (.ob (!!av x4 1 30000) (.cb (.br (!dF 4 (aa ae (bn [vi x0,vi x1,vi x2,vi x3] 0 1)) (-200000) 200000) (.ret (vi 7)) (.iv (.obi (.br (bif decide (x1<x0) then true else decide (x3<x2)) (.ret (vi 2)) (.ret (vi 0))))))))))) (.ret (vi 7))))
theorem UG:cJ cL (aP JJ od u0 JI [V.agg [vi x0,vi x1,vi x2,vi x3],vi x4]) (aao x0 x1 x2 x3 x4):=⟨by kernel_rfl,by kernel_rfl⟩
def fm:Int:=bif !!av x4 1 30000 then bif !dF 4 (aa ae (bn [vi x0,vi x1,vi x2,vi x3] 0 1)) (-200000) 200000 then 7 else bif bif decide (x1<x0) then true else decide (x3<x2) then 2 else 0 else 7
def xt:V:=vi (fm x0 x1 x2 x3 x4)
theorem agD:aR cq (aao x0 x1 x2 x3 x4) (xt x0 x1 x2 x3 x4):=aw (evObt (evObi (evObi (evObi (evObi (evBr (fun h0=>aE (by first|assumption|(fail)) (aE (by first|assumption|(fail)) (aE (by first|assumption|(fail)) (aE (by first|assumption|(fail)) (aw (evObt (evBr (fun h1=>evRet (by unfold xt fm;try rw[h0];try rw[h1];rfl)) (fun h1=>evObi (evObi (evObi (evObi (evObi (evBr (fun h2=>evRet (by unfold xt fm;try rw[h0];try rw[h1];try rw[h2];rfl)) (fun h2=>evRet (by unfold xt fm;try rw[h0];try rw[h1];try rw[h2];rfl))))))))))))))) (fun h0=>evRet (by unfold xt fm;try rw[h0];rfl))))))))
def aag:aB:=bF [.agg je,tI] (fun _=>True) fun
 |[.agg [.int _ x0,.int _ x1,.int _ x2,.int _ x3],.int _ x4]=>xt x0 x1 x2 x3 x4
 |_=>.any
theorem agL:(vP aag).Ok Tryz.prog 87:=bV lI Tryz.func87 (by kernel_rfl) fun ds hp=>cQ (UG ..) (agD _ _ _ _ _)
def Ys:RT Empty:=dm (s0,n5,f5,x7,x8) (.ob (decide ((0:Int)<=0/\0<(↑n1:Int))) (.ii (.obi (.asm (decide (wI (ar (f1 0)*x11)<=x9)=true->n1<=9223372036854775807) (.ii (.obi (.obj (decide (wI (ar (f1 0)*x11)<=x9)) (dI (wI ((↑n1:Int)-1)) n1) (.iv (.iv (.obj (bif decide (wI (ar (f1 0)*x11)<=x9) then decide (x9<=wI (ar (f1 (wI ((↑n1:Int)-1)).toNat)*x11)) else false) (decide ((0:Int)<=0/\0<(↑n3:Int))) (.iv (.iv (.obi (.asm ((bif bif decide (wI (ar (f1 0)*x11)<=x9) then decide (x9<=wI (ar (f1 (wI ((↑n1:Int)-1)).toNat)*x11)) else false then decide (wI (ar (f3 0)*x11)<=x10) else false)=true->n3<=9223372036854775807) (.ii (.obi (.obj (bif bif decide (wI (ar (f1 0)*x11)<=x9) then decide (x9<=wI (ar (f1 (wI ((↑n1:Int)-1)).toNat)*x11)) else false then decide (wI (ar (f3 0)*x11)<=x10) else false) (dI (wI ((↑n3:Int)-1)) n3) (.iv (.ii (.ret (V.bool (bif bif bif decide (wI (ar (f1 0)*x11)<=x9) then decide (x9<=wI (ar (f1 (wI ((↑n1:Int)-1)).toNat)*x11)) else false then decide (wI (ar (f3 0)*x11)<=x10) else false then decide (x10<=wI (ar (f3 (wI ((↑n3:Int)-1)).toNat)*x11)) else false))))))))))))))))))))))
theorem We:cJ cL (aP JJ od u0 afk [V.agg [V.str s0,V.sl n1 (aa ae f1),V.sl n3 (aa ae f3),V.sl n5 (aa [Ty.sl ae] f5),vi x7,vi x8],vi x9,vi x10,vi x11]) (Ys s0 n1 f1 n3 f3 n5 f5 x7 x8 x9 x10 x11):=⟨by kernel_rfl,by kernel_rfl⟩
def eB:Bool:=bif bif bif decide (wI (ar (f1 0)*x11)<=x9) then decide (x9<=wI (ar (f1 (wI ((↑n1:Int)-1)).toNat)*x11)) else false then decide (wI (ar (f3 0)*x11)<=x10) else false then decide (x10<=wI (ar (f3 (wI ((↑n3:Int)-1)).toNat)*x11)) else false
def R1260:V:=dm (s0,n5,f5,x7,x8) (.bool (eB n1 f1 n3 f3 x9 x10 x11))
theorem ah0 (hp:(1<=n1/\n1<=1000)/\(1<=n3/\n3<=1000)):aR cq (Ys s0 n1 f1 n3 f3 n5 f5 x7 x8 x9 x10 x11) (R1260 s0 n1 f1 n3 f3 n5 f5 x7 x8 x9 x10 x11):=aE (by first|assumption|((first|exact dqt (by omega)|(rw[wrapI (by omega) (by omega)];exact dqt (by omega))))) (evObi (evObi (evObi (evAsm (fun a0=>evObi (evObi (evObi (evObj (by first|assumption|((intro _;(first|exact dqt (by omega)|(rw[wrapI (by omega) (by omega)];exact dqt (by omega)))))) (evObi (evObi (evObi (evObi (evObi (evObi (evObi (evObi (evObj (by first|assumption|((intro _;(first|exact dqt (by omega)|(rw[wrapI (by omega) (by omega)];exact dqt (by omega)))))) (evObi (evObi (evObi (evObi (evObi (evObi (evObi (evObi (evObi (evAsm (fun a0=>evObi (evObi (evObi (evObj (by first|assumption|((intro _;(first|exact dqt (by omega)|(rw[wrapI (by omega) (by omega)];exact dqt (by omega)))))) (evObi (evObi (evObi (evObi (evObi (evObi (evRet (by unfold R1260 eB;rfl)))))))))))))))))))))))))))))))))))))))
def Ye:aB:=bF [.agg ak,tI,tI,tI] (fun
 |[.agg [.str s0,.sl n1 f1,.sl n3 f3,.sl n5 f5,.int _ x7,.int _ x8],.int _ x9,.int _ x10,.int _ x11]=>(1<=n1/\n1<=1000)/\(1<=n3/\n3<=1000)
 |_=>False) fun
 |[.agg [.str s0,.sl n1 f1,.sl n3 f3,.sl n5 f5,.int _ x7,.int _ x8],.int _ x9,.int _ x10,.int _ x11]=>R1260 s0 n1 f1 n3 f3 n5 f5 x7 x8 x9 x10 x11
 |_=>.any
theorem aiu:(vP Ye).Ok Tryz.prog 260:=bV lI Tryz.func260 (by kernel_rfl) fun ds hp=>cQ (We ..) (ah0 _ _ _ _ _ _ _ _ _ _ _ _ hp)
def XY:RT Empty:=dm (s0,n1,f1,n3,f3,n5,f5,x7,x8,x13) (.ob (decide ((0:Int)<=0/\0<(↑n9:Int))) (.am n9 (.ob (dI (wI ((↑n9:Int)-1)) n9) (.cb (.ii (.obj (av x14 (ar (f9 0)) (ar (f9 (wI ((↑n9:Int)-1)).toNat))) (decide ((0:Int)<=0/\0<(↑n11:Int))) (.iv (.asm (av x14 (ar (f9 0)) (ar (f9 (wI ((↑n9:Int)-1)).toNat))=true->n11<=9223372036854775807) (.ii (.obi (.obj (av x14 (ar (f9 0)) (ar (f9 (wI ((↑n9:Int)-1)).toNat))) (dI (wI ((↑n11:Int)-1)) n11) (.obi (.br (av x14 (ar (f9 0)) (ar (f9 (wI ((↑n9:Int)-1)).toNat))) (.ob (av x14 (ar (f9 0)) (ar (f9 (wI ((↑n9:Int)-1)).toNat))) (.ob (av x14 (ar (f9 0)) (ar (f9 (wI ((↑n9:Int)-1)).toNat))) (.ob (av x14 (ar (f9 0)) (ar (f9 (wI ((↑n9:Int)-1)).toNat))) (.cb (.ret (V.bool (av x15 (ar (f11 0)) (ar (f11 (wI ((↑n11:Int)-1)).toNat))))))))) (.ret (V.kb false)))))))))))))))
theorem XA:cJ cL (aP JJ od u0 Ky [V.agg [V.str s0,V.sl n1 (aa ae f1),V.sl n3 (aa ae f3),V.sl n5 (aa [Ty.sl ae] f5),vi x7,vi x8,V.sl n9 (aa ae f9),V.sl n11 (aa ae f11),vi x13],vi x14,vi x15]) (XY s0 n1 f1 n3 f3 n5 f5 x7 x8 n9 f9 n11 f11 x13 x14 x15):=⟨by kernel_rfl,by kernel_rfl⟩
def bk:Bool:=bif av x14 (ar (f9 0)) (ar (f9 (wI ((↑n9:Int)-1)).toNat)) then av x15 (ar (f11 0)) (ar (f11 (wI ((↑n11:Int)-1)).toNat)) else false
def GF:V:=dm (s0,n1,f1,n3,f3,n5,f5,x7,x8,x13) (.bool (bk n9 f9 n11 f11 x14 x15))
theorem agv (hp:(1<=n9/\n9<=1000)/\(1<=n11/\n11<=1000)):aR cq (XY s0 n1 f1 n3 f3 n5 f5 x7 x8 n9 f9 n11 f11 x13 x14 x15) (GF s0 n1 f1 n3 f3 n5 f5 x7 x8 n9 f9 n11 f11 x13 x14 x15):=aE (by first|assumption|((first|exact dqt (by omega)|(rw[wrapI (by omega) (by omega)];exact dqt (by omega))))) (evAsm (fun a0=>aE (by first|assumption|((first|exact dqt (by omega)|(rw[wrapI (by omega) (by omega)];exact dqt (by omega))))) (aw (evObt (evObi (evObi (evObj (by first|assumption|((intro _;(first|exact dqt (by omega)|(rw[wrapI (by omega) (by omega)];exact dqt (by omega)))))) (evObi (evObi (evObi (evObi (evAsm (fun a0=>evObi (evObi (evObi (evObj (by first|assumption|((intro _;(first|exact dqt (by omega)|(rw[wrapI (by omega) (by omega)];exact dqt (by omega)))))) (evObi (evBr (fun h0=>aE (by first|assumption|((first|exact dqt (by omega)|(rw[wrapI (by omega) (by omega)];exact dqt (by omega))))) (aE (by first|assumption|((first|exact dqt (by omega)|(rw[wrapI (by omega) (by omega)];exact dqt (by omega))))) (aE (by first|assumption|((first|exact dqt (by omega)|(rw[wrapI (by omega) (by omega)];exact dqt (by omega))))) (aw (evObt (evRet (by unfold GF bk;try rw[h0];rfl))))))) (fun h0=>evRet (by unfold GF bk;try rw[h0];rfl))))))))))))))))))))
def aaw:aB:=bF [.agg [.str,.sl ae,.sl ae,.sl [.sl ae],tI,tI,.sl ae,.sl ae,tI],tI,tI] (fun
 |[.agg [.str s0,.sl n1 f1,.sl n3 f3,.sl n5 f5,.int _ x7,.int _ x8,.sl n9 f9,.sl n11 f11,.int _ x13],.int _ x14,.int _ x15]=>(1<=n9/\n9<=1000)/\(1<=n11/\n11<=1000)
 |_=>False) fun
 |[.agg [.str s0,.sl n1 f1,.sl n3 f3,.sl n5 f5,.int _ x7,.int _ x8,.sl n9 f9,.sl n11 f11,.int _ x13],.int _ x14,.int _ x15]=>GF s0 n1 f1 n3 f3 n5 f5 x7 x8 n9 f9 n11 f11 x13 x14 x15
 |_=>.any
theorem adM:(vP aaw).Ok Tryz.prog 170:=bV lI Tryz.func170 (by kernel_rfl) fun ds hp=>cQ (XA ..) (agv _ _ _ _ _ _ _ _ _ _ _ _ _ _ _ _ hp)
end
end Go.Dx
namespace Go.Dx
noncomputable section
theorem akb {a b:Bool} (h:(a&&b)=true):a=true:=by cases a<;>simp_all
theorem alR {a b:Bool} (h:(a&&b)=true):b=true:=by cases a<;>simp_all
end
end Go.Dx
namespace Go.Dx
open Go.IntKind (i64 u64 u8)
open Go.Sx Go.Proofs
variable (n0:Nat) (f0:aN) (x0:Int) (s0:ByteArray) (n1:Nat) (f1:aN) (x1:Int) (s1:ByteArray) (n2:Nat) (f2:aN) (x2:Int) (n3:Nat) (f3:aN) (x3:Int) (n4:Nat) (f4:aN) (x4:Int) (n5:Nat) (f5:aN) (x5:Int) (n6:Nat) (f6:aN) (x6 x7 x8:Int) (n9:Nat) (f9:aN) (x9:Int) (n10:Nat) (f10:aN) (x10:Int) (n11:Nat) (f11:aN) (x11:Int) (n12:Nat) (f12:aN) (x12 x13 x14 x15 x16 x17:Int)
noncomputable section
def qg:bj:=[(283,.con Zz),(284,.con YK),(86,.con Yr),(178,.con aaW),(258,.con Yh),(286,.con XP),(87,.con aag),(260,.con Ye),(170,.con aaw),(89,.conZ Eu zC),(166,.conN xq EX),(111,.con MA),(226,.con El),(225,.con LH),(165,.con G1),(70,.con OK),(68,.con Nt),(46,.con Mg),(69,.con OC),(23,.con Oc),(22,.con O7),(67,.con Ru),(151,.con LN),(125,.con Nl),(191,.con Qf),(220,.con PY),(114,.con Qd),(121,.con Kv),(192,.con Lw),(62,.con Q3),(154,.con MX),(155,.con JD),(156,.con Ob),(193,.con RI),(256,.con JE),(159,.con PS),(118,.con Mf),(143,.con M6),(66,.con KN),(115,.con P0),(122,.con LZ),(63,.con Q1),(59,.con Nc),(144,.con RN),(145,.con OA),(127,.con JQ),(130,.con Oj),(132,.con Ha),(129,.con Mj),(198,.con Gk),(199,.con FO),(164,.con KD),(152,.con ad8),(221,.con J2),(182,.con P8),(92,.con N9),(108,.con Ms),(99,.con K2),(218,.con P6),(222,.con QY),(200,.con KQ),(216,.con Pk),(217,.con Qc),(133,.con E9),(134,.con Mb),(61,.con Rs),(65,.con LI),(180,.con JG),(128,.con QL),(131,.con MR),(181,.con KH),(91,.con OO),(106,.con LS),(120,.con Pj),(32,.con C30),(94,.con C31),(30,.con C32),(93,.con C33),(171,.con C50),(172,.con C82),(82,.con C80),(81,.con C44),(228,.con C91),(64,.con C24),(60,.con C23),(146,.con C70),(135,.con C62),(141,.con C68),(136,.con C63),(142,.con C69),(211,.inl NF u0),(210,.inl LU u0),(209,.con Tk),(207,.con Vs),(150,.con C73),(253,.con WE),(137,.con C64),(139,.con C66),(205,.con RJ),(138,.con C65),(140,.con C67),(219,.con Pz),(149,.con C72),(206,.con C45),(208,.con C90),(213,.con Qg),(215,.con Kw),(152,.con C99),(252,.con OE),(254,.con Kf),(255,.con Qs),(204,.con NE),(212,.con Oq),(214,.con LB),(147,.con C51),(221,.con Qq),(250,.con NA),(84,.con C78),(83,.con C81),(229,.con C88),(162,.con C84),(163,.con Qm),(161,.con C86),(148,.con C71),(173,.con C79),(251,.con NB),(196,.con GW)]
theorem vT:aW Tryz.prog eqs its qg:=.con adp (.con aco (.con ago (.con aga (.con acZ (.con ady (.con agL (.con aiu (.con adM (.conZ DT (.conN J5 (.con JR (.con C8 (.con Ee (.con DJ (.con N5 (.con KM (.con RP (.con JX (.con Pd (.con CH (.con Lz (.con MG (.con NT (.con Js (.con Q9 (.con Mp (.con Oe (.con Dl (.con NN (.con Le (.con Nn (.con O1 (.con OM (.con J8 (.con Ql (.con Ng (.con CQ (.con Lv (.con RH (.con Ox (.con JY (.con D9 (.con LR (.con Qe (.con O3 (.con RS (.con Ce (.con Mt (.con D6 (.con Dt (.con PI (.con Z2 (.con JK (.con Ko (.con DC (.con Cs (.con Lr (.con JA (.con QR (.con Lq (.con Jx (.con JZ (.con Ed (.con LF (.con Mh (.con RG (.con OI (.con OF (.con Px (.con Kb (.con D2 (.con CE (.con MY (.con ajd (.con aje (.con aks (.con ang (.con aiF (.con abq (.con adw (.con agd (.con adD (.con acU (.con Xw (.con adt (.con aiH (.con agA (.con aft (.con agJ (fZ Tryz.func211 (by kernel_rfl) (fZ Tryz.func210 (by kernel_rfl) (.con LE (.con Qb (.con adW (.con Qn (.con aci (.con aeE (.con Fy (.con Ut (.con WJ (.con H6 (.con WP (.con R5 (.con Vr (.con HF (.con Fu (.con VM (.con EB (.con Gu (.con Fb (.con Gs (.con F4 (.con Hz (.con Uv (.con yaI (.con ET (.con Tl (.con Tc (.con TR (.con UR (.con Hm (.con PV (.con Xk (.con UL (.con Nb (.con Rm (.nil)))))))))))))))))))))))))))))))))))))))))))))))))))))))))))))))))))))))))))))))))))))))))))))))))))))))))))))))))))))))))))))))
def YM:RT Empty:=.cb (.obi (.br (!!aA x4 1 30000) (.ob (!!aA x4 1 30000) (.cb (.obi (.br (!!da x0) (.ob (!!da x0) (.cb (.obi (.br (!!da x1) (.ob (!!da x1) (.cb (.obi (.br (!!da x2) (.ob (!!da x2) (.cb (.br (!da x3) (.ret (vi 7)) (.iv (.obi (.br (bif decide (x1<x0) then true else decide (x3<x2)) (.ret (vi 2)) (.ret (vi 0)))))))) (.ret (vi 7)))))) (.ret (vi 7)))))) (.ret (vi 7)))))) (.ret (vi 7))))
theorem WN:cJ cL (aP JJ qg u0 afN [V.agg [vi x0,vi x1,vi x2,vi x3],vi x4]) (YM x0 x1 x2 x3 x4):=⟨by kernel_rfl,by kernel_rfl⟩
def d4:Int:=bif !!aA x4 1 30000 then bif !!da x0 then bif !!da x1 then bif !!da x2 then bif !da x3 then 7 else bif bif decide (x1<x0) then true else decide (x3<x2) then 2 else 0 else 7 else 7 else 7 else 7
def qU:V:=vi (d4 x0 x1 x2 x3 x4)
theorem aeQ:aR cq (YM x0 x1 x2 x3 x4) (qU x0 x1 x2 x3 x4):=aw (evObt (evObi (evBr (fun h0=>aE (by first|assumption|(fail)) (aw (evObt (evObi (evBr (fun h1=>aE (by first|assumption|(fail)) (aw (evObt (evObi (evBr (fun h2=>aE (by first|assumption|(fail)) (aw (evObt (evObi (evBr (fun h3=>aE (by first|assumption|(fail)) (aw (evObt (evBr (fun h4=>evRet (by unfold qU d4;try rw[h0];try rw[h1];try rw[h2];try rw[h3];try rw[h4];rfl)) (fun h4=>evObi (evObi (evObi (evObi (evObi (evBr (fun h5=>evRet (by unfold qU d4;try rw[h0];try rw[h1];try rw[h2];try rw[h3];try rw[h4];try rw[h5];rfl)) (fun h5=>evRet (by unfold qU d4;try rw[h0];try rw[h1];try rw[h2];try rw[h3];try rw[h4];try rw[h5];rfl)))))))))))) (fun h3=>evRet (by unfold qU d4;try rw[h0];try rw[h1];try rw[h2];try rw[h3];rfl))))))) (fun h2=>evRet (by unfold qU d4;try rw[h0];try rw[h1];try rw[h2];rfl))))))) (fun h1=>evRet (by unfold qU d4;try rw[h0];try rw[h1];rfl))))))) (fun h0=>evRet (by unfold qU d4;try rw[h0];rfl)))))
def aaM:aB:=bF [.agg je,tI] (fun _=>True) fun
 |[.agg [.int _ x0,.int _ x1,.int _ x2,.int _ x3],.int _ x4]=>qU x0 x1 x2 x3 x4
 |_=>.any
theorem ab7:(vP aaM).Ok Tryz.prog 230:=bV vT Tryz.func230 (by kernel_rfl) fun ds hp=>cQ (WN ..) (aeQ _ _ _ _ _)
inductive qG where
 |L0 (ia0 ia1:Int)
def Tv:qG->bz×List O×Option Ex
 |.L0 ia0 ia1=>([(8,vi ia0),(7,vi ia1),(6,vi (↑n0:Int)),(0,V.sl n0 (aa ae f0)),(1,vi x2)],[],none)
def ae7:qG->JJ
 |.L0 ia0 ia1=>(0,[])
def P7:T (bO JJ):=aP JJ qg u0 M1 [V.sl n0 (aa ae f0),vi x2]
def Af (cx:List Cx):Lp JJ:=eR (ej (P7 n0 f0 x2) [])
def ahk:JJ->Lp JJ
 |(0,cx)=>Af n0 f0 x2 cx
 |(_,cx)=>Af n0 f0 x2 cx
def ajT:LD JJ qG:=⟨ae7,ahk n0 f0 x2,Tv n0 f0 x2⟩
def u6:qG->RT qG
 |.L0 ia0 ia1=>.br (decide (ia1<ia0)) (.obt (.ob (dI (wI ((u64.wrap (wI (ia1+ia0))).fdiv (2 ^ 1))) n0) (.cb (.br (nf (ar (f0 (wI ((u64.wrap (wI (ia1+ia0))).fdiv (2 ^ 1))).toNat)) x2) (.next [] (qG.L0 (ia0) (wI (wI ((u64.wrap (wI (ia1+ia0))).fdiv (2 ^ 1))+1))) []) (.next [] (qG.L0 (wI ((u64.wrap (wI (ia1+ia0))).fdiv (2 ^ 1))) (ia1)) []))))) (.ii (.obj (decide (ia1<(↑n0:Int))) (dI ia1 n0) (.iv (.ii (.obj (decide (ia1<(↑n0:Int))&&!ar (f0 ia1.toNat)==x2) (dI ia1 n0) (.obi (.br (decide (ia1<(↑n0:Int))&&!ar (f0 ia1.toNat)==x2) (.ob (decide (ia1<(↑n0:Int))&&!ar (f0 ia1.toNat)==x2) (.cb (.br (lB (ar (f0 ia1.toNat))) (.ob (lB (ar (f0 ia1.toNat))) (.cb (.obi (.ret (V.tup [vi ia1,V.bool (bif decide (ia1<(↑n0:Int)) then lB x2 else false)]))))) (.obi (.ret (V.tup [vi ia1,V.bool (bif decide (ia1<(↑n0:Int)) then false else false)])))))) (.obi (.obj (decide (ia1<(↑n0:Int))&&!ar (f0 ia1.toNat)==x2) (false) (.ii (.br (ar (f0 ia1.toNat)==x2) (.obi (.ret (V.tup [vi ia1,V.bool (bif decide (ia1<(↑n0:Int)) then true else false)]))) (.obi (.bry (decide (ia1<(↑n0:Int))) (.ret (V.tup [vi ia1,V.kb false])))))))))))))))
def L8:RT qG:=dm (f0,x2) (.am n0 (.enter [] (qG.L0 ((↑n0:Int)) (0)) []))
theorem Xe:dD qg u0 (ajT n0 f0 x2) (P7 n0 f0 x2) (L8 n0 f0 x2) (u6 n0 f0 x2):=⟨⟨by kernel_rfl,by kernel_rfl⟩,fun s=>by cases s<;>exact⟨by kernel_rfl,by kernel_rfl⟩⟩
def B6 (f:Nat->Int) (t:Int):Nat->Nat->Nat->Nat
 |0,i,_=>i
 |d+1,i,j=>bif Nat.blt i j then bif decide (f ((i+j) / 2)<t) then B6 f t d ((i+j) / 2+1) j else B6 f t d i ((i+j) / 2) else i
def bs57:Nat:=B6 (fun k=>ar (f0 k)) x2 n0 0 n0
def gY (n0:Nat) (f0:aN) (x2:Int):Int:=(bs57 n0 f0 x2:Int)
def iX (n0:Nat) (f0:aN) (x2:Int):Bool:=bif decide ((bs57 n0 f0 x2:Int)<(n0:Int)) then ar (f0 (bs57 n0 f0 x2))==x2 else false
theorem anl {i j:Nat} (h:i+j<=2000):wI ((u64.wrap (wI ((i:Int)+(j:Int)))).fdiv (2 ^ 1))=(((i+j) / 2:Nat):Int):=by
 rw [wrapI (x:=(i:Int)+(j:Int)) (by omega) (by omega)]
 have:u64.wrap ((i:Int)+(j:Int))=(i:Int)+(j:Int):=by
  simp only [IntKind.wrap,IntKind.bits,IntKind.signed,Bool.false_and]
  rw [if_neg (by simp)]
  omega
 rw [this,Int.fdiv_eq_ediv_of_nonneg _ (by decide),wrapI (by omega) (by omega)]
 omega
theorem ajt (x:Int):lB x=false:=by unfold lB;simp
theorem amG {b:Bool} (h:(!b)=true):b=false:=by cases b<;>first|rfl|cases h
theorem ah4 (x y:Int):nf x y=decide (x<y):=by
 unfold nf
 simp
theorem am3 (hn:n0<=1000):∀ d i j:Nat,j-i<=d->i<=j->j<=n0->B6 (fun k=>ar (f0 k)) x2 d i j=bs57 n0 f0 x2->Ev (u6 n0 f0 x2) (.L0 (j:Int) (i:Int)) (.tup [vi (gY n0 f0 x2),.bool (iX n0 f0 x2)]):=by
 intro d
 have exit:∀ i j:Nat,j<=i->j<=n0->i<=j->i=bs57 n0 f0 x2->Ev (u6 n0 f0 x2) (.L0 (j:Int) (i:Int)) (.tup [vi (gY n0 f0 x2),.bool (iX n0 f0 x2)]):=by
  intro i j h1 h2 h3 e
  refine Ev.of rfl (ed (gx (by omega)) ?_)
  refine evObi (evObi (evObj (fun h=>dqt (by have:=of_decide_eq_true h;omega)) ?_))
  refine evObi (evObi (evObi (evObi (evObi (evObi (evObj (fun h=>dqt (by have:=of_decide_eq_true (akb h);omega)) (evObi ?_)))))))
  have R:∀ b,b=iX n0 f0 x2->ce (V.tup [vi (i:Int),V.bool b])=ce (V.tup [vi (gY n0 f0 x2),V.bool (iX n0 f0 x2)]):=fun b hb=>by
   unfold gY;rw[← e,hb]
  have G:iX n0 f0 x2=bif decide ((i:Int)<(n0:Int)) then ar (f0 i)==x2 else false:=by unfold iX;rw[← e]
  rw [Int.toNat_natCast]
  refine evBr (fun h=>aE h (aw (evObt (ed (ajt _) (evObi (evRet (R _ ?_))))))) (fun h=>?_)
  ·rw[G,show(ar (f0 i)==x2)=false from amG (alR h)]
  ·refine evObi (evObj (fun h'=>absurd (h'.symm.trans h) (by decide)) (evObi (evObi (evBr (fun h2=>evObi (evRet (R _ ?_))) (fun h2=>?_)))))
   ·rw[G,show(ar (f0 i)==x2)=true from h2]
   ·have h3:decide ((i:Int)<(n0:Int))=false:=by
     cases hd:decide ((i:Int)<(n0:Int)) with
     |false=>rfl
     |true=>rw[hd,h2]at h;cases h
    refine evObi (al0 h3 (evRet ?_))
    exact R false (by rw[G,h3];rfl)
 induction d with
 |zero=>intro i j h1 h2 h3 e;exact exit i j (by omega) h3 h2 e
 | succ d ih =>
   intro i j h1 h2 h3 e
   by_cases hlt:i<j
   ·refine Ev.of rfl (eG (dqt (by omega)) (evObt ?_))
    rw [anl (by omega),Int.toNat_natCast,ah4]
    refine aE (dqt (by omega)) (aw (evObt (evBr (fun h=>aK ?_) (fun h=>aK ?_))))
    ·have e':B6 (fun k=>ar (f0 k)) x2 d ((i+j) / 2+1) j=bs57 n0 f0 x2:=by
      rw [← e];show _=bif Nat.blt i j then _ else _
      rw [FN hlt,h];rfl
     have:=ih ((i+j) / 2+1) j (by omega) (by omega) h3 e'
     rwa [show wI ((((i+j) / 2:Nat):Int)+1)=(((i+j) / 2+1:Nat):Int) by rw[wrapI (by omega) (by omega)];omega]
    ·have e':B6 (fun k=>ar (f0 k)) x2 d i ((i+j) / 2)=bs57 n0 f0 x2:=by
      rw [← e];show _=bif Nat.blt i j then _ else _
      rw [FN hlt,h];rfl
     exact ih i ((i+j) / 2) (by omega) (by omega) (by omega) e'
   ·refine exit i j (by omega) h3 h2 ?_
    rw [← e];show _=bif Nat.blt i j then _ else _
    rw [NP (by omega)];rfl
theorem Mq (hp:n0<=1000):aR (Ev (u6 n0 f0 x2)) (L8 n0 f0 x2) (.tup [vi (gY n0 f0 x2),.bool (iX n0 f0 x2)]):=bg fun _=>aF (am3 n0 f0 x2 hp n0 0 n0 (by omega) (Nat.zero_le _) (Nat.le_refl _) rfl)
theorem adi (hp:n0<=1000):aR (Ev (u6 n0 f0 x2)) (L8 n0 f0 x2) (.tup [vi (gY n0 (aa ae f0) x2),.bool (iX n0 (aa ae f0) x2)]):=Mq n0 f0 x2 hp
def aa8:aB:=bF [.sl ae,tI] (fun
 |[.sl n0 f0,.int _ x2]=>n0<=1000
 |_=>False) fun
 |[.sl n0 f0,.int _ x2]=>.tup [vi (gY n0 f0 x2),.bool (iX n0 f0 x2)]
 |_=>.any
theorem aeM:(vP aa8).Ok Tryz.prog 257:=bV vT Tryz.func257 (by kernel_rfl) fun ds hp=>iS (Xe ..) (adi _ _ _ hp)
inductive qt where
 |L0 (ia0 ia1:Int)
def Tf:qt->bz×List O×Option Ex
 |.L0 ia0 ia1=>([(8,vi ia0),(7,vi ia1),(0,V.sl n0 (aa ae f0)),(1,vi x2),(2,vi x3)],[],none)
def agi:qt->JJ
 |.L0 ia0 ia1=>(0,[])
def Nm:T (bO JJ):=aP JJ qg u0 aiC [V.sl n0 (aa ae f0),vi x2,vi x3]
def Aq (cx:List Cx):Lp JJ:=eR (ej (Nm n0 f0 x2 x3) [])
def ac0:JJ->Lp JJ
 |(0,cx)=>Aq n0 f0 x2 x3 cx
 |(_,cx)=>Aq n0 f0 x2 x3 cx
def amZ:LD JJ qt:=⟨agi,ac0 n0 f0 x2 x3,Tf n0 f0 x2 x3⟩
def zo:qt->RT qt
 |.L0 ia0 ia1=>.am n0 (.br (decide (wI (ia0+1)<(↑n0:Int))) (.ob (dI ia0 n0) (.br (decide (wI (ar (f0 ia0.toNat)*x3)<=x2)) (.next [] (qt.L0 (wI (ia0+1)) (ia0)) []) (.next [] (qt.L0 (wI (ia0+1)) (ia1)) []))) (.ret (vi ia1)))
def Lf:RT qt:=dm (n0,f0,x2,x3) (.enter [] (qt.L0 (0) (0)) [])
theorem Uf:dD qg u0 (amZ n0 f0 x2 x3) (Nm n0 f0 x2 x3) (Lf n0 f0 x2 x3) (zo n0 f0 x2 x3):=⟨⟨by kernel_rfl,by kernel_rfl⟩,fun s=>by cases s<;>exact⟨by kernel_rfl,by kernel_rfl⟩⟩
def Jb (p:Nat->Bool):Nat->Nat
 |0=>0
 |k+1=>bif p k then k else Jb p k
def aI:Int:=(Jb (fun i=>decide (wI (ar (f0 i)*x3)<=x2)) (n0-1):Int)
theorem PP:aR (Ev (zo n0 f0 x2 x3)) (Lf n0 f0 x2 x3) (vi (aI n0 f0 x2 x3)):=by
 refine aF ?_
 have key:∀ k,k<=n0-1->Ev (zo n0 f0 x2 x3) (.L0 (k:Int) (Jb (fun i=>decide (wI (ar (f0 i)*x3)<=x2)) k:Int)) (vi (aI n0 f0 x2 x3)):=by
  refine cO fun k hk ih=>Ev.of rfl (bg fun hn=>?_)
  by_cases hlt:k<n0-1
  ·have hw:wI ((k:Int)+1)=((k+1:Nat):Int):=by rw[wrapI (by omega) (by omega)];omega
   rw [hw]
   refine eG (dqt (by omega)) (aE (dqt (by omega)) (evBr (fun h=>aK ?_) (fun h=>aK ?_)))
   ·have:=ih hlt
    rw [Int.toNat_natCast]at h
    simp only [Jb,h,cond_true]at this
    exact this
   ·have:=ih hlt
    rw [Int.toNat_natCast]at h
    simp only [Jb,h,cond_false]at this
    exact this
  ·refine ed (gx ?_) (evRet ?_)
   ·rcases Nat.lt_or_ge (k+1) 9223372036854775808 with h1|h1
    ·rw[wrapI (by omega) (by omega)];omega
    ·omega
   ·have:k=n0-1:=by omega
    subst this;rfl
 exact key 0 (Nat.zero_le _)
theorem acK:aR (Ev (zo n0 f0 x2 x3)) (Lf n0 f0 x2 x3) (vi (aI n0 (aa ae f0) x2 x3)):=PP n0 f0 x2 x3
def aan:aB:=bF [.sl ae,tI,tI] (fun _=>True) fun
 |[.sl n0 f0,.int _ x2,.int _ x3]=>vi (aI n0 f0 x2 x3)
 |_=>.any
theorem ah3:(vP aan).Ok Tryz.prog 285:=bV vT Tryz.func285 (by kernel_rfl) fun ds hp=>iS (Uf ..) (acK _ _ _ _)
inductive r4 where
 |L0 (ia0 ia1 ia2:Int)
def Uz (x0 x1:Int) (n2:Nat) (f2:aN):r4->bz×List O×Option Ex
 |.L0 ia0 ia1 ia2=>([(9,vi ia0),(8,vi (↑n2:Int)),(7,V.sl n2 (aa bZ f2)),(4,V.pl 0 0),(2,V.pl 1 0)],[O.cells [vi 0,vi 0] 39,O.cells [vi ia1,vi ia2] 39],none)
def acw:r4->JJ
 |.L0 ia0 ia1 ia2=>(0,[])
def NX:T (bO JJ):=aP JJ qg u0 gj [V.agg [vi x0,vi x1],V.sl n2 (aa bZ f2)]
def zY (cx:List Cx):Lp JJ:=eR (ej (NX x0 x1 n2 f2) [])
def abj:JJ->Lp JJ
 |(0,cx)=>zY x0 x1 n2 f2 cx
 |(_,cx)=>zY x0 x1 n2 f2 cx
def akF:LD JJ r4:=⟨acw,abj x0 x1 n2 f2,Uz x0 x1 n2 f2⟩
def yt (x0 x1:Int) (n2:Nat) (f2:aN):r4->RT r4
 |.L0 ia0 ia1 ia2=>.br (decide (ia0<(↑n2:Int))) (.ob (dI ia0 n2) (.next [some (some 0),some (some 1)] (r4.L0 (wI (ia0+1)) (min ia1 (ar (f2 ia0.toNat))) (max ia2 (aQ (f2 ia0.toNat)))) [])) (.ret (V.agg [vi ia1,vi ia2]))
def Jn:RT r4:=dm f2 (.am n2 (.enter [some (some 1),some (some 0)] (r4.L0 (0) (x0) (x1)) []))
theorem UZ:dD qg u0 (akF x0 x1 n2 f2) (NX x0 x1 n2 f2) (Jn x0 x1 n2 f2) (yt x0 x1 n2 f2):=⟨⟨by kernel_rfl,by kernel_rfl⟩,fun s=>by cases s<;>exact⟨by kernel_rfl,by kernel_rfl⟩⟩
def dl:Int:=Z5 (fun i=>ar (f2 i)) x0 n2
def dn:Int:=yc (fun i=>aQ (f2 i)) x1 n2
theorem Pv:aR (Ev (yt x0 x1 n2 f2)) (Jn x0 x1 n2 f2) (.agg [vi (dl x0 n2 f2),vi (dn x1 n2 f2)]):=by
 refine bg fun hn=>aF ?_
 refine Bv hn (P:=fun x=>Ev (yt x0 x1 n2 f2) (.L0 x (Z5 (fun i=>ar (f2 i)) x0 x.toNat) (yc (fun i=>aQ (f2 i)) x1 x.toNat)) (.agg [vi (dl x0 n2 f2),vi (dn x1 n2 f2)])) (fun i hlt nx=>?_) (Ev.of rfl (ck (evRet rfl)))
 rw [show(wI ((i:Int)+1)).toNat=i+1 by rw[j7 hlt hn];rfl]at nx
 exact Ev.of rfl (cr hlt (b7 hlt (aK nx)))
theorem aem:aR (Ev (yt x0 x1 n2 f2)) (Jn x0 x1 n2 f2) (.agg [vi (dl x0 n2 (aa bZ f2)),vi (dn x1 n2 (aa bZ f2))]):=Pv x0 x1 n2 f2
def YB:aB:=bF [.agg bZ,.sl bZ] (fun _=>True) fun
 |[.agg [.int _ x0,.int _ x1],.sl n2 f2]=>.agg [vi (dl x0 n2 f2),vi (dn x1 n2 f2)]
 |_=>.any
theorem abJ:(vP YB).Ok Tryz.prog 167:=bV vT Tryz.func167 (by kernel_rfl) fun ds hp=>iS (UZ ..) (aem _ _ _ _)
def En:bj:=(230,.con aaM)::(257,.con aa8)::(285,.con aan)::(167,.con YB)::qg
theorem Py:aW Tryz.prog eqs its En:=.con ab7 (.con aeM (.con ah3 (.con abJ (vT))))
inductive mG where
 |L0 (ia0:Int)
 |L1 (ib0:Int) (nb1:Nat) (fb2:Nat->List V)
def UF:mG->bz×List O×Option Ex
 |.L0 ia0=>([(10,vi ia0),(9,V.ss 0 0 2 2),(0,V.sl n0 (aa ae f0)),(1,vi x2),(2,vi x3),(3,vi x4)],[O.cells [vi (wI (1000*x2)),vi (wI (1000*x3))] 3],none)
 |.L1 ib0 nb1 fb2=>([(10,vi ib0),(9,V.gs 0 nb1),(0,V.sl n0 (aa ae f0)),(1,vi x2),(2,vi x3),(3,vi x4)],[O.gl 1 nb1 (aa ae fb2) 3],none)
def aiw:mG->JJ
 |.L0 ia0=>(0,[])
 |.L1 ib0 nb1 fb2=>(0,[])
def LY:T (bO JJ):=KG JJ En u0 acR [V.sl n0 (aa ae f0),vi x2,vi x3,vi x4]
def Aw (cx:List Cx):Lp JJ:=eR (ej (LY n0 f0 x2 x3 x4) [])
def ahB:JJ->Lp JJ
 |(0,cx)=>Aw n0 f0 x2 x3 x4 cx
 |(_,cx)=>Aw n0 f0 x2 x3 x4 cx
def amO:LD JJ mG:=⟨aiw,ahB n0 f0 x2 x3 x4,UF n0 f0 x2 x3 x4⟩
def vt:mG->RT mG
 |.L0 ia0=>.am n0 (.br (decide (ia0<(↑n0:Int))) (.ob (dI ia0 n0) (.ii (.obj (decide (wI (1000*x2)<=wI (ar (f0 ia0.toNat)*x4))) (dI ia0 n0) (.iv (.ii (.obi (.br (bif decide (wI (1000*x2)<=wI (ar (f0 ia0.toNat)*x4)) then decide (wI (ar (f0 ia0.toNat)*x4)<=wI (1000*x3)) else false) (.ob (dI ia0 n0) (.obt (.obt (.next [some (some 2)] (mG.L1 (wI (ia0+1)) (3) (bG 2 (fun i=>List.take 1 (List.drop (i*1) [vi (wI (1000*x2)),vi (wI (1000*x3))])) fun x=>[vi (wI (ar (f0 ia0.toNat)*x4))])) [⟨0,ae,3,bG 2 (fun i=>List.take 1 (List.drop (i*1) [vi (wI (1000*x2)),vi (wI (1000*x3))])) fun x=>[vi (wI (ar (f0 ia0.toNat)*x4))],Qk rfl rfl⟩])))) (.next [some (some 0)] (mG.L0 (wI (ia0+1))) [])))))))) (.ret (V.sl 2 (bn [vi (wI (1000*x2)),vi (wI (1000*x3))] 0 1))))
 |.L1 ib0 nb1 fb2=>.am n0 (.br (decide (ib0<(↑n0:Int))) (.ob (dI ib0 n0) (.ii (.obj (decide (wI (1000*x2)<=wI (ar (f0 ib0.toNat)*x4))) (dI ib0 n0) (.iv (.ii (.obi (.br (bif decide (wI (1000*x2)<=wI (ar (f0 ib0.toNat)*x4)) then decide (wI (ar (f0 ib0.toNat)*x4)<=wI (1000*x3)) else false) (.ob (dI ib0 n0) (.obt (.ob (decide (nb1<=nb1/\(nb1+1)*8<=140737488355328)&&!Nat.beq 8 0) (.next [some (some 2)] (mG.L1 (wI (ib0+1)) (nb1+1) (bG nb1 (aa ae fb2) fun x=>[vi (wI (ar (f0 ib0.toNat)*x4))])) [⟨0,ae,nb1+1,bG nb1 (aa ae fb2) fun x=>[vi (wI (ar (f0 ib0.toNat)*x4))],G0 (ew rfl _ _) (Al rfl _ rfl)⟩])))) (.next [some (some 0)] (mG.L1 (wI (ib0+1)) (nb1) (aa ae fb2)) [⟨0,ae,nb1,aa ae fb2,ew rfl _ _⟩])))))))) (.ob (nb1.ble nb1) (.ret (V.sl nb1 fun i=>[vi (ar (fb2 i))]))))
def Oi:RT mG:=dm (n0,f0,x2,x3,x4) (.enter [some (some 0)] (mG.L0 (0)) [])
theorem S4:dD En u0 (amO n0 f0 x2 x3 x4) (LY n0 f0 x2 x3 x4) (Oi n0 f0 x2 x3 x4) (vt n0 f0 x2 x3 x4):=⟨⟨by kernel_rfl,by kernel_rfl⟩,fun s=>by cases s<;>exact⟨by kernel_rfl,by kernel_rfl⟩⟩
def Pn (p:Nat->Bool) (v:Nat->Int) (a b:Int):Nat->List Int
 |0=>[a,b]
 |k+1=>bif p k then Pn p v a b k++[v k] else Pn p v a b k
def gw (L:List Int):Nat->List V:=fun i=>[vi (L.getD i 0)]
def B9 (a b h:Int) (i:Nat):Bool:=bif decide (a<=wI (ar (f0 i)*h)) then decide (wI (ar (f0 i)*h)<=b) else false
def aS:List Int:=Pn (B9 f0 (wI (1000*x2)) (wI (1000*x3)) x4) (fun i=>wI (ar (f0 i)*x4)) (wI (1000*x2)) (wI (1000*x3)) n0
theorem nC (p:Nat->Bool) (v:Nat->Int) (a b:Int):∀ k,2<=(Pn p v a b k).length/\(Pn p v a b k).length<=k+2
 |0=>⟨Nat.le_refl _,Nat.le_refl _⟩
 | k+1=>by
   have:=nC p v a b k
   unfold Pn
   cases p k with
   |true=>simp only[cond_true,List.length_append,List.length_cons,List.length_nil];omega
   |false=>simp only[cond_false];omega
theorem Lm {L:List Int} {x:Int} {n:Nat} {f:Nat->List V} (hn:n=L.length) (hf:∀ j,j<n->al ae (f j)=gw L j):∀ j,j<n+1->al ae (bG n (aa ae f) (fun _=>[vi x]) j)=gw (L++[x]) j:=fun j hj=>by
 unfold bG
 by_cases hjk:j<n
 ·rw[FN hjk];show al _ (al _ (f j))=_
  rw [dz,hf j hjk]
  unfold gw
  rw [List.getD_eq_getElem?_getD,List.getD_eq_getElem?_getD,List.getElem?_append_left (by omega)]
 ·have:j=n:=by omega
  subst this
  rw [NP (Nat.le_refl _)]
  show [vi x]=_
  unfold gw
  rw [List.getD_eq_getElem?_getD,List.getElem?_append_right (by omega),hn,Nat.sub_self];rfl
section
variable (n0:Nat) (f0:aN) (x2 x3 x4:Int) (hn:n0<=1000)
include hn
theorem Vy:∀ k,k<=n0->∀ (n:Nat) (f:Nat->List V),n=(aS k f0 x2 x3 x4).length->(∀ j,j<n->al ae (f j)=gw (aS k f0 x2 x3 x4) j)->Ev (vt n0 f0 x2 x3 x4) (.L1 (k:Int) n f) (.sl (aS n0 f0 x2 x3 x4).length (aa ae (gw (aS n0 f0 x2 x3 x4)))):=by
 refine cO fun k hk ih n f hl hf=>?_
 have hle:=(nC (B9 f0 (wI (1000*x2)) (wI (1000*x3)) x4) (fun i=>wI (ar (f0 i)*x4)) (wI (1000*x2)) (wI (1000*x3)) k).2
 refine Ev.of rfl (bg fun _=>?_)
 by_cases hlt:k<n0
 ·have hw:wI ((k:Int)+1)=((k+1:Nat):Int):=by rw[wrapI (by omega) (by omega)];omega
  have hb:decide (0<=(k:Int)/\(k:Int)<(n0:Int))=true:=dqt (by omega)
  refine eG (dqt (by omega)) (aE hb (evObi (evObi (evObj (fun _=>hb) ?_))))
  refine evObi (evObi (evObi (evObi (evObi (evObi (evObi ?_))))))
  rw [hw]
  refine evBr (fun h=>aE hb (evObt (aE ?_ (aK ?_)))) (fun h=>aK ?_)
  ·have hnk:n<=k+2:=by rw[hl];exact hle
   simp only [Bool.and_eq_true];exact⟨dqt ⟨Nat.le_refl _,by omega⟩,rfl⟩
  ·have e:aS (k+1) f0 x2 x3 x4=aS k f0 x2 x3 x4++[wI (ar (f0 (k:Int).toNat)*x4)]:=by
    rw [Int.toNat_natCast]at h ⊢
    show (bif B9 f0 _ _ x4 k then _ else _)=_
    rw [show B9 f0 (wI (1000*x2)) (wI (1000*x3)) x4 k=true from h];rfl
   refine ih hlt _ _ (by rw[e,hl];simp) ?_
   rw [e]
   exact Lm hl hf
  ·have e:aS (k+1) f0 x2 x3 x4=aS k f0 x2 x3 x4:=by
    rw [Int.toNat_natCast]at h
    show (bif B9 f0 _ _ x4 k then _ else _)=_
    rw [show B9 f0 (wI (1000*x2)) (wI (1000*x3)) x4 k=false from h];rfl
   refine ih hlt _ _ (by rw[e,hl]) ?_
   rw [e]
   exact fun j hj=>by show al _ (al _ (f j))=_;rw[dz];exact hf j hj
 ·have e:k=n0:=by omega
  subst e
  refine ed (gx (by omega)) (aE (Nat.ble_eq_true_of_le (Nat.le_refl _)) (evRet ?_))
  rw [hl]
  exact yV fun i hi=>by show cj (al ae (f i))=cj (al ae (gw _ i));rw[hf i (by omega)];rfl
theorem V0:∀ k,k<=n0->aS k f0 x2 x3 x4=[wI (1000*x2),wI (1000*x3)]->Ev (vt n0 f0 x2 x3 x4) (.L0 (k:Int)) (.sl (aS n0 f0 x2 x3 x4).length (aa ae (gw (aS n0 f0 x2 x3 x4)))):=by
 refine cO fun k hk ih hl=>?_
 refine Ev.of rfl (bg fun _=>?_)
 by_cases hlt:k<n0
 ·have hw:wI ((k:Int)+1)=((k+1:Nat):Int):=by rw[wrapI (by omega) (by omega)];omega
  have hb:decide (0<=(k:Int)/\(k:Int)<(n0:Int))=true:=dqt (by omega)
  refine eG (dqt (by omega)) (aE hb (evObi (evObi (evObj (fun _=>hb) ?_))))
  refine evObi (evObi (evObi (evObi (evObi (evObi (evObi ?_))))))
  rw [hw]
  refine evBr (fun h=>aE hb (evObt (evObt (aK ?_)))) (fun h=>aK ?_)
  ·have e:aS (k+1) f0 x2 x3 x4=[wI (1000*x2),wI (1000*x3)]++[wI (ar (f0 (k:Int).toNat)*x4)]:=by
    rw [Int.toNat_natCast]at h ⊢
    show (bif B9 f0 _ _ x4 k then aS k f0 x2 x3 x4++_ else _)=_
    rw [show B9 f0 (wI (1000*x2)) (wI (1000*x3)) x4 k=true from h,hl];rfl
   refine Vy n0 f0 x2 x3 x4 hn (k+1) hlt _ _ (by rw[e];rfl) ?_
   rw [e]
   intro j hj
   match j,hj with
   |0,_=>rfl
   |1,_=>rfl
   |2,_=>rfl
  ·have e:aS (k+1) f0 x2 x3 x4=aS k f0 x2 x3 x4:=by
    rw [Int.toNat_natCast]at h
    show (bif B9 f0 _ _ x4 k then _ else _)=_
    rw [show B9 f0 (wI (1000*x2)) (wI (1000*x3)) x4 k=false from h];rfl
   exact ih hlt (e.trans hl)
 ·have e:k=n0:=by omega
  subst e
  refine ed (gx (by omega)) (evRet ?_)
  rw [hl]
  exact yV fun i hi=>by
   have hi:i<2:=hi
   match i,hi with
   |0,_=>rfl
   |1,_=>rfl
theorem OX:aR (Ev (vt n0 f0 x2 x3 x4)) (Oi n0 f0 x2 x3 x4) (.sl (aS n0 f0 x2 x3 x4).length (aa ae (gw (aS n0 f0 x2 x3 x4)))):=aF (V0 n0 f0 x2 x3 x4 hn 0 (Nat.zero_le _) rfl)
end
def Fq:List Ty:=[.sl ae,tI,tI,tI]
def ana:List V->Prop
 |[.sl n0 _,.int _ _,.int _ _,.int _ _]=>n0<=1000
 |_=>False
def YU:List V->V
 |[.sl n0 f0,.int _ x2,.int _ x3,.int _ x4]=>.sl (aS n0 f0 x2 x3 x4).length (aa ae (gw (aS n0 f0 x2 x3 x4)))
 |_=>.any
def JV:aB:=bF Fq ana YU
theorem ac6 (hn:n0<=1000):aR (Ev (vt n0 f0 x2 x3 x4)) (Oi n0 f0 x2 x3 x4) (.sl (aS n0 (aa ae f0) x2 x3 x4).length (aa ae (gw (aS n0 (aa ae f0) x2 x3 x4)))):=OX n0 f0 x2 x3 x4 hn
theorem akr (L:List Int) (i:Nat):lk 1 (aa ae (gw L) i)=true/\(cj (aa ae (gw L) i)).all bo=true/\(aa ae (gw L) i).all V.fc=true:=by
 refine ⟨rfl,?_,rfl⟩
 show (cj [vi _]).all bo=true
 simp only [cj,ce,List.all_cons,bo,List.all_nil,Bool.and_self]
theorem JL (ds:List V):dd (YU (al Fq ds)):=by
 show dd (V.sl _ (aa ae _))
 simp only [dd]
 exact fun i hi=>iq _
theorem UO:∀ ds d p r,JV ds=some (d,p,r)->d.1=d.2->p->∀ w0 lh args,bl w0 lh Nu.nil ds args->∃ x new,vr w0 (lh++new) Nu.nil r x:=yq (fun ds hty hp w0 lh args ha=>by
 have hp:au (ap ds)<=1000:=hp
 have hl:=(nC (B9 (aa ae (aX (ap ds))) (wI (1000*aQ ds)) (wI (1000*ca ds)) (bW ds)) (fun i=>wI (ar (aa ae (aX (ap ds)) i)*bW ds)) (wI (1000*aQ ds)) (wI (1000*ca ds)) (au (ap ds))).2
 exact DG (e:=1) (n:=(aS (au (ap ds)) (aa ae (aX (ap ds))) (aQ ds) (ca ds) (bW ds)).length) (Nat.le_trans hl (by omega)) fun i hi=>akr _ i) rfl
theorem ahW:(vZ JV).Ok Tryz.prog 259:=adj Py Tryz.func259 (by kernel_rfl) (fun ds _=>JL ds) fun ds hp=>iS (S4 ..) (ac6 _ _ _ _ _ hp)
def FH:bj:=(259,.conZ JV UO)::En
theorem C6:aW Tryz.prog eqs its FH:=.conZ ahW (Py)
def aaP:RT Empty:=.obp (n0<=(1000:Nat)) (.obt (.am n0 (.ret (vi (max 0 (min (wI (gY n0 (aa ae f0) (wI (x2+1))-1)) (wI ((↑n0:Int)-2))))))))
theorem XD:cJ cL (aP JJ FH u0 o7 [V.sl n0 (aa ae f0),vi x2]) (aaP n0 f0 x2):=⟨by kernel_rfl,by kernel_rfl⟩
def aO:Int:=max 0 (min (wI (gY n0 (aa ae f0) (wI (x2+1))-1)) (wI ((↑n0:Int)-2)))
def Lb:V:=vi (aO n0 f0 x2)
theorem agf (hp:n0<=1000):aR cq (aaP n0 f0 x2) (Lb n0 f0 x2):=evObp (by first|assumption|(exact hp)) (evObt (evAsm (fun a0=>evRet (by unfold Lb aO;rfl))))
def Z0:aB:=bF [.sl ae,tI] (fun
 |[.sl n0 f0,.int _ x2]=>n0<=1000
 |_=>False) fun
 |[.sl n0 f0,.int _ x2]=>Lb n0 f0 x2
 |_=>.any
theorem acd:(vP Z0).Ok Tryz.prog 223:=bV C6 Tryz.func223 (by kernel_rfl) fun ds hp=>cQ (XD ..) (agf _ _ _ hp)
def Cv (x0:Int) (n6:Nat) (f6:aN) (n12:Nat) (f12:aN) (x15:Int):Prop:=(0<=x0/\x0<(n6:Int))/\(0<=x15/\x15+1<(au (ap (f6 x0.toNat)):Int)/\x15+1<(n12:Int)/\n12<=1000)/\wI (ar (f12 (x15+1).toNat)-ar (f12 x15.toNat))≠0
theorem Cv.w {x0:Int} {n6:Nat} {f6:Nat->List V} {n12:Nat} {f12:Nat->List V} {x15:Int} (h:Cv x0 n6 f6 n12 f12 x15):wI (x15+1)=x15+1:=by
 obtain ⟨_,h2,_⟩:=h
 exact wrapI (by omega) (by omega)
def YC:RT Empty:=dm (s1,n2,f2,n4,f4,x8,x9,n10,f10,x14) (.ob (dI x0 n6) (.ob (decide (0<=x15/\x15<(↑(au (ap (f6 x0.toNat))):Int))) (.cb (.ob (decide (0<=wI (x15+1)/\wI (x15+1)<(↑(au (ap (f6 x0.toNat))):Int))) (.cb (.ob (dI x15 n12) (.ob (dI (wI (x15+1)) n12) (.obp (wI (ar (f12 (wI (x15+(1:Int))).toNat)-ar (f12 x15.toNat))=(0:Int)->False) (.obt (.ret (V.agg [vi (jV (ar (aX (ap (f6 x0.toNat)) x15.toNat)) (ar (aX (ap (f6 x0.toNat)) (wI (x15+1)).toNat)) (ar (f12 x15.toNat)) (ar (f12 (wI (x15+1)).toNat)) x16),vi (jX (ar (aX (ap (f6 x0.toNat)) x15.toNat)) (ar (aX (ap (f6 x0.toNat)) (wI (x15+1)).toNat)) (ar (f12 x15.toNat)) (ar (f12 (wI (x15+1)).toNat)) x16)])))))))))))
theorem UQ:cJ cL (aP JJ FH u0 lr [vi x0,V.pd [V.str s1,V.sl n2 (aa ae f2),V.sl n4 (aa ae f4),V.sl n6 (aa [Ty.sl ae] f6),vi x8,vi x9,V.sl n10 (aa ae f10),V.sl n12 (aa ae f12),vi x14],V.pd [vi x15],V.pd [vi x16]]) (YC x0 s1 n2 f2 n4 f4 n6 f6 x8 x9 n10 f10 n12 f12 x14 x15 x16):=⟨by kernel_rfl,by kernel_rfl⟩
def jT:Int:=jV (ar (aX (ap (f6 x0.toNat)) x15.toNat)) (ar (aX (ap (f6 x0.toNat)) (wI (x15+1)).toNat)) (ar (f12 x15.toNat)) (ar (f12 (wI (x15+1)).toNat)) x16
def j8:Int:=jX (ar (aX (ap (f6 x0.toNat)) x15.toNat)) (ar (aX (ap (f6 x0.toNat)) (wI (x15+1)).toNat)) (ar (f12 x15.toNat)) (ar (f12 (wI (x15+1)).toNat)) x16
def QK:V:=dm (s1,n2,f2,n4,f4,n6,x8,x9,n10,f10,n12,x14) (.agg [vi (jT x0 f6 f12 x15 x16),vi (j8 x0 f6 f12 x15 x16)])
theorem agH (hp:Cv x0 n6 f6 n12 f12 x15):aR cq (YC x0 s1 n2 f2 n4 f4 n6 f6 x8 x9 n10 f10 n12 f12 x14 x15 x16) (QK x0 s1 n2 f2 n4 f4 n6 f6 x8 x9 n10 f10 n12 f12 x14 x15 x16):=aE (by first|assumption|((try rw[hp.w]);exact dqt (by obtain⟨h1,h2,h3⟩:=hp;omega))) (aE (by first|assumption|((try rw[hp.w]);exact dqt (by obtain⟨h1,h2,h3⟩:=hp;omega))) (aw (evObt (aE (by first|assumption|((try rw[hp.w]);exact dqt (by obtain⟨h1,h2,h3⟩:=hp;omega))) (aw (evObt (aE (by first|assumption|((try rw[hp.w]);exact dqt (by obtain⟨h1,h2,h3⟩:=hp;omega))) (aE (by first|assumption|((try rw[hp.w]);exact dqt (by obtain⟨h1,h2,h3⟩:=hp;omega))) (evObp (by first|assumption|((rw[hp.w];exact hp.2.2))) (evObt (evRet (by unfold QK jT j8;rfl))))))))))))
def aal:aB:=bF [tI,.pd [.str,.sl ae,.sl ae,.sl [.sl ae],tI,tI,.sl ae,.sl ae,tI],.pd ae,.pd ae] (fun
 |[.int _ x0,.pd [.str s1,.sl n2 f2,.sl n4 f4,.sl n6 f6,.int _ x8,.int _ x9,.sl n10 f10,.sl n12 f12,.int _ x14],.pd [.int _ x15],.pd [.int _ x16]]=>Cv x0 n6 f6 n12 f12 x15
 |_=>False) fun
 |[.int _ x0,.pd [.str s1,.sl n2 f2,.sl n4 f4,.sl n6 f6,.int _ x8,.int _ x9,.sl n10 f10,.sl n12 f12,.int _ x14],.pd [.int _ x15],.pd [.int _ x16]]=>QK x0 s1 n2 f2 n4 f4 n6 f6 x8 x9 n10 f10 n12 f12 x14 x15 x16
 |_=>.any
theorem adH:(vP aal).Ok Tryz.prog 224:=bV C6 Tryz.func224 (by kernel_rfl) fun ds hp=>cQ (UQ ..) (agH _ _ _ _ _ _ _ _ _ _ _ _ _ _ _ _ _ hp)
def Jm:bj:=(223,.con Z0)::(224,.con aal)::FH
theorem OJ:aW Tryz.prog eqs its Jm:=.con acd (.con adH (C6))
def lM:Prop:=(2<=n9/\n9<=1000)/\(2<=n11/\n11<=1000)/\(n9<=n5)/\(∀ i:Nat,i<n5->n11<=au (ap (f5 i)))/\(∀ i:Nat,i+1<n9->wI (ar (f9 (i+1))-ar (f9 i))≠0)/\(∀ i:Nat,i+1<n11->wI (ar (f11 (i+1))-ar (f11 i))≠0)
theorem lM.a {n5:Nat} {f5:Nat->List V} {n9:Nat} {f9:Nat->List V} {n11:Nat} {f11:Nat->List V} (h:lM n5 f5 n9 f9 n11 f11):2<=n9/\n9<=1000:=h.1
theorem lM.b {n5:Nat} {f5:Nat->List V} {n9:Nat} {f9:Nat->List V} {n11:Nat} {f11:Nat->List V} (h:lM n5 f5 n9 f9 n11 f11):2<=n11/\n11<=1000:=h.2.1
theorem lM.c {n5:Nat} {f5:Nat->List V} {n9:Nat} {f9:Nat->List V} {n11:Nat} {f11:Nat->List V} (h:lM n5 f5 n9 f9 n11 f11):n9<=n5:=h.2.2.1
theorem lM.d {n5:Nat} {f5:Nat->List V} {n9:Nat} {f9:Nat->List V} {n11:Nat} {f11:Nat->List V} (h:lM n5 f5 n9 f9 n11 f11):∀ i:Nat,i<n5->n11<=au (ap (f5 i)):=h.2.2.2.1
theorem lM.e {n5:Nat} {f5:Nat->List V} {n9:Nat} {f9:Nat->List V} {n11:Nat} {f11:Nat->List V} (h:lM n5 f5 n9 f9 n11 f11):∀ i:Nat,i+1<n9->wI (ar (f9 (i+1))-ar (f9 i))≠0:=h.2.2.2.2.1
theorem lM.g {n5:Nat} {f5:Nat->List V} {n9:Nat} {f9:Nat->List V} {n11:Nat} {f11:Nat->List V} (h:lM n5 f5 n9 f9 n11 f11):∀ i:Nat,i+1<n11->wI (ar (f11 (i+1))-ar (f11 i))≠0:=h.2.2.2.2.2
theorem oL {n:Nat} (f:Nat->List V) (x:Int) (h:2<=n/\n<=1000):0<=aO n f x/\aO n f x+1<(n:Int):=by
 unfold aO
 rw [wrapI (x:=(n:Int)-2) (by omega) (by omega)]
 generalize wI _=q
 omega
section
variable {n5:Nat} {f5:Nat->List V} {n9:Nat} {f9:Nat->List V} {n11:Nat} {f11:Nat->List V} (hp:lM n5 f5 n9 f9 n11 f11) (x14 x15:Int)
include hp
theorem vwW:wI (aO n9 (aa ae f9) x14+1)=aO n9 (aa ae f9) x14+1:=by
 have:=oL (aa ae f9) x14 hp.a
 have:=hp.a
 exact wrapI (by omega) (by omega)
theorem ajm (y:Int) (h:0<=y/\y<(n9:Int)):Cv y n5 f5 n11 f11 (aO n11 (aa ae f11) x15):=by
 have q:=oL (aa ae f11) x15 hp.b
 have hb:=hp.b
 have hc:=hp.c
 have hd:=hp.d y.toNat (by omega)
 have hg:=hp.g (aO n11 (aa ae f11) x15).toNat (by omega)
 refine ⟨by omega,⟨q.1,by omega,q.2,by omega⟩,?_⟩
 rw [show(aO n11 (aa ae f11) x15+1).toNat=(aO n11 (aa ae f11) x15).toNat+1 by omega]
 exact hg
theorem xn:Cv (aO n9 (aa ae f9) x14) n5 f5 n11 f11 (aO n11 (aa ae f11) x15):=by
 have p:=oL (aa ae f9) x14 hp.a
 exact ajm hp x15 _ (by omega)
theorem xy:Cv (wI (aO n9 (aa ae f9) x14+1)) n5 f5 n11 f11 (aO n11 (aa ae f11) x15):=by
 have p:=oL (aa ae f9) x14 hp.a
 rw [vwW hp]
 exact ajm hp x15 _ (by omega)
theorem ak0:decide (0<=aO n9 (aa ae f9) x14/\aO n9 (aa ae f9) x14<(n9:Int))=true:=by
 have p:=oL (aa ae f9) x14 hp.a
 exact dqt (by omega)
theorem akM:decide (0<=wI (aO n9 (aa ae f9) x14+1)/\wI (aO n9 (aa ae f9) x14+1)<(n9:Int))=true:=by
 have p:=oL (aa ae f9) x14 hp.a
 rw [vwW hp]
 exact dqt (by omega)
theorem vw9:wI (ar (f9 (wI (aO n9 (aa ae f9) x14+1)).toNat)-ar (f9 (aO n9 (aa ae f9) x14).toNat))≠0:=by
 have p:=oL (aa ae f9) x14 hp.a
 rw [vwW hp,show(aO n9 (aa ae f9) x14+1).toNat=(aO n9 (aa ae f9) x14).toNat+1 by omega]
 exact hp.e _ (by omega)
theorem Jh:(1<=n9/\n9<=1000)/\1<=n11/\n11<=1000:=by
 have:=hp.a
 have:=hp.b
 omega
end
def aaU:RT Empty:=dm (s0,n1,f1,n3,f3,x8,x13) (.obp (((1:Nat)<=n9/\n9<=(1000:Nat))/\(1:Nat)<=n11/\n11<=(1000:Nat)) (.obt (.br (!bk n9 (aa ae f9) n11 (aa ae f11) x14 x15) (.ret (V.agg [vi 0,vi x7])) (.obp (n9<=(1000:Nat)) (.obt (.obp (n11<=(1000:Nat)) (.obt (.obp (((0:Int)<=aO n9 (aa ae f9) x14/\aO n9 (aa ae f9) x14<(↑n5:Int))/\((0:Int)<=aO n11 (aa ae f11) x15/\aO n11 (aa ae f11) x15+(1:Int)<(↑(au (ap (f5 (aO n9 (aa ae f9) x14).toNat))):Int)/\aO n11 (aa ae f11) x15+(1:Int)<(↑n11:Int)/\n11<=(1000:Nat))/\wI (ar (f11 (aO n11 (aa ae f11) x15+(1:Int)).toNat)-ar (f11 (aO n11 (aa ae f11) x15).toNat))≠(0:Int)) (.obt (.obp (((0:Int)<=wI (aO n9 (aa ae f9) x14+(1:Int))/\wI (aO n9 (aa ae f9) x14+(1:Int))<(↑n5:Int))/\((0:Int)<=aO n11 (aa ae f11) x15/\aO n11 (aa ae f11) x15+(1:Int)<(↑(au (ap (f5 (wI (aO n9 (aa ae f9) x14+(1:Int))).toNat))):Int)/\aO n11 (aa ae f11) x15+(1:Int)<(↑n11:Int)/\n11<=(1000:Nat))/\wI (ar (f11 (aO n11 (aa ae f11) x15+(1:Int)).toNat)-ar (f11 (aO n11 (aa ae f11) x15).toNat))≠(0:Int)) (.obt (.ob (dI (aO n9 (aa ae f9) x14) n9) (.ob (dI (wI (aO n9 (aa ae f9) x14+1)) n9) (.obp (wI (ar (f9 (wI (aO n9 (aa ae f9) x14+(1:Int))).toNat)-ar (f9 (aO n9 (aa ae f9) x14).toNat))=(0:Int)->False) (.obt (.ret (V.agg [vi (jV (jT (aO n9 (aa ae f9) x14) (aa [Ty.sl ae] f5) (aa ae f11) (aO n11 (aa ae f11) x15) x15) (jT (wI (aO n9 (aa ae f9) x14+1)) (aa [Ty.sl ae] f5) (aa ae f11) (aO n11 (aa ae f11) x15) x15) (ar (f9 (aO n9 (aa ae f9) x14).toNat)) (ar (f9 (wI (aO n9 (aa ae f9) x14+1)).toNat)) x14),vi (jX (j8 (aO n9 (aa ae f9) x14) (aa [Ty.sl ae] f5) (aa ae f11) (aO n11 (aa ae f11) x15) x15) (j8 (wI (aO n9 (aa ae f9) x14+1)) (aa [Ty.sl ae] f5) (aa ae f11) (aO n11 (aa ae f11) x15) x15) (ar (f9 (aO n9 (aa ae f9) x14).toNat)) (ar (f9 (wI (aO n9 (aa ae f9) x14+1)).toNat)) x14)])))))))))))))))))
theorem Td:cJ cL (aP JJ Jm u0 m4 [V.agg [V.str s0,V.sl n1 (aa ae f1),V.sl n3 (aa ae f3),V.sl n5 (aa [Ty.sl ae] f5),vi x7,vi x8,V.sl n9 (aa ae f9),V.sl n11 (aa ae f11),vi x13],vi x14,vi x15]) (aaU s0 n1 f1 n3 f3 n5 f5 x7 x8 n9 f9 n11 f11 x13 x14 x15):=⟨by kernel_rfl,by kernel_rfl⟩
def bc:Int:=bif !bk n9 (aa ae f9) n11 (aa ae f11) x14 x15 then 0 else jV (jT (aO n9 (aa ae f9) x14) (aa [Ty.sl ae] f5) (aa ae f11) (aO n11 (aa ae f11) x15) x15) (jT (wI (aO n9 (aa ae f9) x14+1)) (aa [Ty.sl ae] f5) (aa ae f11) (aO n11 (aa ae f11) x15) x15) (ar (f9 (aO n9 (aa ae f9) x14).toNat)) (ar (f9 (wI (aO n9 (aa ae f9) x14+1)).toNat)) x14
def be:Int:=bif !bk n9 (aa ae f9) n11 (aa ae f11) x14 x15 then x7 else jX (j8 (aO n9 (aa ae f9) x14) (aa [Ty.sl ae] f5) (aa ae f11) (aO n11 (aa ae f11) x15) x15) (j8 (wI (aO n9 (aa ae f9) x14+1)) (aa [Ty.sl ae] f5) (aa ae f11) (aO n11 (aa ae f11) x15) x15) (ar (f9 (aO n9 (aa ae f9) x14).toNat)) (ar (f9 (wI (aO n9 (aa ae f9) x14+1)).toNat)) x14
def EE:V:=dm (s0,n1,f1,n3,f3,n5,x8,x13) (.agg [vi (bc f5 n9 f9 n11 f11 x14 x15),vi (be f5 x7 n9 f9 n11 f11 x14 x15)])
theorem ah6 (hp:lM n5 f5 n9 f9 n11 f11):aR cq (aaU s0 n1 f1 n3 f3 n5 f5 x7 x8 n9 f9 n11 f11 x13 x14 x15) (EE s0 n1 f1 n3 f3 n5 f5 x7 x8 n9 f9 n11 f11 x13 x14 x15):=evObp (by first|assumption|(first|exact hp.a.2|exact hp.b.2|exact Jh hp|exact vw9 hp x14|exact xn hp x14 x15|exact xy hp x14 x15)) (evObt (evBr (fun h0=>evRet (by unfold EE bc be;try rw[h0];rfl)) (fun h0=>evObp (by first|assumption|(first|exact hp.a.2|exact hp.b.2|exact Jh hp|exact vw9 hp x14|exact xn hp x14 x15|exact xy hp x14 x15)) (evObt (evObp (by first|assumption|(first|exact hp.a.2|exact hp.b.2|exact Jh hp|exact vw9 hp x14|exact xn hp x14 x15|exact xy hp x14 x15)) (evObt (evObp (by first|assumption|(first|exact hp.a.2|exact hp.b.2|exact Jh hp|exact vw9 hp x14|exact xn hp x14 x15|exact xy hp x14 x15)) (evObt (evObp (by first|assumption|(first|exact hp.a.2|exact hp.b.2|exact Jh hp|exact vw9 hp x14|exact xn hp x14 x15|exact xy hp x14 x15)) (evObt (aE (by first|assumption|(first|exact ak0 hp x14|exact akM hp x14)) (aE (by first|assumption|(first|exact ak0 hp x14|exact akM hp x14)) (evObp (by first|assumption|(first|exact hp.a.2|exact hp.b.2|exact Jh hp|exact vw9 hp x14|exact xn hp x14 x15|exact xy hp x14 x15)) (evObt (evRet (by unfold EE bc be;try rw[h0];rfl))))))))))))))))
def ZB:aB:=bF [.agg [.str,.sl ae,.sl ae,.sl [.sl ae],tI,tI,.sl ae,.sl ae,tI],tI,tI] (fun
 |[.agg [.str s0,.sl n1 f1,.sl n3 f3,.sl n5 f5,.int _ x7,.int _ x8,.sl n9 f9,.sl n11 f11,.int _ x13],.int _ x14,.int _ x15]=>lM n5 f5 n9 f9 n11 f11
 |_=>False) fun
 |[.agg [.str s0,.sl n1 f1,.sl n3 f3,.sl n5 f5,.int _ x7,.int _ x8,.sl n9 f9,.sl n11 f11,.int _ x13],.int _ x14,.int _ x15]=>EE s0 n1 f1 n3 f3 n5 f5 x7 x8 n9 f9 n11 f11 x13 x14 x15
 |_=>.any
theorem ab0:(vP ZB).Ok Tryz.prog 168:=bV OJ Tryz.func168 (by kernel_rfl) fun ds hp=>cQ (Td ..) (ah6 _ _ _ _ _ _ _ _ _ _ _ _ _ _ _ _ hp)
def vJ:bj:=(169,.inl MJ u0)::(168,.con ZB)::Jm
theorem Pq:aW Tryz.prog eqs its vJ:=fZ Tryz.func169 (by kernel_rfl) (.con ab0 (OJ))
inductive dW where
 |L0 (ia0:Int) (na1:Nat) (ia2 ia3:Int) (na4:Nat)
 |L2 (ic0:Int) (nc1:Nat) (ic2 ic3:Int)
 |L4 (ie0:Int) (ne1:Nat) (ie2 ie3:Int) (ne4:Nat) (ie5:Int) (ne6:Nat) (ie7 ie8:Int)
 |L5 (if0:Int) (nf1:Nat) (if2 if3 if4:Int) (nf5:Nat) (if6 if7 if8:Int)
def zN (l:List O):List O:=O.cells [V.str s0,V.sl n1 (aa ae f1),V.sl n3 (aa ae f3),V.sl n5 (aa [Ty.sl ae] f5),vi x7,vi x8,V.sl n9 (aa ae f9),V.sl n11 (aa ae f11),vi x13] 161::O.cells [vi x14,vi x15,vi x16,vi x17] 55::O.cells [vi 0,vi 0] 39::O.cells [vi (wI (1000*x16))] 3::O.cells [vi (wI (1000*x17))] 3::O.cells [vi (bc (aa [Ty.sl ae] f5) n9 (aa ae f9) n11 (aa ae f11) (wI (1000*x14)) (wI (1000*x17))),vi (be (aa [Ty.sl ae] f5) x7 n9 (aa ae f9) n11 (aa ae f11) (wI (1000*x14)) (wI (1000*x17))),vi (bc (aa [Ty.sl ae] f5) n9 (aa ae f9) n11 (aa ae f11) (wI (1000*x15)) (wI (1000*x16))),vi (be (aa [Ty.sl ae] f5) x7 n9 (aa ae f9) n11 (aa ae f11) (wI (1000*x15)) (wI (1000*x16))),vi (bc (aa [Ty.sl ae] f5) n9 (aa ae f9) n11 (aa ae f11) (wI (1000*x15)) (wI (1000*x17))),vi (be (aa [Ty.sl ae] f5) x7 n9 (aa ae f9) n11 (aa ae f11) (wI (1000*x15)) (wI (1000*x17)))] 39::l
def sX:dW->bz×List O×Option Ex
 |.L0 ia0 na1 ia2 ia3 na4=>([(19,vi ia0),(18,vi (↑n11:Int)),(17,V.sl n11 (aa ae f11)),(16,V.kb false),(15,V.kb false),(14,V.kb true),(13,vi (wI (1000*x17))),(12,V.yl na1),(11,V.kb false),(10,V.kb false),(9,V.kb true),(8,vi (wI (1000*x16))),(7,V.yl na1),(0,V.yl na1),(1,V.pl 12 0),(2,V.pl 13 0),(3,V.pl 11 0)],zN s0 n1 f1 n3 f3 n5 f5 x7 x8 n9 f9 n11 f11 x13 x14 x15 x16 x17 [O.cells [vi ia2,vi ia3] 39,O.cells [V.sl n9 (aa ae f9)] 32,O.cells [vi (wI (1000*x14))] 3,O.cells [vi (wI (1000*x15))] 3,O.cells [vi (wI (1000*x14))] 3,O.cells [V.sl n11 (aa ae f11)] 32,O.cells [vi (wI (1000*x16))] 3,O.cells [vi (wI (1000*x17))] 3],none)
 |.L2 ic0 nc1 ic2 ic3=>([(19,vi ic0),(18,vi (↑n9:Int)),(17,V.sl n9 (aa ae f9)),(16,V.kb false),(15,V.kb false),(14,V.kb true),(13,vi (wI (1000*x15))),(12,V.yl nc1),(11,V.kb false),(10,V.kb false),(9,V.kb true),(8,vi (wI (1000*x14))),(7,V.yl nc1),(0,V.yl nc1),(1,V.pl 8 0),(2,V.pl 9 0),(3,V.pl 7 0)],zN s0 n1 f1 n3 f3 n5 f5 x7 x8 n9 f9 n11 f11 x13 x14 x15 x16 x17 [O.cells [vi ic2,vi ic3] 39,O.cells [V.sl n9 (aa ae f9)] 32,O.cells [vi (wI (1000*x14))] 3,O.cells [vi (wI (1000*x15))] 3],none)
 |.L4 ie0 ne1 ie2 ie3 ne4 ie5 ne6 ie7 ie8=>([(19,vi ie0),(18,vi (↑n11:Int)),(17,V.sl n11 (aa ae f11)),(16,V.kb false),(15,V.kb false),(14,V.kb true),(13,vi (wI (1000*x17))),(12,V.yl ne1),(11,V.kb false),(10,V.kb false),(9,V.kb true),(8,vi (wI (1000*x16))),(7,V.yl ne1),(0,V.yl ne1),(1,V.pl 16 0),(2,V.pl 17 0),(3,V.pl 15 0)],zN s0 n1 f1 n3 f3 n5 f5 x7 x8 n9 f9 n11 f11 x13 x14 x15 x16 x17 [O.cells [vi ie2,vi ie3] 39,O.cells [V.sl n9 (aa ae f9)] 32,O.cells [vi (wI (1000*x14))] 3,O.cells [vi (wI (1000*x15))] 3,O.cells [vi (wI (1000*x14))] 3,O.cells [V.sl n11 (aa ae f11)] 32,O.cells [vi (wI (1000*x16))] 3,O.cells [vi (wI (1000*x17))] 3,O.cells [vi (wI (1000*x15))] 3,O.cells [V.sl n11 (aa ae f11)] 32,O.cells [vi (wI (1000*x16))] 3,O.cells [vi (wI (1000*x17))] 3],none)
 |.L5 if0 nf1 if2 if3 if4 nf5 if6 if7 if8=>([(19,vi if0),(18,vi (↑n11:Int)),(17,V.sl n11 (aa ae f11)),(16,V.kb false),(15,V.kb false),(14,V.kb true),(13,vi (wI (1000*x17))),(12,V.yl nf1),(11,V.kb false),(10,V.kb false),(9,V.kb true),(8,vi (wI (1000*x16))),(7,V.yl nf1),(0,V.yl nf1),(1,V.pl 12 0),(2,V.pl 13 0),(3,V.pl 11 0)],zN s0 n1 f1 n3 f3 n5 f5 x7 x8 n9 f9 n11 f11 x13 x14 x15 x16 x17 [O.cells [vi if2,vi if3] 39,O.cells [V.sl n9 (aa ae f9)] 32,O.cells [vi (wI (1000*x14))] 3,O.cells [vi (wI (1000*x15))] 3,O.cells [vi if4] 3,O.cells [V.sl n11 (aa ae f11)] 32,O.cells [vi (wI (1000*x16))] 3,O.cells [vi (wI (1000*x17))] 3],none)
def adJ:dW->JJ
 |.L0 ia0 na1 ia2 ia3 na4=>(0,[Cx.n na4,Cx.n na1])
 |.L2 ic0 nc1 ic2 ic3=>(2,[Cx.n nc1])
 |.L4 ie0 ne1 ie2 ie3 ne4 ie5 ne6 ie7 ie8=>(4,[Cx.n ne4,Cx.i ie5,Cx.n ne6,Cx.i ie7,Cx.i ie8,Cx.n ne1])
 |.L5 if0 nf1 if2 if3 if4 nf5 if6 if7 if8=>(5,[Cx.n nf5,Cx.i if6,Cx.i if7,Cx.i if8,Cx.n nf1])
def PQ:T (bO JJ):=aP JJ vJ u0 uh [V.agg [V.str s0,V.sl n1 (aa ae f1),V.sl n3 (aa ae f3),V.sl n5 (aa [Ty.sl ae] f5),vi x7,vi x8,V.sl n9 (aa ae f9),V.sl n11 (aa ae f11),vi x13],V.agg [vi x14,vi x15,vi x16,vi x17]]
def uf (cx:List Cx):Lp JJ:=eR (ej (afT (ej (afT (ej (PQ s0 n1 f1 n3 f3 n5 f5 x7 x8 n9 f9 n11 f11 x13 x14 x15 x16 x17) []) (wL cx 0)) []) (wL cx 1)) [true,true])
def As (cx:List Cx):Lp JJ:=eR (ej (afT (ej (vX vJ u0 (0,[.n (wL cx 0),.n (wL cx 2)]) (uf s0 n1 f1 n3 f3 n5 f5 x7 x8 n9 f9 n11 f11 x13 x14 x15 x16 x17 [.n (wL cx 0),.n (wL cx 2)]) (sX s0 n1 f1 n3 f3 n5 f5 x7 x8 n9 f9 n11 f11 x13 x14 x15 x16 x17 (.L0 (Kx cx 1) (wL cx 2) (Kx cx 3) (Kx cx 4) (wL cx 0)))) [false]) (wL cx 5)) [true,true])
def B5 (cx:List Cx):Lp JJ:=eR (ej (vX vJ u0 (4,[.n (wL cx 0),.i (0:Int),.n 0,.i (0:Int),.i (0:Int),.n 0]) (As s0 n1 f1 n3 f3 n5 f5 x7 x8 n9 f9 n11 f11 x13 x14 x15 x16 x17 [.n (wL cx 0),.i (0:Int),.n 0,.i (0:Int),.i (0:Int),.n 0]) (sX s0 n1 f1 n3 f3 n5 f5 x7 x8 n9 f9 n11 f11 x13 x14 x15 x16 x17 (.L4 (0:Int) 0 (0:Int) (0:Int) (wL cx 0) (0:Int) 0 (0:Int) (0:Int)))) [false])
def Pi (cx:List Cx):Lp JJ:=eR (ej (afT (ej (vX vJ u0 (2,[.n (wL cx 0)]) (B5 s0 n1 f1 n3 f3 n5 f5 x7 x8 n9 f9 n11 f11 x13 x14 x15 x16 x17 [.n (wL cx 0)]) (sX s0 n1 f1 n3 f3 n5 f5 x7 x8 n9 f9 n11 f11 x13 x14 x15 x16 x17 (.L2 (Kx cx 1) (wL cx 0) (Kx cx 2) (Kx cx 3)))) [true,true]) (wL cx 4)) [true,true])
def ag3:JJ->Lp JJ
 |(0,cx)=>uf s0 n1 f1 n3 f3 n5 f5 x7 x8 n9 f9 n11 f11 x13 x14 x15 x16 x17 cx
 |(2,cx)=>B5 s0 n1 f1 n3 f3 n5 f5 x7 x8 n9 f9 n11 f11 x13 x14 x15 x16 x17 cx
 |(4,cx)=>As s0 n1 f1 n3 f3 n5 f5 x7 x8 n9 f9 n11 f11 x13 x14 x15 x16 x17 cx
 |(5,cx)=>Pi s0 n1 f1 n3 f3 n5 f5 x7 x8 n9 f9 n11 f11 x13 x14 x15 x16 x17 cx
 |(_,cx)=>uf s0 n1 f1 n3 f3 n5 f5 x7 x8 n9 f9 n11 f11 x13 x14 x15 x16 x17 cx
def ami:LD JJ dW:=⟨adJ,ag3 s0 n1 f1 n3 f3 n5 f5 x7 x8 n9 f9 n11 f11 x13 x14 x15 x16 x17,sX s0 n1 f1 n3 f3 n5 f5 x7 x8 n9 f9 n11 f11 x13 x14 x15 x16 x17⟩
def E8:=aa bZ (bn [vi (bc (aa [Ty.sl ae] f5) n9 (aa ae f9) n11 (aa ae f11) (wI (1000*x14)) (wI (1000*x17))),vi (be (aa [Ty.sl ae] f5) x7 n9 (aa ae f9) n11 (aa ae f11) (wI (1000*x14)) (wI (1000*x17))),vi (bc (aa [Ty.sl ae] f5) n9 (aa ae f9) n11 (aa ae f11) (wI (1000*x15)) (wI (1000*x16))),vi (be (aa [Ty.sl ae] f5) x7 n9 (aa ae f9) n11 (aa ae f11) (wI (1000*x15)) (wI (1000*x16))),vi (bc (aa [Ty.sl ae] f5) n9 (aa ae f9) n11 (aa ae f11) (wI (1000*x15)) (wI (1000*x17))),vi (be (aa [Ty.sl ae] f5) x7 n9 (aa ae f9) n11 (aa ae f11) (wI (1000*x15)) (wI (1000*x17)))] 0 2)
def d8:=((2:Nat)<=n9/\n9<=(1000:Nat))/\((2:Nat)<=n11/\n11<=(1000:Nat))/\n9<=n5/\(∀ (i:Nat),i<n5->n11<=au (ap (f5 i)))/\(∀ (i:Nat),i+(1:Nat)<n9->wI (ar (f9 (i+(1:Nat)))-ar (f9 i))≠(0:Int))/\∀ (i:Nat),i+(1:Nat)<n11->wI (ar (f11 (i+(1:Nat)))-ar (f11 i))≠(0:Int)
def tp:=aa bZ (bn [vi (bc (aa [Ty.sl ae] f5) n9 (aa ae f9) n11 (aa ae f11) (wI (1000*x15)) (wI (1000*x16))),vi (be (aa [Ty.sl ae] f5) x7 n9 (aa ae f9) n11 (aa ae f11) (wI (1000*x15)) (wI (1000*x16)))] 0 2)
def s8:=aa bZ (bn [vi (bc (aa [Ty.sl ae] f5) n9 (aa ae f9) n11 (aa ae f11) (wI (1000*x15)) (wI (1000*x17))),vi (be (aa [Ty.sl ae] f5) x7 n9 (aa ae f9) n11 (aa ae f11) (wI (1000*x15)) (wI (1000*x17)))] 0 2)
def s9:=aa bZ (bn [vi (bc (aa [Ty.sl ae] f5) n9 (aa ae f9) n11 (aa ae f11) (wI (1000*x14)) (wI (1000*x16))),vi (be (aa [Ty.sl ae] f5) x7 n9 (aa ae f9) n11 (aa ae f11) (wI (1000*x14)) (wI (1000*x16)))] 0 2)
def s3:=aa bZ (bn [vi (bc (aa [Ty.sl ae] f5) n9 (aa ae f9) n11 (aa ae f11) (wI (1000*x14)) (wI (1000*x17))),vi (be (aa [Ty.sl ae] f5) x7 n9 (aa ae f9) n11 (aa ae f11) (wI (1000*x14)) (wI (1000*x17)))] 0 2)
def sZ (x16 ic0:Int):=aa bZ (bn [vi (bc (aa [Ty.sl ae] f5) n9 (aa ae f9) n11 (aa ae f11) (ar (f9 ic0.toNat)) (wI (1000*x16))),vi (be (aa [Ty.sl ae] f5) x7 n9 (aa ae f9) n11 (aa ae f11) (ar (f9 ic0.toNat)) (wI (1000*x16)))] 0 2)
def tl (x17 ic0:Int):=aa bZ (bn [vi (bc (aa [Ty.sl ae] f5) n9 (aa ae f9) n11 (aa ae f11) (ar (f9 ic0.toNat)) (wI (1000*x17))),vi (be (aa [Ty.sl ae] f5) x7 n9 (aa ae f9) n11 (aa ae f11) (ar (f9 ic0.toNat)) (wI (1000*x17)))] 0 2)
def tu:=dn (be (aa [Ty.sl ae] f5) x7 n9 (aa ae f9) n11 (aa ae f11) (wI (1000*x14)) (wI (1000*x16))) 3 (E8 f5 x7 n9 f9 n11 f11 x14 x15 x16 x17)
def p7:=dl (bc (aa [Ty.sl ae] f5) n9 (aa ae f9) n11 (aa ae f11) (wI (1000*x14)) (wI (1000*x16))) 3 (E8 f5 x7 n9 f9 n11 f11 x14 x15 x16 x17)
def BR (x14 ia0:Int):=aa bZ (bn [vi (bc (aa [Ty.sl ae] f5) n9 (aa ae f9) n11 (aa ae f11) (wI (1000*x14)) (ar (f11 ia0.toNat))),vi (be (aa [Ty.sl ae] f5) x7 n9 (aa ae f9) n11 (aa ae f11) (wI (1000*x14)) (ar (f11 ia0.toNat)))] 0 2)
def Ag (x15 ie0:Int):=aa bZ (bn [vi (bc (aa [Ty.sl ae] f5) n9 (aa ae f9) n11 (aa ae f11) (wI (1000*x15)) (ar (f11 ie0.toNat))),vi (be (aa [Ty.sl ae] f5) x7 n9 (aa ae f9) n11 (aa ae f11) (wI (1000*x15)) (ar (f11 ie0.toNat)))] 0 2)
def BZ (if0 if4:Int):=aa bZ (bn [vi (bc (aa [Ty.sl ae] f5) n9 (aa ae f9) n11 (aa ae f11) if4 (ar (f11 if0.toNat))),vi (be (aa [Ty.sl ae] f5) x7 n9 (aa ae f9) n11 (aa ae f11) if4 (ar (f11 if0.toNat)))] 0 2)
def vK (x16 x17 ia0:Int):=bif decide (wI (1000*x16)<ar (f11 ia0.toNat)) then decide (ar (f11 ia0.toNat)<wI (1000*x17)) else false
def vO (x16 x17 ie0:Int):=bif decide (wI (1000*x16)<ar (f11 ie0.toNat)) then decide (ar (f11 ie0.toNat)<wI (1000*x17)) else false
def vV (x16 x17 if0:Int):=bif decide (wI (1000*x16)<ar (f11 if0.toNat)) then decide (ar (f11 if0.toNat)<wI (1000*x17)) else false
def uW (x14 x15 ic0:Int):=bif decide (wI (1000*x14)<ar (f9 ic0.toNat)) then decide (ar (f9 ic0.toNat)<wI (1000*x15)) else false
def fv (s0:ByteArray) (n1:Nat) (f1:aN) (n3:Nat) (f3:aN) (n5:Nat) (f5:aN) (x7 x8:Int) (n9:Nat) (f9:aN) (n11:Nat) (f11:aN) (x13 x14 x15 x16 x17:Int):dW->RT dW
 |.L0 ia0 na1 ia2 ia3 na4=>.br (decide (ia0<(↑n11:Int))) (.ob (dI ia0 n11) (.ii (.obi (.br (vK f11 x16 x17 ia0) (.ob (vK f11 x16 x17 ia0) (.ob (vK f11 x16 x17 ia0) (.obp (((1:Nat)<=n9/\n9<=(1000:Nat))/\(1:Nat)<=n11/\n11<=(1000:Nat)) (.obt (.br (bk n9 (aa ae f9) n11 (aa ae f11) (wI (1000*x14)) (ar (f11 ia0.toNat))) (.obp (d8 n5 f5 n9 f9 n11 f11) (.obt (.cb (.next (iR 0 14 []) (dW.L0 (wI (ia0+1)) (na1) (dl ia2 1 (BR f5 x7 n9 f9 n11 f11 x14 ia0)) (dn ia3 1 (BR f5 x7 n9 f9 n11 f11 x14 ia0)) (na4)) [])))) (.next (iR 0 14 []) (dW.L0 (wI (ia0+1)) (na1) (ia2) (ia3) (na4)) [])))))) (.next (iR 0 14 []) (dW.L0 (wI (ia0+1)) (na1) (ia2) (ia3) (na4)) []))))) (.all (fun l_12647=>.obp (((1:Nat)<=n9/\n9<=(1000:Nat))/\(1:Nat)<=n11/\n11<=(1000:Nat)) (.obt (.br (bk n9 (aa ae f9) n11 (aa ae f11) (wI (1000*x15)) (wI (1000*x16))) (.obp (d8 n5 f5 n9 f9 n11 f11) (.obt (.cb (.obp (((1:Nat)<=n9/\n9<=(1000:Nat))/\(1:Nat)<=n11/\n11<=(1000:Nat)) (.obt (.br (bk n9 (aa ae f9) n11 (aa ae f11) (wI (1000*x15)) (wI (1000*x17))) (.obp (d8 n5 f5 n9 f9 n11 f11) (.obt (.cb (.am n11 (.enter (iR 0 18 []) (dW.L4 (0) (l_12647) (dl (dl ia2 1 (tp f5 x7 n9 f9 n11 f11 x15 x16)) 1 (s8 f5 x7 n9 f9 n11 f11 x15 x17)) (dn (dn ia3 1 (tp f5 x7 n9 f9 n11 f11 x15 x16)) 1 (s8 f5 x7 n9 f9 n11 f11 x15 x17)) (na4) (ia0) (na1) (ia2) (ia3)) []))))) (.am n11 (.enter (iR 0 18 []) (dW.L4 (0) (l_12647) (dl ia2 1 (tp f5 x7 n9 f9 n11 f11 x15 x16)) (dn ia3 1 (tp f5 x7 n9 f9 n11 f11 x15 x16)) (na4) (ia0) (na1) (ia2) (ia3)) [])))))))) (.obp (((1:Nat)<=n9/\n9<=(1000:Nat))/\(1:Nat)<=n11/\n11<=(1000:Nat)) (.obt (.br (bk n9 (aa ae f9) n11 (aa ae f11) (wI (1000*x15)) (wI (1000*x17))) (.obp (d8 n5 f5 n9 f9 n11 f11) (.obt (.cb (.am n11 (.enter (iR 0 18 []) (dW.L4 (0) (l_12647) (dl ia2 1 (s8 f5 x7 n9 f9 n11 f11 x15 x17)) (dn ia3 1 (s8 f5 x7 n9 f9 n11 f11 x15 x17)) (na4) (ia0) (na1) (ia2) (ia3)) []))))) (.am n11 (.enter (iR 0 18 []) (dW.L4 (0) (l_12647) (ia2) (ia3) (na4) (ia0) (na1) (ia2) (ia3)) [])))))))))
 |.L2 ic0 nc1 ic2 ic3=>.br (decide (ic0<(↑n9:Int))) (.ob (dI ic0 n9) (.ii (.obi (.br (uW f9 x14 x15 ic0) (.ob (uW f9 x14 x15 ic0) (.ob (uW f9 x14 x15 ic0) (.all (fun l_12833=>.obp (((1:Nat)<=n9/\n9<=(1000:Nat))/\(1:Nat)<=n11/\n11<=(1000:Nat)) (.obt (.br (bk n9 (aa ae f9) n11 (aa ae f11) (ar (f9 ic0.toNat)) (wI (1000*x16))) (.obp (d8 n5 f5 n9 f9 n11 f11) (.obt (.cb (.obp (((1:Nat)<=n9/\n9<=(1000:Nat))/\(1:Nat)<=n11/\n11<=(1000:Nat)) (.obt (.br (bk n9 (aa ae f9) n11 (aa ae f11) (ar (f9 ic0.toNat)) (wI (1000*x17))) (.obp (d8 n5 f5 n9 f9 n11 f11) (.obt (.cb (.am n11 (.enter (iR 0 14 []) (dW.L5 (0) (l_12833) (dl (dl ic2 1 (sZ f5 x7 n9 f9 n11 f11 x16 ic0)) 1 (tl f5 x7 n9 f9 n11 f11 x17 ic0)) (dn (dn ic3 1 (sZ f5 x7 n9 f9 n11 f11 x16 ic0)) 1 (tl f5 x7 n9 f9 n11 f11 x17 ic0)) (ar (f9 ic0.toNat)) (nc1) (ic0) (ic2) (ic3)) []))))) (.am n11 (.enter (iR 0 14 []) (dW.L5 (0) (l_12833) (dl ic2 1 (sZ f5 x7 n9 f9 n11 f11 x16 ic0)) (dn ic3 1 (sZ f5 x7 n9 f9 n11 f11 x16 ic0)) (ar (f9 ic0.toNat)) (nc1) (ic0) (ic2) (ic3)) [])))))))) (.obp (((1:Nat)<=n9/\n9<=(1000:Nat))/\(1:Nat)<=n11/\n11<=(1000:Nat)) (.obt (.br (bk n9 (aa ae f9) n11 (aa ae f11) (ar (f9 ic0.toNat)) (wI (1000*x17))) (.obp (d8 n5 f5 n9 f9 n11 f11) (.obt (.cb (.am n11 (.enter (iR 0 14 []) (dW.L5 (0) (l_12833) (dl ic2 1 (tl f5 x7 n9 f9 n11 f11 x17 ic0)) (dn ic3 1 (tl f5 x7 n9 f9 n11 f11 x17 ic0)) (ar (f9 ic0.toNat)) (nc1) (ic0) (ic2) (ic3)) []))))) (.am n11 (.enter (iR 0 14 []) (dW.L5 (0) (l_12833) (ic2) (ic3) (ar (f9 ic0.toNat)) (nc1) (ic0) (ic2) (ic3)) []))))))))))) (.next (iR 0 10 []) (dW.L2 (wI (ic0+1)) (nc1) (ic2) (ic3)) []))))) (.ret (V.agg [vi ic2,vi ic3]))
 |.L4 ie0 ne1 ie2 ie3 ne4 ie5 ne6 ie7 ie8=>.br (decide (ie0<(↑n11:Int))) (.ob (dI ie0 n11) (.ii (.obi (.br (vO f11 x16 x17 ie0) (.ob (vO f11 x16 x17 ie0) (.ob (vO f11 x16 x17 ie0) (.obp (((1:Nat)<=n9/\n9<=(1000:Nat))/\(1:Nat)<=n11/\n11<=(1000:Nat)) (.obt (.br (bk n9 (aa ae f9) n11 (aa ae f11) (wI (1000*x15)) (ar (f11 ie0.toNat))) (.obp (d8 n5 f5 n9 f9 n11 f11) (.obt (.cb (.next (iR 0 18 []) (dW.L4 (wI (ie0+1)) (ne1) (dl ie2 1 (Ag f5 x7 n9 f9 n11 f11 x15 ie0)) (dn ie3 1 (Ag f5 x7 n9 f9 n11 f11 x15 ie0)) (ne4) (ie5) (ne6) (ie7) (ie8)) [])))) (.next (iR 0 18 []) (dW.L4 (wI (ie0+1)) (ne1) (ie2) (ie3) (ne4) (ie5) (ne6) (ie7) (ie8)) [])))))) (.next (iR 0 18 []) (dW.L4 (wI (ie0+1)) (ne1) (ie2) (ie3) (ne4) (ie5) (ne6) (ie7) (ie8)) []))))) (.am n9 (.enter (iR 0 10 []) (dW.L2 (0) (ne4) (ie2) (ie3)) []))
 |.L5 if0 nf1 if2 if3 if4 nf5 if6 if7 if8=>.br (decide (if0<(↑n11:Int))) (.ob (dI if0 n11) (.ii (.obi (.br (vV f11 x16 x17 if0) (.ob (vV f11 x16 x17 if0) (.ob (vV f11 x16 x17 if0) (.obp (((1:Nat)<=n9/\n9<=(1000:Nat))/\(1:Nat)<=n11/\n11<=(1000:Nat)) (.obt (.br (bk n9 (aa ae f9) n11 (aa ae f11) if4 (ar (f11 if0.toNat))) (.obp (d8 n5 f5 n9 f9 n11 f11) (.obt (.cb (.next (iR 0 14 []) (dW.L5 (wI (if0+1)) (nf1) (dl if2 1 (BZ f5 x7 n9 f9 n11 f11 if0 if4)) (dn if3 1 (BZ f5 x7 n9 f9 n11 f11 if0 if4)) (if4) (nf5) (if6) (if7) (if8)) [])))) (.next (iR 0 14 []) (dW.L5 (wI (if0+1)) (nf1) (if2) (if3) (if4) (nf5) (if6) (if7) (if8)) [])))))) (.next (iR 0 14 []) (dW.L5 (wI (if0+1)) (nf1) (if2) (if3) (if4) (nf5) (if6) (if7) (if8)) []))))) (.next (iR 0 10 []) (dW.L2 (wI (if6+1)) (nf5) (if2) (if3)) [])
def Yf:RT dW:=dm (s0,n1,f1,n3,f3,x8,x13) (.obp (d8 n5 f5 n9 f9 n11 f11) (.obt (.obp (d8 n5 f5 n9 f9 n11 f11) (.obt (.obp (d8 n5 f5 n9 f9 n11 f11) (.obt (.obp (d8 n5 f5 n9 f9 n11 f11) (.obt (.cb (.all (fun l_12550=>.all (fun l_12551=>.obp (((1:Nat)<=n9/\n9<=(1000:Nat))/\(1:Nat)<=n11/\n11<=(1000:Nat)) (.obt (.br (bk n9 (aa ae f9) n11 (aa ae f11) (wI (1000*x14)) (wI (1000*x16))) (.obp (d8 n5 f5 n9 f9 n11 f11) (.obt (.cb (.obp (((1:Nat)<=n9/\n9<=(1000:Nat))/\(1:Nat)<=n11/\n11<=(1000:Nat)) (.obt (.br (bk n9 (aa ae f9) n11 (aa ae f11) (wI (1000*x14)) (wI (1000*x17))) (.obp (d8 n5 f5 n9 f9 n11 f11) (.obt (.cb (.am n11 (.enter (iR 0 14 []) (dW.L0 (0) (l_12551) (dl (dl (p7 f5 x7 n9 f9 n11 f11 x14 x15 x16 x17) 1 (s9 f5 x7 n9 f9 n11 f11 x14 x16)) 1 (s3 f5 x7 n9 f9 n11 f11 x14 x17)) (dn (dn (tu f5 x7 n9 f9 n11 f11 x14 x15 x16 x17) 1 (s9 f5 x7 n9 f9 n11 f11 x14 x16)) 1 (s3 f5 x7 n9 f9 n11 f11 x14 x17)) (l_12550)) []))))) (.am n11 (.enter (iR 0 14 []) (dW.L0 (0) (l_12551) (dl (p7 f5 x7 n9 f9 n11 f11 x14 x15 x16 x17) 1 (s9 f5 x7 n9 f9 n11 f11 x14 x16)) (dn (tu f5 x7 n9 f9 n11 f11 x14 x15 x16 x17) 1 (s9 f5 x7 n9 f9 n11 f11 x14 x16)) (l_12550)) [])))))))) (.obp (((1:Nat)<=n9/\n9<=(1000:Nat))/\(1:Nat)<=n11/\n11<=(1000:Nat)) (.obt (.br (bk n9 (aa ae f9) n11 (aa ae f11) (wI (1000*x14)) (wI (1000*x17))) (.obp (d8 n5 f5 n9 f9 n11 f11) (.obt (.cb (.am n11 (.enter (iR 0 14 []) (dW.L0 (0) (l_12551) (dl (p7 f5 x7 n9 f9 n11 f11 x14 x15 x16 x17) 1 (s3 f5 x7 n9 f9 n11 f11 x14 x17)) (dn (tu f5 x7 n9 f9 n11 f11 x14 x15 x16 x17) 1 (s3 f5 x7 n9 f9 n11 f11 x14 x17)) (l_12550)) []))))) (.am n11 (.enter (iR 0 14 []) (dW.L0 (0) (l_12551) (p7 f5 x7 n9 f9 n11 f11 x14 x15 x16 x17) (tu f5 x7 n9 f9 n11 f11 x14 x15 x16 x17) (l_12550)) [])))))))))))))))))))
theorem Ub:dD vJ u0 (ami s0 n1 f1 n3 f3 n5 f5 x7 x8 n9 f9 n11 f11 x13 x14 x15 x16 x17) (PQ s0 n1 f1 n3 f3 n5 f5 x7 x8 n9 f9 n11 f11 x13 x14 x15 x16 x17) (Yf s0 n1 f1 n3 f3 n5 f5 x7 x8 n9 f9 n11 f11 x13 x14 x15 x16 x17) (fv s0 n1 f1 n3 f3 n5 f5 x7 x8 n9 f9 n11 f11 x13 x14 x15 x16 x17):=⟨⟨by kernel_rfl,by kernel_rfl⟩,fun s=>by cases s<;>exact⟨by kernel_rfl,by kernel_rfl⟩⟩
def K3 (u v:Int) (o:Int×Int):Int×Int:=bif bk n9 f9 n11 f11 u v then(min o.1 (bc f5 n9 f9 n11 f11 u v),max o.2 (be f5 x7 n9 f9 n11 f11 u v)) else o
def zX (lo hi v:Int):Bool:=bif decide (lo<v) then decide (v<hi) else false
def zW (f5:aN) (x7:Int) (n9:Nat) (f9:aN) (n11:Nat) (f11:aN) (y0 y1 u:Int) (o:Int×Int):Nat->Int×Int
 |0=>o
 |k+1=>bif zX y0 y1 (ar (f11 k)) then K3 f5 x7 n9 f9 n11 f11 u (ar (f11 k)) (zW f5 x7 n9 f9 n11 f11 y0 y1 u o k) else zW f5 x7 n9 f9 n11 f11 y0 y1 u o k
def C1 (y0 y1 u:Int) (o:Int×Int):Int×Int:=K3 f5 x7 n9 f9 n11 f11 u y1 (K3 f5 x7 n9 f9 n11 f11 u y0 o)
def UW (y0 y1 u:Int) (o:Int×Int):Int×Int:=zW f5 x7 n9 f9 n11 f11 y0 y1 u (C1 f5 x7 n9 f9 n11 f11 y0 y1 u o) n11
def CC (f5:aN) (x7:Int) (n9:Nat) (f9:aN) (n11:Nat) (f11:aN) (x0 x1 y0 y1:Int) (o:Int×Int):Nat->Int×Int
 |0=>o
 |k+1=>bif zX x0 x1 (ar (f9 k)) then UW f5 x7 n9 f9 n11 f11 y0 y1 (ar (f9 k)) (CC f5 x7 n9 f9 n11 f11 x0 x1 y0 y1 o k) else CC f5 x7 n9 f9 n11 f11 x0 x1 y0 y1 o k
def ovH (x0 x1 y0 y1:Int):Int×Int:=(min (min (min (bc f5 n9 f9 n11 f11 x0 y0) (bc f5 n9 f9 n11 f11 x0 y1)) (bc f5 n9 f9 n11 f11 x1 y0)) (bc f5 n9 f9 n11 f11 x1 y1),max (max (max (be f5 x7 n9 f9 n11 f11 x0 y0) (be f5 x7 n9 f9 n11 f11 x0 y1)) (be f5 x7 n9 f9 n11 f11 x1 y0)) (be f5 x7 n9 f9 n11 f11 x1 y1))
def ovA (x0 x1 y0 y1:Int):Int×Int:=CC f5 x7 n9 f9 n11 f11 x0 x1 y0 y1 (UW f5 x7 n9 f9 n11 f11 y0 y1 x1 (UW f5 x7 n9 f9 n11 f11 y0 y1 x0 (ovH f5 x7 n9 f9 n11 f11 x0 x1 y0 y1))) n9
def gP:Int:=(ovA f5 x7 n9 f9 n11 f11 (wI (1000*x14)) (wI (1000*x15)) (wI (1000*x16)) (wI (1000*x17))).1
def gQ:Int:=(ovA f5 x7 n9 f9 n11 f11 (wI (1000*x14)) (wI (1000*x15)) (wI (1000*x16)) (wI (1000*x17))).2
theorem oh {f5:Nat->List V} {x7:Int} {n9:Nat} {f9:Nat->List V} {n11:Nat} {f11:Nat->List V} {u v:Int} {o:Int×Int} (h:bk n9 f9 n11 f11 u v=true):K3 f5 x7 n9 f9 n11 f11 u v o=(min o.1 (bc f5 n9 f9 n11 f11 u v),max o.2 (be f5 x7 n9 f9 n11 f11 u v)):=by unfold K3;rw[h];rfl
theorem qB {f5:Nat->List V} {x7:Int} {n9:Nat} {f9:Nat->List V} {n11:Nat} {f11:Nat->List V} {u v:Int} {o:Int×Int} (h:bk n9 f9 n11 f11 u v=false):K3 f5 x7 n9 f9 n11 f11 u v o=o:=by unfold K3;rw[h];rfl
theorem ue {f5:Nat->List V} {x7:Int} {n9:Nat} {f9:Nat->List V} {n11:Nat} {f11:Nat->List V} {y0 y1 u:Int} {o:Int×Int} {k:Nat} (h:(bif decide (y0<ar (f11 k)) then decide (ar (f11 k)<y1) else false)=true):zW f5 x7 n9 f9 n11 f11 y0 y1 u o (k+1)=K3 f5 x7 n9 f9 n11 f11 u (ar (f11 k)) (zW f5 x7 n9 f9 n11 f11 y0 y1 u o k):=by
 show (bif zX _ _ _ then _ else _)=_
 rw [show zX y0 y1 (ar (f11 k))=true from h];rfl
theorem GN {f5:Nat->List V} {x7:Int} {n9:Nat} {f9:Nat->List V} {n11:Nat} {f11:Nat->List V} {y0 y1 u:Int} {o:Int×Int} {k:Nat} (h:(bif decide (y0<ar (f11 k)) then decide (ar (f11 k)<y1) else false)=false):zW f5 x7 n9 f9 n11 f11 y0 y1 u o (k+1)=zW f5 x7 n9 f9 n11 f11 y0 y1 u o k:=by
 show (bif zX _ _ _ then _ else _)=_
 rw [show zX y0 y1 (ar (f11 k))=false from h];rfl
theorem aaR {f5:Nat->List V} {x7:Int} {n9:Nat} {f9:Nat->List V} {n11:Nat} {f11:Nat->List V} {x0 x1 y0 y1:Int} {o:Int×Int} {k:Nat} (h:(bif decide (x0<ar (f9 k)) then decide (ar (f9 k)<x1) else false)=true):CC f5 x7 n9 f9 n11 f11 x0 x1 y0 y1 o (k+1)=UW f5 x7 n9 f9 n11 f11 y0 y1 (ar (f9 k)) (CC f5 x7 n9 f9 n11 f11 x0 x1 y0 y1 o k):=by
 show (bif zX _ _ _ then _ else _)=_
 rw [show zX x0 x1 (ar (f9 k))=true from h];rfl
theorem XZ {f5:Nat->List V} {x7:Int} {n9:Nat} {f9:Nat->List V} {n11:Nat} {f11:Nat->List V} {x0 x1 y0 y1:Int} {o:Int×Int} {k:Nat} (h:(bif decide (x0<ar (f9 k)) then decide (ar (f9 k)<x1) else false)=false):CC f5 x7 n9 f9 n11 f11 x0 x1 y0 y1 o (k+1)=CC f5 x7 n9 f9 n11 f11 x0 x1 y0 y1 o k:=by
 show (bif zX _ _ _ then _ else _)=_
 rw [show zX x0 x1 (ar (f9 k))=false from h];rfl
theorem yay {f5:Nat->List V} {x7:Int} {n9:Nat} {f9:Nat->List V} {n11:Nat} {f11:Nat->List V} {y0 y1 u:Int} {o:Int×Int} (h:bk n9 f9 n11 f11 u y0=true) (k:bk n9 f9 n11 f11 u y1=true):C1 f5 x7 n9 f9 n11 f11 y0 y1 u o=(min (min o.1 (bc f5 n9 f9 n11 f11 u y0)) (bc f5 n9 f9 n11 f11 u y1),max (max o.2 (be f5 x7 n9 f9 n11 f11 u y0)) (be f5 x7 n9 f9 n11 f11 u y1)):=by unfold C1;rw[oh k,oh h]
theorem Dr {f5:Nat->List V} {x7:Int} {n9:Nat} {f9:Nat->List V} {n11:Nat} {f11:Nat->List V} {y0 y1 u:Int} {o:Int×Int} (h:bk n9 f9 n11 f11 u y0=true) (k:bk n9 f9 n11 f11 u y1=false):C1 f5 x7 n9 f9 n11 f11 y0 y1 u o=(min o.1 (bc f5 n9 f9 n11 f11 u y0),max o.2 (be f5 x7 n9 f9 n11 f11 u y0)):=by unfold C1;rw[qB k,oh h]
theorem Cq {f5:Nat->List V} {x7:Int} {n9:Nat} {f9:Nat->List V} {n11:Nat} {f11:Nat->List V} {y0 y1 u:Int} {o:Int×Int} (h:bk n9 f9 n11 f11 u y0=false) (k:bk n9 f9 n11 f11 u y1=true):C1 f5 x7 n9 f9 n11 f11 y0 y1 u o=(min o.1 (bc f5 n9 f9 n11 f11 u y1),max o.2 (be f5 x7 n9 f9 n11 f11 u y1)):=by unfold C1;rw[oh k,qB h]
theorem D1 {f5:Nat->List V} {x7:Int} {n9:Nat} {f9:Nat->List V} {n11:Nat} {f11:Nat->List V} {y0 y1 u:Int} {o:Int×Int} (h:bk n9 f9 n11 f11 u y0=false) (k:bk n9 f9 n11 f11 u y1=false):C1 f5 x7 n9 f9 n11 f11 y0 y1 u o=o:=by unfold C1;rw[qB k,qB h]
section
variable {S:Type} {Nx:S->V->Prop} {r:V}
include S Nx r
theorem Dn {H Q:Prop} {h0 h1:Bool} {T11 T10 T01 T00:RT S} (hH:H) (hQ:Q) (t11:h0=true->h1=true->aR Nx T11 r) (t10:h0=true->h1=false->aR Nx T10 r) (t01:h0=false->h1=true->aR Nx T01 r) (t00:h0=false->h1=false->aR Nx T00 r) :
 aR Nx (.obp H (.obt (.br h0 (.obp Q (.obt (.obc (.obt (.obp H (.obt (.br h1 (.obp Q (.obt (.obc (.obt T11)))) T10))))))) (.obp H (.obt (.br h1 (.obp Q (.obt (.obc (.obt T01)))) T00)))))) r :=
 evObp hH (evObt (evBr (fun a=>evObp hQ (evObt (aw (evObt (evObp hH (evObt (evBr (fun c=>evObp hQ (evObt (aw (evObt (t11 a c))))) (fun c=>t10 a c)))))))) (fun a=>evObp hH (evObt (evBr (fun c=>evObp hQ (evObt (aw (evObt (t01 a c))))) (fun c=>t00 a c))))))
theorem Ra {H Q:Prop} {c0 c d h:Bool} {T1 T2 T3:RT S} (hc:c0=true) (hH:H) (hQ:Q) (t1:c=true->h=true->aR Nx T1 r) (t2:c=true->h=false->aR Nx T2 r) (t3:c=false->aR Nx T3 r) :
 aR Nx (.ob c0 (.obi (.obi (.obi (.br c (.ob c (.ob c (.obp H (.obt (.br h (.obp Q (.obt (.obc (.obt T1)))) T2))))) T3))))) r :=
 aE hc (evObi (evObi (evObi (evBr (fun a=>aE a (aE a (evObp hH (evObt (evBr (fun e=>evObp hQ (evObt (aw (evObt (t1 a e))))) (fun e=>t2 a e)))))) (fun a=>t3 a)))))
theorem J9 {c0 c:Bool} {T1 T3:RT S} (hc:c0=true) (t1:c=true->aR Nx T1 r) (t3:c=false->aR Nx T3 r) :
 aR Nx (.ob c0 (.obi (.obi (.obi (.br c (.ob c (.ob c T1)) T3))))) r :=
 aE hc (evObi (evObi (evObi (evBr (fun a=>aE a (aE a (t1 a))) t3))))
end
def ov0:Int×Int:=ovH (aa [Ty.sl ae] f5) x7 n9 (aa ae f9) n11 (aa ae f11) (wI (1000*x14)) (wI (1000*x15)) (wI (1000*x16)) (wI (1000*x17))
def RQ:Int×Int:=UW (aa [Ty.sl ae] f5) x7 n9 (aa ae f9) n11 (aa ae f11) (wI (1000*x16)) (wI (1000*x17)) (wI (1000*x14)) (ov0 f5 x7 n9 f9 n11 f11 x14 x15 x16 x17)
def ov2:Int×Int:=UW (aa [Ty.sl ae] f5) x7 n9 (aa ae f9) n11 (aa ae f11) (wI (1000*x16)) (wI (1000*x17)) (wI (1000*x15)) (RQ f5 x7 n9 f9 n11 f11 x14 x15 x16 x17)
section
variable (s0:ByteArray) (n1:Nat) (f1:aN) (n3:Nat) (f3:aN) (n5:Nat) (f5:aN) (x7:Int) (x8:Int) (n9:Nat) (f9:aN) (n11:Nat) (f11:aN) (x13:Int) (x14:Int) (x15:Int) (x16:Int) (x17:Int) (hp:lM n5 (aa [Ty.sl ae] f5) n9 (aa ae f9) n11 (aa ae f11))
include hp
theorem TX (u i0 o1 o2:Int) (o:Int×Int) (nx:∃ N,∀ l1,q5 (fv s0 n1 f1 n3 f3 n5 f5 x7 x8 n9 f9 n11 f11 x13 x14 x15 x16 x17) N (.L2 (wI (i0+1)) l1 (zW (aa [Ty.sl ae] f5) x7 n9 (aa ae f9) n11 (aa ae f11) (wI (1000*x16)) (wI (1000*x17)) u o n11).1 (zW (aa [Ty.sl ae] f5) x7 n9 (aa ae f9) n11 (aa ae f11) (wI (1000*x16)) (wI (1000*x17)) u o n11).2) (.agg [vi (gP (aa [Ty.sl ae] f5) x7 n9 (aa ae f9) n11 (aa ae f11) x14 x15 x16 x17),vi (gQ (aa [Ty.sl ae] f5) x7 n9 (aa ae f9) n11 (aa ae f11) x14 x15 x16 x17)])):∀ k,k<=n11->∃ N,∀ l0 l1,q5 (fv s0 n1 f1 n3 f3 n5 f5 x7 x8 n9 f9 n11 f11 x13 x14 x15 x16 x17) N (.L5 (k:Int) l0 (zW (aa [Ty.sl ae] f5) x7 n9 (aa ae f9) n11 (aa ae f11) (wI (1000*x16)) (wI (1000*x17)) u o k).1 (zW (aa [Ty.sl ae] f5) x7 n9 (aa ae f9) n11 (aa ae f11) (wI (1000*x16)) (wI (1000*x17)) u o k).2 u l1 i0 o1 o2) (.agg [vi (gP (aa [Ty.sl ae] f5) x7 n9 (aa ae f9) n11 (aa ae f11) x14 x15 x16 x17),vi (gQ (aa [Ty.sl ae] f5) x7 n9 (aa ae f9) n11 (aa ae f11) x14 x15 x16 x17)]):=by
 refine cO fun k hk ih=>?_
 have hb:=hp.b
 by_cases hlt:k<n11
 ·have hw:wI ((k:Int)+1)=((k+1:Nat):Int):=by rw[wrapI (by omega) (by omega)];omega
  obtain ⟨N,ih⟩:=ih hlt
  refine ⟨N+1,fun l0 l1=>?_⟩
  have ih:=ih l0 l1
  refine (show aR (q5 (fv s0 n1 f1 n3 f3 n5 f5 x7 x8 n9 f9 n11 f11 x13 x14 x15 x16 x17) N) _ _ from ?_)
  refine eG (dqt (by omega)) (Ra (d:=true) (dqt (by omega)) (Jh hp) hp (fun a e=>aK ?_) (fun a e=>aK ?_) (fun a=>aK ?_))
  ·rw[hw]
   have e:bk n9 (aa ae f9) n11 (aa ae f11) u (ar ((aa ae f11) k))=true:=e
   rw [ue (f11:=(aa ae f11)) (k:=k) a,oh e]at ih
   exact ih
  ·rw[hw]
   have e:bk n9 (aa ae f9) n11 (aa ae f11) u (ar ((aa ae f11) k))=false:=e
   rw [ue (f11:=(aa ae f11)) (k:=k) a,qB e]at ih
   exact ih
  ·rw[hw]
   rw [GN (f11:=(aa ae f11)) (k:=k) a]at ih
   exact ih
 ·have e:k=n11:=by omega
  obtain ⟨M,nx⟩:=nx
  refine ⟨M+1,fun l0 l1=>?_⟩
  refine (show aR (q5 (fv s0 n1 f1 n3 f3 n5 f5 x7 x8 n9 f9 n11 f11 x13 x14 x15 x16 x17) M) _ _ from ?_)
  refine ed (gx (by omega)) ?_
  rw [e]
  exact aK (nx l1)
theorem Tz:∀ k,k<=n9->∃ N,∀ l,q5 (fv s0 n1 f1 n3 f3 n5 f5 x7 x8 n9 f9 n11 f11 x13 x14 x15 x16 x17) N (.L2 (k:Int) l (CC (aa [Ty.sl ae] f5) x7 n9 (aa ae f9) n11 (aa ae f11) (wI (1000*x14)) (wI (1000*x15)) (wI (1000*x16)) (wI (1000*x17)) (ov2 f5 x7 n9 f9 n11 f11 x14 x15 x16 x17) k).1 (CC (aa [Ty.sl ae] f5) x7 n9 (aa ae f9) n11 (aa ae f11) (wI (1000*x14)) (wI (1000*x15)) (wI (1000*x16)) (wI (1000*x17)) (ov2 f5 x7 n9 f9 n11 f11 x14 x15 x16 x17) k).2) (.agg [vi (gP (aa [Ty.sl ae] f5) x7 n9 (aa ae f9) n11 (aa ae f11) x14 x15 x16 x17),vi (gQ (aa [Ty.sl ae] f5) x7 n9 (aa ae f9) n11 (aa ae f11) x14 x15 x16 x17)]):=by
 refine cO fun k hk ih=>?_
 have ha:=hp.a
 by_cases hlt:k<n9
 ·have hw:wI ((k:Int)+1)=((k+1:Nat):Int):=by rw[wrapI (by omega) (by omega)];omega
  have ih:=ih hlt
  rw [← hw]at ih
  by_cases hc:(bif decide ((wI (1000*x14))<ar ((aa ae f9) k)) then decide (ar ((aa ae f9) k)<(wI (1000*x15))) else false)=true
  ·rw [aaR hc]at ih
   obtain ⟨N,nx⟩:=TX s0 n1 f1 n3 f3 n5 f5 x7 x8 n9 f9 n11 f11 x13 x14 x15 x16 x17 hp (ar (f9 k)) (k:Int) (CC (aa [Ty.sl ae] f5) x7 n9 (aa ae f9) n11 (aa ae f11) (wI (1000*x14)) (wI (1000*x15)) (wI (1000*x16)) (wI (1000*x17)) (ov2 f5 x7 n9 f9 n11 f11 x14 x15 x16 x17) k).1 (CC (aa [Ty.sl ae] f5) x7 n9 (aa ae f9) n11 (aa ae f11) (wI (1000*x14)) (wI (1000*x15)) (wI (1000*x16)) (wI (1000*x17)) (ov2 f5 x7 n9 f9 n11 f11 x14 x15 x16 x17) k).2 (C1 (aa [Ty.sl ae] f5) x7 n9 (aa ae f9) n11 (aa ae f11) (wI (1000*x16)) (wI (1000*x17)) (ar (f9 k)) (CC (aa [Ty.sl ae] f5) x7 n9 (aa ae f9) n11 (aa ae f11) (wI (1000*x14)) (wI (1000*x15)) (wI (1000*x16)) (wI (1000*x17)) (ov2 f5 x7 n9 f9 n11 f11 x14 x15 x16 x17) k)) ih 0 (Nat.zero_le _)
   refine ⟨N+1,fun l=>?_⟩
   refine (show aR (q5 (fv s0 n1 f1 n3 f3 n5 f5 x7 x8 n9 f9 n11 f11 x13 x14 x15 x16 x17) N) _ _ from ?_)
   refine eG (dqt (by omega)) (J9 (dqt (by omega)) (fun a=>ul fun l5=>?_) (fun a=>?_))
   ·rw [Int.toNat_natCast]
    exact (Dn (Jh hp) hp (fun h0 h1=>bg fun _=>aF (by
     have q:=nx l5 l
     rw [yay h0 h1]at q
     exact q)) (fun h0 h1=>bg fun _=>aF (by
     have q:=nx l5 l
     rw [Dr h0 h1]at q
     exact q)) (fun h0 h1=>bg fun _=>aF (by
     have q:=nx l5 l
     rw [Cq h0 h1]at q
     exact q)) (fun h0 h1=>bg fun _=>aF (by
     have q:=nx l5 l
     rw [D1 h0 h1]at q
     exact q)))
   ·exact absurd (hc.symm.trans a) (by decide)
  ·have hc:=Bool.eq_false_iff.2 hc
   rw [XZ hc]at ih
   obtain ⟨N,ih⟩:=ih
   refine ⟨N+1,fun l=>?_⟩
   refine (show aR (q5 (fv s0 n1 f1 n3 f3 n5 f5 x7 x8 n9 f9 n11 f11 x13 x14 x15 x16 x17) N) _ _ from ?_)
   refine eG (dqt (by omega)) (J9 (dqt (by omega)) (fun a=>?_) (fun a=>aK (ih l)))
   exact absurd (hc.symm.trans a) (by decide)
 ·have e:k=n9:=by omega
  refine ⟨1,fun l=>?_⟩
  refine (show aR (q5 (fv s0 n1 f1 n3 f3 n5 f5 x7 x8 n9 f9 n11 f11 x13 x14 x15 x16 x17) 0) _ _ from ?_)
  refine ed (gx (by omega)) ?_
  rw [e]
  exact evRet rfl
theorem SJ :∀ k,k<=n11->∃ N,∀ l0 n4 i5 n6 i7 i8,q5 (fv s0 n1 f1 n3 f3 n5 f5 x7 x8 n9 f9 n11 f11 x13 x14 x15 x16 x17) N (.L4 (k:Int) l0 (zW (aa [Ty.sl ae] f5) x7 n9 (aa ae f9) n11 (aa ae f11) (wI (1000*x16)) (wI (1000*x17)) (wI (1000*x15)) (C1 (aa [Ty.sl ae] f5) x7 n9 (aa ae f9) n11 (aa ae f11) (wI (1000*x16)) (wI (1000*x17)) (wI (1000*x15)) (RQ f5 x7 n9 f9 n11 f11 x14 x15 x16 x17)) k).1 (zW (aa [Ty.sl ae] f5) x7 n9 (aa ae f9) n11 (aa ae f11) (wI (1000*x16)) (wI (1000*x17)) (wI (1000*x15)) (C1 (aa [Ty.sl ae] f5) x7 n9 (aa ae f9) n11 (aa ae f11) (wI (1000*x16)) (wI (1000*x17)) (wI (1000*x15)) (RQ f5 x7 n9 f9 n11 f11 x14 x15 x16 x17)) k).2 n4 i5 n6 i7 i8) (.agg [vi (gP (aa [Ty.sl ae] f5) x7 n9 (aa ae f9) n11 (aa ae f11) x14 x15 x16 x17),vi (gQ (aa [Ty.sl ae] f5) x7 n9 (aa ae f9) n11 (aa ae f11) x14 x15 x16 x17)]):=by
 refine cO fun k hk ih=>?_
 have hb:=hp.b
 by_cases hlt:k<n11
 ·have hw:wI ((k:Int)+1)=((k+1:Nat):Int):=by rw[wrapI (by omega) (by omega)];omega
  obtain ⟨N,ih⟩:=ih hlt
  refine ⟨N+1,fun l0 n4 i5 n6 i7 i8=>?_⟩
  have ih:=ih l0 n4 i5 n6 i7 i8
  refine (show aR (q5 (fv s0 n1 f1 n3 f3 n5 f5 x7 x8 n9 f9 n11 f11 x13 x14 x15 x16 x17) N) _ _ from ?_)
  refine eG (dqt (by omega)) (Ra (d:=true) (dqt (by omega)) (Jh hp) hp (fun a e=>aK ?_) (fun a e=>aK ?_) (fun a=>aK ?_))
  ·rw[hw]
   have e:bk n9 (aa ae f9) n11 (aa ae f11) (wI (1000*x15)) (ar ((aa ae f11) k))=true:=e
   rw [ue (f11:=(aa ae f11)) (k:=k) a,oh e]at ih
   exact ih
  ·rw[hw]
   have e:bk n9 (aa ae f9) n11 (aa ae f11) (wI (1000*x15)) (ar ((aa ae f11) k))=false:=e
   rw [ue (f11:=(aa ae f11)) (k:=k) a,qB e]at ih
   exact ih
  ·rw[hw]
   rw [GN (f11:=(aa ae f11)) (k:=k) a]at ih
   exact ih
 ·have e:k=n11:=by omega
  obtain ⟨M,nx⟩:=Tz s0 n1 f1 n3 f3 n5 f5 x7 x8 n9 f9 n11 f11 x13 x14 x15 x16 x17 hp 0 (Nat.zero_le _)
  refine ⟨M+1,fun l0 n4 i5 n6 i7 i8=>?_⟩
  refine (show aR (q5 (fv s0 n1 f1 n3 f3 n5 f5 x7 x8 n9 f9 n11 f11 x13 x14 x15 x16 x17) M) _ _ from ?_)
  refine ed (gx (by omega)) ?_
  rw [e]
  exact bg fun _=>aF (nx n4)
theorem Sr :∀ k,k<=n11->∃ N,∀ l0 n4,q5 (fv s0 n1 f1 n3 f3 n5 f5 x7 x8 n9 f9 n11 f11 x13 x14 x15 x16 x17) N (.L0 (k:Int) l0 (zW (aa [Ty.sl ae] f5) x7 n9 (aa ae f9) n11 (aa ae f11) (wI (1000*x16)) (wI (1000*x17)) (wI (1000*x14)) (C1 (aa [Ty.sl ae] f5) x7 n9 (aa ae f9) n11 (aa ae f11) (wI (1000*x16)) (wI (1000*x17)) (wI (1000*x14)) (ov0 f5 x7 n9 f9 n11 f11 x14 x15 x16 x17)) k).1 (zW (aa [Ty.sl ae] f5) x7 n9 (aa ae f9) n11 (aa ae f11) (wI (1000*x16)) (wI (1000*x17)) (wI (1000*x14)) (C1 (aa [Ty.sl ae] f5) x7 n9 (aa ae f9) n11 (aa ae f11) (wI (1000*x16)) (wI (1000*x17)) (wI (1000*x14)) (ov0 f5 x7 n9 f9 n11 f11 x14 x15 x16 x17)) k).2 n4) (.agg [vi (gP (aa [Ty.sl ae] f5) x7 n9 (aa ae f9) n11 (aa ae f11) x14 x15 x16 x17),vi (gQ (aa [Ty.sl ae] f5) x7 n9 (aa ae f9) n11 (aa ae f11) x14 x15 x16 x17)]):=by
 refine cO fun k hk ih=>?_
 have hb:=hp.b
 by_cases hlt:k<n11
 ·have hw:wI ((k:Int)+1)=((k+1:Nat):Int):=by rw[wrapI (by omega) (by omega)];omega
  obtain ⟨N,ih⟩:=ih hlt
  refine ⟨N+1,fun l0 n4=>?_⟩
  have ih:=ih l0 n4
  refine (show aR (q5 (fv s0 n1 f1 n3 f3 n5 f5 x7 x8 n9 f9 n11 f11 x13 x14 x15 x16 x17) N) _ _ from ?_)
  refine eG (dqt (by omega)) (Ra (d:=true) (dqt (by omega)) (Jh hp) hp (fun a e=>aK ?_) (fun a e=>aK ?_) (fun a=>aK ?_))
  ·rw[hw]
   have e:bk n9 (aa ae f9) n11 (aa ae f11) (wI (1000*x14)) (ar ((aa ae f11) k))=true:=e
   rw [ue (f11:=(aa ae f11)) (k:=k) a,oh e]at ih
   exact ih
  ·rw[hw]
   have e:bk n9 (aa ae f9) n11 (aa ae f11) (wI (1000*x14)) (ar ((aa ae f11) k))=false:=e
   rw [ue (f11:=(aa ae f11)) (k:=k) a,qB e]at ih
   exact ih
  ·rw[hw]
   rw [GN (f11:=(aa ae f11)) (k:=k) a]at ih
   exact ih
 ·have e:k=n11:=by omega
  obtain ⟨M,nx⟩:=SJ s0 n1 f1 n3 f3 n5 f5 x7 x8 n9 f9 n11 f11 x13 x14 x15 x16 x17 hp 0 (Nat.zero_le _)
  refine ⟨M+1,fun l0 n4=>?_⟩
  refine (show aR (q5 (fv s0 n1 f1 n3 f3 n5 f5 x7 x8 n9 f9 n11 f11 x13 x14 x15 x16 x17) M) _ _ from ?_)
  refine ed (gx (by omega)) ?_
  rw [e]
  exact ul fun l4=>(Dn (Jh hp) hp (fun h0 h1=>bg fun _=>aF (by
   have q:=nx l4 n4 (n11:Int) l0 (RQ f5 x7 n9 f9 n11 f11 x14 x15 x16 x17).1 (RQ f5 x7 n9 f9 n11 f11 x14 x15 x16 x17).2
   rw [yay h0 h1]at q
   exact q)) (fun h0 h1=>bg fun _=>aF (by
   have q:=nx l4 n4 (n11:Int) l0 (RQ f5 x7 n9 f9 n11 f11 x14 x15 x16 x17).1 (RQ f5 x7 n9 f9 n11 f11 x14 x15 x16 x17).2
   rw [Dr h0 h1]at q
   exact q)) (fun h0 h1=>bg fun _=>aF (by
   have q:=nx l4 n4 (n11:Int) l0 (RQ f5 x7 n9 f9 n11 f11 x14 x15 x16 x17).1 (RQ f5 x7 n9 f9 n11 f11 x14 x15 x16 x17).2
   rw [Cq h0 h1]at q
   exact q)) (fun h0 h1=>bg fun _=>aF (by
   have q:=nx l4 n4 (n11:Int) l0 (RQ f5 x7 n9 f9 n11 f11 x14 x15 x16 x17).1 (RQ f5 x7 n9 f9 n11 f11 x14 x15 x16 x17).2
   rw [D1 h0 h1]at q
   exact q)))
end
theorem afl (hp:lM n5 (aa [.sl ae] f5) n9 (aa ae f9) n11 (aa ae f11)):aR (Ev (fv s0 n1 f1 n3 f3 n5 f5 x7 x8 n9 f9 n11 f11 x13 x14 x15 x16 x17)) (Yf s0 n1 f1 n3 f3 n5 f5 x7 x8 n9 f9 n11 f11 x13 x14 x15 x16 x17) (.agg [vi (gP (aa [.sl ae] f5) x7 n9 (aa ae f9) n11 (aa ae f11) x14 x15 x16 x17),vi (gQ (aa [.sl ae] f5) x7 n9 (aa ae f9) n11 (aa ae f11) x14 x15 x16 x17)]):=by
 obtain ⟨N,hN⟩:=Sr s0 n1 f1 n3 f3 n5 f5 x7 x8 n9 f9 n11 f11 x13 x14 x15 x16 x17 hp 0 (Nat.zero_le _)
 exact evObp hp (evObt (evObp hp (evObt (evObp hp (evObt (evObp hp (evObt (aw (evObt (ul fun l4=>ul fun l0=>(Dn (Jh hp) hp (fun h0 h1=>bg fun _=>aF (by
  have q:=hN l0 l4
  rw [yay h0 h1]at q
  exact ⟨N,q⟩)) (fun h0 h1=>bg fun _=>aF (by
  have q:=hN l0 l4
  rw [Dr h0 h1]at q
  exact ⟨N,q⟩)) (fun h0 h1=>bg fun _=>aF (by
  have q:=hN l0 l4
  rw [Cq h0 h1]at q
  exact ⟨N,q⟩)) (fun h0 h1=>bg fun _=>aF (by
  have q:=hN l0 l4
  rw [D1 h0 h1]at q
  exact ⟨N,q⟩)))))))))))))
def Zp:aB:=bF [.agg [.str,.sl ae,.sl ae,.sl [.sl ae],tI,tI,.sl ae,.sl ae,tI],.agg je] (fun
 |[.agg [.str s0,.sl n1 f1,.sl n3 f3,.sl n5 f5,.int _ x7,.int _ x8,.sl n9 f9,.sl n11 f11,.int _ x13],.agg [.int _ x14,.int _ x15,.int _ x16,.int _ x17]]=>lM n5 f5 n9 f9 n11 f11
 |_=>False) fun
 |[.agg [.str s0,.sl n1 f1,.sl n3 f3,.sl n5 f5,.int _ x7,.int _ x8,.sl n9 f9,.sl n11 f11,.int _ x13],.agg [.int _ x14,.int _ x15,.int _ x16,.int _ x17]]=>.agg [vi (gP f5 x7 n9 f9 n11 f11 x14 x15 x16 x17),vi (gQ f5 x7 n9 f9 n11 f11 x14 x15 x16 x17)]
 |_=>.any
theorem agy:(vP Zp).Ok Tryz.prog 90:=bV Pq Tryz.func90 (by kernel_rfl) fun ds hp=>iS (Ub ..) (afl _ _ _ _ _ _ _ _ _ _ _ _ _ _ _ _ _ _ hp)
def EN:bj:=(90,.con Zp)::vJ
theorem Cp:aW Tryz.prog eqs its EN:=.con agy (Pq)
def Yt:RT Empty:=dm (s0,x1,x2,x4,x5,x6,x11,x12,x13) (.cb (.cb (.ret (V.agg [vi (mL x3 x8 x10 x14 x15 x16),vi (mN x3 x7 x9 x14 x15 x16)]))))
theorem Tj:cJ cL (aP JJ EN u0 QU [V.agg [V.str s0,vi x1,vi x2,vi x3,vi x4,vi x5,vi x6,vi x7,vi x8,vi x9,vi x10,vi x11,vi x12,vi x13],V.agg [vi x14,vi x15,vi x16]]) (Yt s0 x1 x2 x3 x4 x5 x6 x7 x8 x9 x10 x11 x12 x13 x14 x15 x16):=⟨by kernel_rfl,by kernel_rfl⟩
def lR:Int:=mL x3 x8 x10 x14 x15 x16
def lQ:Int:=mN x3 x7 x9 x14 x15 x16
def MW:V:=dm (s0,x1,x2,x4,x5,x6,x11,x12,x13) (.agg [vi (lR x3 x8 x10 x14 x15 x16),vi (lQ x3 x7 x9 x14 x15 x16)])
theorem acg:aR cq (Yt s0 x1 x2 x3 x4 x5 x6 x7 x8 x9 x10 x11 x12 x13 x14 x15 x16) (MW s0 x1 x2 x3 x4 x5 x6 x7 x8 x9 x10 x11 x12 x13 x14 x15 x16):=aw (evObt (aw (evObt (evRet (by unfold MW lR lQ;rfl)))))
def Yp:aB:=bF [.agg ah,.agg bQ] (fun _=>True) fun
 |[.agg [.str s0,.int _ x1,.int _ x2,.int _ x3,.int _ x4,.int _ x5,.int _ x6,.int _ x7,.int _ x8,.int _ x9,.int _ x10,.int _ x11,.int _ x12,.int _ x13],.agg [.int _ x14,.int _ x15,.int _ x16]]=>MW s0 x1 x2 x3 x4 x5 x6 x7 x8 x9 x10 x11 x12 x13 x14 x15 x16
 |_=>.any
theorem aid:(vP Yp).Ok Tryz.prog 88:=bV Cp Tryz.func88 (by kernel_rfl) fun ds hp=>cQ (Tj ..) (acg _ _ _ _ _ _ _ _ _ _ _ _ _ _ _ _ _)
def Zh:RT Empty:=dm (s0,x1,x2,x4,x5,x6,x11,x12,x13) (.obp (nz 1000000) (.obt (.obp (nz 1000) (.obt (.obp (nz 1000000) (.obt (.obp (nz 1000) (.obt (.obp (nz 1000) (.obt (.obp (nz 1000) (.obt (.ret (V.agg [vi (cw (wI (cw (wI (cw (wI (x3*max 0 (wI (1000000-wI (x8*x14))))) 1000000*max 0 (wI (1000-wI (x10*x15))))) 1000*x16)) 1000),vi (cX (wI (cX (wI (cX (wI (x3*max 0 (wI (1000000-wI (x7*x14))))) 1000000*max 0 (wI (1000-wI (x9*x15))))) 1000*x16)) 1000)]))))))))))))))
theorem Ud:cJ cL (aP JJ EN u0 ab6 [V.agg [V.str s0,vi x1,vi x2,vi x3,vi x4,vi x5,vi x6,vi x7,vi x8,vi x9,vi x10,vi x11,vi x12,vi x13],V.agg [vi x14,vi x15,vi x16]]) (Zh s0 x1 x2 x3 x4 x5 x6 x7 x8 x9 x10 x11 x12 x13 x14 x15 x16):=⟨by kernel_rfl,by kernel_rfl⟩
def iT:Int:=cw (wI (cw (wI (cw (wI (x3*max 0 (wI (1000000-wI (x8*x14))))) 1000000*max 0 (wI (1000-wI (x10*x15))))) 1000*x16)) 1000
def iZ:Int:=cX (wI (cX (wI (cX (wI (x3*max 0 (wI (1000000-wI (x7*x14))))) 1000000*max 0 (wI (1000-wI (x9*x15))))) 1000*x16)) 1000
def Mv:V:=dm (s0,x1,x2,x4,x5,x6,x11,x12,x13) (.agg [vi (iT x3 x8 x10 x14 x15 x16),vi (iZ x3 x7 x9 x14 x15 x16)])
theorem ad4:aR cq (Zh s0 x1 x2 x3 x4 x5 x6 x7 x8 x9 x10 x11 x12 x13 x14 x15 x16) (Mv s0 x1 x2 x3 x4 x5 x6 x7 x8 x9 x10 x11 x12 x13 x14 x15 x16):=evObp (by first|assumption|(decide)) (evObt (evObp (by first|assumption|(decide)) (evObt (evObp (by first|assumption|(decide)) (evObt (evObp (by first|assumption|(decide)) (evObt (evObp (by first|assumption|(decide)) (evObt (evObp (by first|assumption|(decide)) (evObt (evRet (by unfold Mv iT iZ;rfl)))))))))))))
def Zr:aB:=bF [.agg ah,.agg bQ] (fun _=>True) fun
 |[.agg [.str s0,.int _ x1,.int _ x2,.int _ x3,.int _ x4,.int _ x5,.int _ x6,.int _ x7,.int _ x8,.int _ x9,.int _ x10,.int _ x11,.int _ x12,.int _ x13],.agg [.int _ x14,.int _ x15,.int _ x16]]=>Mv s0 x1 x2 x3 x4 x5 x6 x7 x8 x9 x10 x11 x12 x13 x14 x15 x16
 |_=>.any
theorem acA:(vP Zr).Ok Tryz.prog 179:=bV Cp Tryz.func179 (by kernel_rfl) fun ds hp=>cQ (Ud ..) (ad4 _ _ _ _ _ _ _ _ _ _ _ _ _ _ _ _ _)
theorem BW (a b c d e f:Int):lR a b c d e f=iT a b c d e f:=by
 unfold lR iT mL
 rw [Int.max_comm 0,Int.max_comm 0]
 rfl
theorem Ac (a b c d e f:Int):lQ a b c d e f=iZ a b c d e f:=by
 unfold lQ iZ mN
 rw [Int.max_comm 0,Int.max_comm 0]
 rfl
def Fa:bj:=(88,.con Yp)::(179,.con Zr)::EN
theorem CO:aW Tryz.prog eqs its Fa:=.con aid (.con acA (Cp))
def ZL:RT Empty:=.obp ((yaa n0 f0)/\yaa n2 f2) (.obt (.ii (.asm ((cg n0 (aa ak f0) n2 (aa ah f2)==0)=true->n2<=9223372036854775807) (.obi (.br (cg n0 (aa ak f0) n2 (aa ah f2)==0) (.ob (cg n0 (aa ak f0) n2 (aa ah f2)==0) (.ob (cg n0 (aa ak f0) n2 (aa ah f2)==0) (.cb (.br (!aA x4 0 (wI ((↑n2:Int)-1))) (.ret (vi 4)) (.ret (vi (cg n0 (aa ak f0) n2 (aa ah f2)))))))) (.ret (vi (cg n0 (aa ak f0) n2 (aa ah f2)))))))))
theorem TP:cJ cL (aP JJ Fa u0 ahr [V.agg [V.sl n0 (aa ak f0),V.sl n2 (aa ah f2)],vi x4]) (ZL n0 f0 n2 f2 x4):=⟨by kernel_rfl,by kernel_rfl⟩
def bA:Int:=bif cg n0 (aa ak f0) n2 (aa ah f2)==0 then bif !aA x4 0 (wI ((↑n2:Int)-1)) then 4 else cg n0 (aa ak f0) n2 (aa ah f2) else cg n0 (aa ak f0) n2 (aa ah f2)
def A3:V:=vi (bA n0 f0 n2 f2 x4)
theorem agn (hp:yaa n0 f0/\yaa n2 f2):aR cq (ZL n0 f0 n2 f2 x4) (A3 n0 f0 n2 f2 x4):=evObp (by first|assumption|(exact hp)) (evObt (evObi (evObi (evAsm (fun a0=>evObi (evBr (fun h0=>aE (by first|assumption|(fail)) (aE (by first|assumption|(fail)) (aw (evObt (evBr (fun h1=>evRet (by unfold A3 bA;try rw[h0];try rw[h1];rfl)) (fun h1=>evRet (by unfold A3 bA;try rw[h0];try rw[h1];rfl))))))) (fun h0=>evRet (by unfold A3 bA;try rw[h0];rfl))))))))
def ZF:aB:=bF [.agg [.sl ak,.sl ah],tI] (fun
 |[.agg [.sl n0 f0,.sl n2 f2],.int _ x4]=>yaa n0 f0/\yaa n2 f2
 |_=>False) fun
 |[.agg [.sl n0 f0,.sl n2 f2],.int _ x4]=>A3 n0 f0 n2 f2 x4
 |_=>.any
theorem aeX:(vP ZF).Ok Tryz.prog 177:=bV CO Tryz.func177 (by kernel_rfl) fun ds hp=>cQ (TP ..) (agn _ _ _ _ _ hp)
theorem inT {x:Int} {n:Nat} (hn:n<=9223372036854775807) (h:(!av x 0 (wI ((n:Int)-1)))=false):decide (0<=x/\x<(n:Int))=true:=by
 rw [wrapI (by omega) (by omega)]at h
 unfold av at h
 refine dqt ?_
 by_cases h1:0<=x
 ·by_cases h2:x<=(n:Int)-1
  ·omega
  ·rw[dqt h1,gx h2]at h;simp at h
 ·rw[gx h1]at h;simp at h
def Z3:RT Empty:=.obp ((yaa n0 f0)/\yaa n2 f2) (.obt (.br (bI n0 (aa ak f0) n2 (aa ah f2)!=0) (.ret (V.tup [V.agg [V.str (ByteArray.mk (Array.mk [])),vi 0,vi 0,vi 0,vi 0,vi 0,vi 0,vi 0,vi 0,vi 0,vi 0,vi 0,vi 0,vi 0],vi (bI n0 (aa ak f0) n2 (aa ah f2))])) (.am n2 (.cb (.br (!av x4 0 (wI ((↑n2:Int)-1))) (.ret (V.tup [V.agg [V.str (ByteArray.mk (Array.mk [])),vi 0,vi 0,vi 0,vi 0,vi 0,vi 0,vi 0,vi 0,vi 0,vi 0,vi 0,vi 0,vi 0],vi 4])) (.ob (dI x4 n2) (.ret (V.tup [V.agg [V.str (sv (ap (f2 x4.toNat))),vi (aQ (f2 x4.toNat)),vi (ca (f2 x4.toNat)),vi (bW (f2 x4.toNat)),vi (db (f2 x4.toNat)),vi (bf (f2 x4.toNat)),vi (bf (ab (f2 x4.toNat))),vi (bf (ab (ab (f2 x4.toNat)))),vi (bf (ab (ab (ab (f2 x4.toNat))))),vi (bf (ab (ab (ab (ab (f2 x4.toNat)))))),vi (bf (ab (ab (ab (ab (ab (f2 x4.toNat))))))),vi (bf (ab (ab (ab (ab (ab (ab (f2 x4.toNat)))))))),vi (bf (ab (ab (ab (ab (ab (ab (ab (f2 x4.toNat))))))))),vi (bf (ab (ab (ab (ab (ab (ab (ab (ab (f2 x4.toNat))))))))))],vi 0]))))))))
theorem WS:cJ cL (aP JJ Fa u0 Pl [V.agg [V.sl n0 (aa ak f0),V.sl n2 (aa ah f2)],vi x4]) (Z3 n0 f0 n2 f2 x4):=⟨by kernel_rfl,by kernel_rfl⟩
def sU:ByteArray:=bif bI n0 (aa ak f0) n2 (aa ah f2)!=0 then ByteArray.mk (Array.mk []) else bif !av x4 0 (wI ((↑n2:Int)-1)) then ByteArray.mk (Array.mk []) else sv (ap (f2 x4.toNat))
def bE:Int:=bif bI n0 (aa ak f0) n2 (aa ah f2)!=0 then 0 else bif !av x4 0 (wI ((↑n2:Int)-1)) then 0 else aQ (f2 x4.toNat)
def tk:Int:=bif bI n0 (aa ak f0) n2 (aa ah f2)!=0 then 0 else bif !av x4 0 (wI ((↑n2:Int)-1)) then 0 else ca (f2 x4.toNat)
def eU:Int:=bif bI n0 (aa ak f0) n2 (aa ah f2)!=0 then 0 else bif !av x4 0 (wI ((↑n2:Int)-1)) then 0 else bW (f2 x4.toNat)
def jU:Int:=bif bI n0 (aa ak f0) n2 (aa ah f2)!=0 then 0 else bif !av x4 0 (wI ((↑n2:Int)-1)) then 0 else db (f2 x4.toNat)
def gN:Int:=bif bI n0 (aa ak f0) n2 (aa ah f2)!=0 then 0 else bif !av x4 0 (wI ((↑n2:Int)-1)) then 0 else bf (f2 x4.toNat)
def jZ:Int:=bif bI n0 (aa ak f0) n2 (aa ah f2)!=0 then 0 else bif !av x4 0 (wI ((↑n2:Int)-1)) then 0 else bf (ab (f2 x4.toNat))
def gh:Int:=bif bI n0 (aa ak f0) n2 (aa ah f2)!=0 then 0 else bif !av x4 0 (wI ((↑n2:Int)-1)) then 0 else bf (ab (ab (f2 x4.toNat)))
def gb:Int:=bif bI n0 (aa ak f0) n2 (aa ah f2)!=0 then 0 else bif !av x4 0 (wI ((↑n2:Int)-1)) then 0 else bf (ab (ab (ab (f2 x4.toNat))))
def gq:Int:=bif bI n0 (aa ak f0) n2 (aa ah f2)!=0 then 0 else bif !av x4 0 (wI ((↑n2:Int)-1)) then 0 else bf (ab (ab (ab (ab (f2 x4.toNat)))))
def ff:Int:=bif bI n0 (aa ak f0) n2 (aa ah f2)!=0 then 0 else bif !av x4 0 (wI ((↑n2:Int)-1)) then 0 else bf (ab (ab (ab (ab (ab (f2 x4.toNat))))))
def qP:Int:=bif bI n0 (aa ak f0) n2 (aa ah f2)!=0 then 0 else bif !av x4 0 (wI ((↑n2:Int)-1)) then 0 else bf (ab (ab (ab (ab (ab (ab (f2 x4.toNat)))))))
def qE:Int:=bif bI n0 (aa ak f0) n2 (aa ah f2)!=0 then 0 else bif !av x4 0 (wI ((↑n2:Int)-1)) then 0 else bf (ab (ab (ab (ab (ab (ab (ab (f2 x4.toNat))))))))
def pF:Int:=bif bI n0 (aa ak f0) n2 (aa ah f2)!=0 then 0 else bif !av x4 0 (wI ((↑n2:Int)-1)) then 0 else bf (ab (ab (ab (ab (ab (ab (ab (ab (f2 x4.toNat)))))))))
def bM:Int:=bif bI n0 (aa ak f0) n2 (aa ah f2)!=0 then bI n0 (aa ak f0) n2 (aa ah f2) else bif !av x4 0 (wI ((↑n2:Int)-1)) then 4 else 0
def BM:V:=.tup [.agg [.str (sU n0 f0 n2 f2 x4),vi (bE n0 f0 n2 f2 x4),vi (tk n0 f0 n2 f2 x4),vi (eU n0 f0 n2 f2 x4),vi (jU n0 f0 n2 f2 x4),vi (gN n0 f0 n2 f2 x4),vi (jZ n0 f0 n2 f2 x4),vi (gh n0 f0 n2 f2 x4),vi (gb n0 f0 n2 f2 x4),vi (gq n0 f0 n2 f2 x4),vi (ff n0 f0 n2 f2 x4),vi (qP n0 f0 n2 f2 x4),vi (qE n0 f0 n2 f2 x4),vi (pF n0 f0 n2 f2 x4)],vi (bM n0 f0 n2 f2 x4)]
theorem afF (hp:yaa n0 f0/\yaa n2 f2):aR cq (Z3 n0 f0 n2 f2 x4) (BM n0 f0 n2 f2 x4):=evObp (by first|assumption|(exact hp)) (evObt (evBr (fun h0=>evRet (by unfold BM sU bE tk eU jU gN jZ gh gb gq ff qP qE pF bM;try rw[h0];rfl)) (fun h0=>evAsm (fun a1=>aw (evObt (evBr (fun h1=>evRet (by unfold BM sU bE tk eU jU gN jZ gh gb gq ff qP qE pF bM;try rw[h0];try rw[h1];rfl)) (fun h1=>aE (by first|assumption|((exact inT (a1 rfl) h1))) (evRet (by unfold BM sU bE tk eU jU gN jZ gh gb gq ff qP qE pF bM;try rw[h0];try rw[h1];rfl)))))))))
def Z6:aB:=bF [.agg [.sl ak,.sl ah],tI] (fun
 |[.agg [.sl n0 f0,.sl n2 f2],.int _ x4]=>yaa n0 f0/\yaa n2 f2
 |_=>False) fun
 |[.agg [.sl n0 f0,.sl n2 f2],.int _ x4]=>BM n0 f0 n2 f2 x4
 |_=>.any
theorem ahE:(vP Z6).Ok Tryz.prog 85:=bV CO Tryz.func85 (by kernel_rfl) fun ds hp=>cQ (WS ..) (afF _ _ _ _ _ hp)
structure nM (n:Nat) (f:Nat->List V):Prop where
 r:∀ i,i<n->-5000<=ar (f i)/\ar (f i)<=5000
 u:∀ i,i+1<n->ar (f i)<ar (f (i+1))
theorem akN {n:Nat} {f g:Nat->List V} (hn:n<=12) (e:∀ i,ar (g i)=ar (f i)) (h1:jA n g=true) (h2:d0 n g=true):nM n f:=by
 refine ⟨fun i hi=>?_,fun i hi=>?_⟩
 ·have:=cS h1 i hi
  have:=zj this
  rw [e]at this
  exact this
 ·have:=cS h2 (i+1) hi
  have:decide (ar (g i)<ar (g (i+1)))=true:=by
   unfold R0 at this
   rw [wrapI (by omega) (by omega),show((((i+1:Nat):Int)==0)=false) from by simp;omega]at this
   have h3:decide (ar (g ((((i+1:Nat):Int)-1).toNat))<ar (g (((i+1:Nat):Int).toNat)))=true:=this
   rw [show(((i+1:Nat):Int)-1).toNat=i by omega,show((i+1:Nat):Int).toNat=i+1 by omega]at h3
   exact h3
  have:=of_decide_eq_true this
  rw [e,e]at this
  exact this
theorem aeW {f0:Nat->List V} {a:Nat} (h:gf (aa ak f0) a=0):nM (au (ap (ab (f0 a)))) (aX (ap (ab (f0 a))))/\nM (au (ap (ab (ab (f0 a))))) (aX (ap (ab (ab (f0 a))))):=by
 have t:=Cw h
 unfold gf at h
 obtain ⟨_,h⟩:=jB h (by decide)
 obtain ⟨_,h⟩:=jB h (by decide)
 unfold CJ at h
 obtain ⟨_,h⟩:=jB h (by decide)
 obtain ⟨h1,h⟩:=jB h (by decide)
 obtain ⟨h2,_⟩:=jB h (by decide)
 obtain ⟨r1,r2⟩:=Kq h1
 obtain ⟨u1,u2⟩:=Kq h2
 exact ⟨akN t.u.2 (fun i=>rfl) r1 u1,akN t.v.2 (fun i=>rfl) r2 u2⟩
theorem aq2 {x:List V} {H:Int} (t:mU x) (u:nM (au (ap (ab x))) (aX (ap (ab x)))) (v:nM (au (ap (ab (ab x)))) (aX (ap (ab (ab x))))) (h:1<=H/\H<=30000) :
 lM (Fi x) (tR x) (au (ap (ab x))) (cK (aX (ap (ab x))) H) (au (ap (ab (ab x)))) (cK (aX (ap (ab (ab x)))) H):=by
 have key:∀ {n:Nat} {f:Nat->List V},nM n f->∀ i:Nat,i+1<n->wI (ar (cK f H (i+1))-ar (cK f H i))≠0:=by
  intro n f w i hi
  have hu:=w.u i hi
  have r0:=w.r i (by omega)
  have r1:=w.r (i+1) hi
  have b:∀ a:Int,-5000<=a/\a<=5000->-150000000<=a*H/\a*H<=150000000:=fun a ha=>by
   have h1:a*H<=5000*H:=Int.mul_le_mul_of_nonneg_right ha.2 (by omega)
   have h2:(-5000)*H<=a*H:=Int.mul_le_mul_of_nonneg_right ha.1 (by omega)
   omega
  have b0:=b _ r0
  have b1:=b _ r1
  have e:∀ j,ar (cK f H j)=wI (ar (f j)*H):=fun j=>rfl
  rw [e,e,wrapI (x:=ar (f i)*H) (by omega) (by omega),wrapI (x:=ar (f (i+1))*H) (by omega) (by omega),wrapI (by omega) (by omega)]
  have:ar (f i)*H<ar (f (i+1))*H:=Int.mul_lt_mul_of_pos_right hu (by omega)
  omega
 refine ⟨⟨t.u.1,by have:=t.u.2;omega⟩,⟨t.v.1,by have:=t.v.2;omega⟩,by rw[t.n];exact Nat.le_refl _,fun i hi=>?_,key u,key v⟩
 have:=t.row i hi
 show _<=au (ap (tR x i))
 omega
theorem ama {n0:Nat} {f0:Nat->List V} {n2:Nat} {f2:Nat->List V} {x4:Int} (h:bM n0 f0 n2 f2 x4=0) :
 (0<=bE n0 f0 n2 f2 x4/\bE n0 f0 n2 f2 x4<(n0:Int))/\gf (aa ak (aa ak f0)) (bE n0 f0 n2 f2 x4).toNat=0:=by
 unfold bM at h
 have e:bI n0 (aa ak f0) n2 (aa ah f2)=0:=by
  by_cases e:bI n0 (aa ak f0) n2 (aa ah f2)=0
  ·exact e
  ·have:(bI n0 (aa ak f0) n2 (aa ah f2)!=0)=true:=by simpa using e
   rw [this]at h
   exact h
 have c:=nu n0 (aa ak f0) n2 (aa ah f2)
 have v:zr n0 (aa ak f0) n2 (aa ah f2):=uG (by
  have:=congrArg (fun p=>p.2.2) c
  exact this.symm.trans e)
 have ne:(bI n0 (aa ak f0) n2 (aa ah f2)!=0)=false:=by rw[e];rfl
 rw [ne]at h
 have hb:(!av x4 0 (wI ((n2:Int)-1)))=false:=by
  cases hh:(!av x4 0 (wI ((n2:Int)-1))) with
  |false=>rfl
  |true=>rw[hh]at h;cases h
 have l2:=v.l2
 have r:=of_decide_eq_true (inT (by omega) hb)
 have eq:bE n0 f0 n2 f2 x4=aQ (f2 x4.toNat):=by
  unfold bE
  rw [ne,hb];rfl
 have lm:=(PX (a:=x4.toNat) v.l0 (v.lm x4.toNat (by omega))).t
 have lm:0<=aQ (f2 x4.toNat)/\aQ (f2 x4.toNat)<(n0:Int):=lm
 rw [eq]
 exact ⟨lm,v.tb _ (by omega)⟩
def Pr:bj:=(177,.con ZF)::(85,.con Z6)::Fa
theorem M2:aW Tryz.prog eqs its Pr:=.con aeX (.con ahE (CO))
def te:=fun i=>al ae (aX (ap (ab (f0 (bE n0 (aa ak f0) n2 (aa ah f2) x4).toNat))) i)
def tv:=fun i=>al ae (aX (ap (ab (ab (f0 (bE n0 (aa ak f0) n2 (aa ah f2) x4).toNat)))) i)
def zy:=((2:Nat)<=au (ap (ab (f0 (bE n0 (aa ak f0) n2 (aa ah f2) x4).toNat)))/\au (ap (ab (f0 (bE n0 (aa ak f0) n2 (aa ah f2) x4).toNat)))<=(1000:Nat))/\((2:Nat)<=au (ap (ab (ab (f0 (bE n0 (aa ak f0) n2 (aa ah f2) x4).toNat))))/\au (ap (ab (ab (f0 (bE n0 (aa ak f0) n2 (aa ah f2) x4).toNat))))<=(1000:Nat))/\au (ap (ab (f0 (bE n0 (aa ak f0) n2 (aa ah f2) x4).toNat)))<=au (ap (ab (ab (ab (f0 (bE n0 (aa ak f0) n2 (aa ah f2) x4).toNat)))))/\(∀ (i:Nat),i<au (ap (ab (ab (ab (f0 (bE n0 (aa ak f0) n2 (aa ah f2) x4).toNat)))))->au (ap (ab (ab (f0 (bE n0 (aa ak f0) n2 (aa ah f2) x4).toNat))))<=au (ap (aX (ap (ab (ab (ab (f0 (bE n0 (aa ak f0) n2 (aa ah f2) x4).toNat))))) i)))/\(∀ (i:Nat),i+(1:Nat)<au (ap (ab (f0 (bE n0 (aa ak f0) n2 (aa ah f2) x4).toNat)))->wI (ar (cK (te n0 f0 n2 f2 x4) x12 (i+(1:Nat)))-ar (cK (te n0 f0 n2 f2 x4) x12 i))≠(0:Int))/\∀ (i:Nat),i+(1:Nat)<au (ap (ab (ab (f0 (bE n0 (aa ak f0) n2 (aa ah f2) x4).toNat))))->wI (ar (cK (tv n0 f0 n2 f2 x4) x12 (i+(1:Nat)))-ar (cK (tv n0 f0 n2 f2 x4) x12 i))≠(0:Int)
def sY:RT Empty:=.obp (nz 1000) (.obt (.obp (nz 1000) (.obt (.ret (V.tup [V.agg [vi (ea (wI (gP (fun i=>al [Ty.sl ae] (aX (ap (ab (ab (ab (f0 (bE n0 (aa ak f0) n2 (aa ah f2) x4).toNat))))) i)) (db (f0 (bE n0 (aa ak f0) n2 (aa ah f2) x4).toNat)) (au (ap (ab (f0 (bE n0 (aa ak f0) n2 (aa ah f2) x4).toNat)))) (aa ae (cK (te n0 f0 n2 f2 x4) x12)) (au (ap (ab (ab (f0 (bE n0 (aa ak f0) n2 (aa ah f2) x4).toNat))))) (aa ae (cK (tv n0 f0 n2 f2 x4) x12)) x8 x9 x10 x11*lR (eU n0 (aa ak f0) n2 (aa ah f2) x4) (gb n0 (aa ak f0) n2 (aa ah f2) x4) (ff n0 (aa ak f0) n2 (aa ah f2) x4) x5 x6 x7)) 1000),vi (fo (wI (gQ (fun i=>al [Ty.sl ae] (aX (ap (ab (ab (ab (f0 (bE n0 (aa ak f0) n2 (aa ah f2) x4).toNat))))) i)) (db (f0 (bE n0 (aa ak f0) n2 (aa ah f2) x4).toNat)) (au (ap (ab (f0 (bE n0 (aa ak f0) n2 (aa ah f2) x4).toNat)))) (aa ae (cK (te n0 f0 n2 f2 x4) x12)) (au (ap (ab (ab (f0 (bE n0 (aa ak f0) n2 (aa ah f2) x4).toNat))))) (aa ae (cK (tv n0 f0 n2 f2 x4) x12)) x8 x9 x10 x11*lQ (eU n0 (aa ak f0) n2 (aa ah f2) x4) (gh n0 (aa ak f0) n2 (aa ah f2) x4) (gq n0 (aa ak f0) n2 (aa ah f2) x4) x5 x6 x7)) 1000)],vi 0])))))
def gV:RT Empty:=.obp (zy n0 f0 n2 f2 x4 x12) (.obt (sY n0 f0 n2 f2 x4 x5 x6 x7 x8 x9 x10 x11 x12))
def m9:=au (ap (ab (f0 (bE n0 (aa ak f0) n2 (aa ah f2) x4).toNat)))<=(1000:Nat)/\au (ap (ab (ab (f0 (bE n0 (aa ak f0) n2 (aa ah f2) x4).toNat))))<=(1000:Nat)
def qb:RT Empty:=.und (.obp (m9 n0 f0 n2 f2 x4) (.obt (.und (gV n0 f0 n2 f2 x4 x5 x6 x7 x8 x9 x10 x11 x12) (gV n0 f0 n2 f2 x4 x5 x6 x7 x8 x9 x10 x11 x12)))) (.obp (m9 n0 f0 n2 f2 x4) (.obt (gV n0 f0 n2 f2 x4 x5 x6 x7 x8 x9 x10 x11 x12)))
def yr:RT Empty:=.ob (dI (bE n0 (aa ak f0) n2 (aa ah f2) x4) n0) (.und (.cb (.und (.obp (m9 n0 f0 n2 f2 x4) (.obt (.und (.obp (zy n0 f0 n2 f2 x4 x12) (.obt (.und (sY n0 f0 n2 f2 x4 x5 x6 x7 x8 x9 x10 x11 x12) (sY n0 f0 n2 f2 x4 x5 x6 x7 x8 x9 x10 x11 x12)))) (.und (.und (gV n0 f0 n2 f2 x4 x5 x6 x7 x8 x9 x10 x11 x12) (gV n0 f0 n2 f2 x4 x5 x6 x7 x8 x9 x10 x11 x12)) (.und (gV n0 f0 n2 f2 x4 x5 x6 x7 x8 x9 x10 x11 x12) (gV n0 f0 n2 f2 x4 x5 x6 x7 x8 x9 x10 x11 x12)))))) (.und (qb n0 f0 n2 f2 x4 x5 x6 x7 x8 x9 x10 x11 x12) (qb n0 f0 n2 f2 x4 x5 x6 x7 x8 x9 x10 x11 x12)))) (.und (.und (.cb (qb n0 f0 n2 f2 x4 x5 x6 x7 x8 x9 x10 x11 x12)) (.cb (.obp (m9 n0 f0 n2 f2 x4) (.obt (gV n0 f0 n2 f2 x4 x5 x6 x7 x8 x9 x10 x11 x12))))) (.und (.cb (qb n0 f0 n2 f2 x4 x5 x6 x7 x8 x9 x10 x11 x12)) (.cb (.obp (m9 n0 f0 n2 f2 x4) (.obt (gV n0 f0 n2 f2 x4 x5 x6 x7 x8 x9 x10 x11 x12)))))))
def zp:RT Empty:=.br (bM n0 (aa ak f0) n2 (aa ah f2) x4==0) (.cb (.br (fm x8 x9 x10 x11 x12 != 0) (.ret (V.tup [V.agg [vi 0,vi 0],vi (fm x8 x9 x10 x11 x12)])) (yr n0 f0 n2 f2 x4 x5 x6 x7 x8 x9 x10 x11 x12))) (.br (bM n0 (aa ak f0) n2 (aa ah f2) x4 != 0) (.ret (V.tup [V.agg [vi 0,vi 0],vi (bM n0 (aa ak f0) n2 (aa ah f2) x4)])) (yr n0 f0 n2 f2 x4 x5 x6 x7 x8 x9 x10 x11 x12))
def Yc:RT Empty:=.obp ((yaa n0 f0)/\yaa n2 f2) (.obt (.br (bM n0 (aa ak f0) n2 (aa ah f2) x4==0) (.ob (bM n0 (aa ak f0) n2 (aa ah f2) x4==0) (.cb (.br (eV x5 x6 x7) (.brf (.brt (.ret (V.tup [V.agg [vi 0,vi 0],vi 7])))) (zp n0 f0 n2 f2 x4 x5 x6 x7 x8 x9 x10 x11 x12)))) (zp n0 f0 n2 f2 x4 x5 x6 x7 x8 x9 x10 x11 x12)))
theorem UK:cJ cL (aP JJ Pr u0 yG [V.agg [V.sl n0 (aa ak f0),V.sl n2 (aa ah f2)],vi x4,V.agg [vi x5,vi x6,vi x7],V.agg [vi x8,vi x9,vi x10,vi x11],vi x12]) (Yc n0 f0 n2 f2 x4 x5 x6 x7 x8 x9 x10 x11 x12):=⟨by kernel_rfl,by kernel_rfl⟩
def ZQ (x:List V) (a c d e h:Int):Int:=gP (tR x) (db x) (au (ap (ab x))) (aa ae (cK (aX (ap (ab x))) h)) (au (ap (ab (ab x)))) (aa ae (cK (aX (ap (ab (ab x)))) h)) a c d e
def Y1 (x:List V) (a c d e h:Int):Int:=gQ (tR x) (db x) (au (ap (ab x))) (aa ae (cK (aX (ap (ab x))) h)) (au (ap (ab (ab x)))) (aa ae (cK (aX (ap (ab (ab x)))) h)) a c d e
def Cc:Int:=bif bM n0 f0 n2 f2 x4==0 then bif eV x5 x6 x7 then 7 else fm x8 x9 x10 x11 x12 else bM n0 f0 n2 f2 x4
def twL:Int:=ea (wI (ZQ (f0 (bE n0 f0 n2 f2 x4).toNat) x8 x9 x10 x11 x12*lR (eU n0 f0 n2 f2 x4) (gb n0 f0 n2 f2 x4) (ff n0 f0 n2 f2 x4) x5 x6 x7)) 1000
def twH:Int:=fo (wI (Y1 (f0 (bE n0 f0 n2 f2 x4).toNat) x8 x9 x10 x11 x12*lQ (eU n0 f0 n2 f2 x4) (gh n0 f0 n2 f2 x4) (gq n0 f0 n2 f2 x4) x5 x6 x7)) 1000
def fL:Int:=bif Cc n0 f0 n2 f2 x4 x5 x6 x7 x8 x9 x10 x11 x12==0 then twL n0 f0 n2 f2 x4 x5 x6 x7 x8 x9 x10 x11 x12 else 0
def fk:Int:=bif Cc n0 f0 n2 f2 x4 x5 x6 x7 x8 x9 x10 x11 x12==0 then twH n0 f0 n2 f2 x4 x5 x6 x7 x8 x9 x10 x11 x12 else 0
def fJ:Int:=Cc n0 f0 n2 f2 x4 x5 x6 x7 x8 x9 x10 x11 x12
theorem abl (hp:yaa n0 (aa ak f0)/\yaa n2 (aa ah f2)):aR cq (Yc n0 f0 n2 f2 x4 x5 x6 x7 x8 x9 x10 x11 x12) (.tup [.agg [vi (fL n0 (aa ak f0) n2 (aa ah f2) x4 x5 x6 x7 x8 x9 x10 x11 x12),vi (fk n0 (aa ak f0) n2 (aa ah f2) x4 x5 x6 x7 x8 x9 x10 x11 x12)],vi (fJ n0 (aa ak f0) n2 (aa ah f2) x4 x5 x6 x7 x8 x9 x10 x11 x12)]):=by
 have leaf:Cc n0 (aa ak f0) n2 (aa ah f2) x4 x5 x6 x7 x8 x9 x10 x11 x12=0->aR cq (sY n0 f0 n2 f2 x4 x5 x6 x7 x8 x9 x10 x11 x12) (.tup [.agg [vi (fL n0 (aa ak f0) n2 (aa ah f2) x4 x5 x6 x7 x8 x9 x10 x11 x12),vi (fk n0 (aa ak f0) n2 (aa ah f2) x4 x5 x6 x7 x8 x9 x10 x11 x12)],vi (fJ n0 (aa ak f0) n2 (aa ah f2) x4 x5 x6 x7 x8 x9 x10 x11 x12)]):=fun h=>evObp (by decide) (evObt (evObp (by decide) (evObt (evRet (by
  unfold fL fk fJ;rw[h];rfl)))))
 have bad:∀ {e:Int},Cc n0 (aa ak f0) n2 (aa ah f2) x4 x5 x6 x7 x8 x9 x10 x11 x12=e->e≠0->aR cq (.ret (V.tup [V.agg [vi 0,vi 0],vi e])) (.tup [.agg [vi (fL n0 (aa ak f0) n2 (aa ah f2) x4 x5 x6 x7 x8 x9 x10 x11 x12),vi (fk n0 (aa ak f0) n2 (aa ah f2) x4 x5 x6 x7 x8 x9 x10 x11 x12)],vi (fJ n0 (aa ak f0) n2 (aa ah f2) x4 x5 x6 x7 x8 x9 x10 x11 x12)]):=fun h h0=>evRet (by
  unfold fL fk fJ;rw[h,show(_==(0:Int))=false from by simpa using h0];rfl)
 have L7:(bM n0 (aa ak f0) n2 (aa ah f2) x4=0->eV x5 x6 x7=false)->aR cq (zp n0 f0 n2 f2 x4 x5 x6 x7 x8 x9 x10 x11 x12) (.tup [.agg [vi (fL n0 (aa ak f0) n2 (aa ah f2) x4 x5 x6 x7 x8 x9 x10 x11 x12),vi (fk n0 (aa ak f0) n2 (aa ah f2) x4 x5 x6 x7 x8 x9 x10 x11 x12)],vi (fJ n0 (aa ak f0) n2 (aa ah f2) x4 x5 x6 x7 x8 x9 x10 x11 x12)]):=fun hw=>by
  have L2:bM n0 (aa ak f0) n2 (aa ah f2) x4=0->fm x8 x9 x10 x11 x12=0->aR cq (yr n0 f0 n2 f2 x4 x5 x6 x7 x8 x9 x10 x11 x12) (.tup [.agg [vi (fL n0 (aa ak f0) n2 (aa ah f2) x4 x5 x6 x7 x8 x9 x10 x11 x12),vi (fk n0 (aa ak f0) n2 (aa ah f2) x4 x5 x6 x7 x8 x9 x10 x11 x12)],vi (fJ n0 (aa ak f0) n2 (aa ah f2) x4 x5 x6 x7 x8 x9 x10 x11 x12)]):=fun h0 hr=>by
   have ht:Cc n0 (aa ak f0) n2 (aa ah f2) x4 x5 x6 x7 x8 x9 x10 x11 x12=0:=by unfold Cc;rw[h0,hw h0,hr];rfl
   have hb:=ama h0
   have tb:=Cw hb.2
   have up:=aeW hb.2
   have hH:1<=x12/\x12<=30000:=by
    unfold fm at hr
    cases hh:av x12 1 30000 with
    |true=>exact zj hh
    |false=>rw[hh]at hr;cases hr
   have vw:=aq2 (H:=x12) tb up.1 up.2 hH
   have c4:zy n0 f0 n2 f2 x4 x12:=vw
   have c6:m9 n0 f0 n2 f2 x4:=⟨vw.1.2,vw.2.1.2⟩
   have L3:=leaf ht
   have L1:aR cq (gV n0 f0 n2 f2 x4 x5 x6 x7 x8 x9 x10 x11 x12) (.tup [.agg [vi (fL n0 (aa ak f0) n2 (aa ah f2) x4 x5 x6 x7 x8 x9 x10 x11 x12),vi (fk n0 (aa ak f0) n2 (aa ah f2) x4 x5 x6 x7 x8 x9 x10 x11 x12)],vi (fJ n0 (aa ak f0) n2 (aa ah f2) x4 x5 x6 x7 x8 x9 x10 x11 x12)]):=evObp c4 (evObt L3)
   have L5:aR cq (qb n0 f0 n2 f2 x4 x5 x6 x7 x8 x9 x10 x11 x12) (.tup [.agg [vi (fL n0 (aa ak f0) n2 (aa ah f2) x4 x5 x6 x7 x8 x9 x10 x11 x12),vi (fk n0 (aa ak f0) n2 (aa ah f2) x4 x5 x6 x7 x8 x9 x10 x11 x12)],vi (fJ n0 (aa ak f0) n2 (aa ah f2) x4 x5 x6 x7 x8 x9 x10 x11 x12)]):=⟨evObp c6 (evObt ⟨L1,L1⟩),evObp c6 (evObt L1)⟩
   refine aE (dqt hb.1) ?_
   repeat' (first|exact L3|exact L1|exact L5|refine evObt ?_|refine aw ?_|refine evObp c4 ?_|refine evObp c6 ?_|constructor)
  refine evBr (fun h=>aw (evObt (evBr (fun h2=>?_) (fun h2=>L2 (eq_of_beq h) (by simpa using h2)))) ) (fun h=>evBr (fun h2=>?_) (fun h2=>?_))
  ·exact bad (by unfold Cc;rw[h,hw (eq_of_beq h)];rfl) (by simpa using h2)
  ·exact bad (by unfold Cc;rw[h];rfl) (by simpa using h2)
  ·exact absurd (by simpa using h2:bM n0 (aa ak f0) n2 (aa ah f2) x4=0) (by simpa using h)
 refine evObp hp (evObt (evBr (fun h=>aE h (aw (evObt (evBr (fun h2=>lZ (ec (bad (by unfold Cc;rw[h,h2];rfl) (by decide)))) (fun h2=>L7 fun _=>h2))))) (fun h=>L7 fun h2=>?_)))
 exact absurd h2 (by simpa using h)
def aau:aB:=bF [.agg [.sl ak,.sl ah],tI,.agg bQ,.agg je,tI] (fun
 |[.agg [.sl n0 f0,.sl n2 f2],.int _ x4,.agg [.int _ x5,.int _ x6,.int _ x7],.agg [.int _ x8,.int _ x9,.int _ x10,.int _ x11],.int _ x12]=>yaa n0 f0/\yaa n2 f2
 |_=>False) fun
 |[.agg [.sl n0 f0,.sl n2 f2],.int _ x4,.agg [.int _ x5,.int _ x6,.int _ x7],.agg [.int _ x8,.int _ x9,.int _ x10,.int _ x11],.int _ x12]=>.tup [.agg [vi (fL n0 f0 n2 f2 x4 x5 x6 x7 x8 x9 x10 x11 x12),vi (fk n0 f0 n2 f2 x4 x5 x6 x7 x8 x9 x10 x11 x12)],vi (fJ n0 f0 n2 f2 x4 x5 x6 x7 x8 x9 x10 x11 x12)]
 |_=>.any
theorem abM:(vP aau).Ok Tryz.prog 33:=bV M2 Tryz.func33 (by kernel_rfl) fun ds hp=>cQ (UK ..) (abl _ _ _ _ _ _ _ _ _ _ _ _ _ hp)
def yaZ:bj:=(33,.con aau)::Pr
theorem Ki:aW Tryz.prog eqs its yaZ:=.con abM (M2)
set_option maxHeartbeats 0
set_option linter.unusedSectionVars false
def eM (h:Int):Prop:=(2<=n1/\n1<=1000)/\(2<=n3/\n3<=1000)/\n1<=n5/\(∀ i:Nat,i<n5->n3<=au (ap (f5 i)))/\(∀ i:Nat,i+1<n1->wI (wI (ar (f1 (i+1))-ar (f1 i))*h)≠0)/\(∀ i:Nat,i+1<n3->wI (wI (ar (f3 (i+1))-ar (f3 i))*h)≠0)
theorem eM.a {n1:Nat} {f1:Nat->List V} {n3:Nat} {f3:Nat->List V} {n5:Nat} {f5:Nat->List V} {h:Int} (hp:eM n1 f1 n3 f3 n5 f5 h):2<=n1/\n1<=1000:=hp.1
theorem eM.b {n1:Nat} {f1:Nat->List V} {n3:Nat} {f3:Nat->List V} {n5:Nat} {f5:Nat->List V} {h:Int} (hp:eM n1 f1 n3 f3 n5 f5 h):2<=n3/\n3<=1000:=hp.2.1
theorem N6 (p:Nat->Bool):∀ k,Jb p k<=k-1
 |0=>Nat.le_refl _
 | k+1=>by
   unfold Jb
   have:=N6 p k
   cases p k
   ·show Jb p k<=k+1-1;omega
   ·exact Nat.le_refl k
theorem dX {n:Nat} (f:Nat->List V) (x h:Int) (hn:2<=n/\n<=1000):0<=aI n f x h/\aI n f x h+1<(n:Int):=by
 have:=N6 (fun i=>decide (wI (ar (f i)*h)<=x)) (n-1)
 unfold aI
 omega
section
variable {n1:Nat} {f1:Nat->List V} {n3:Nat} {f3:Nat->List V} {n5:Nat} {f5:Nat->List V} {h p q:Int} (hp:eM n1 f1 n3 f3 n5 f5 h) (a:0<=p/\p+1<(n1:Int)) (c:0<=q/\q+1<(n3:Int))
include hp a c
theorem iw0:wI (p+0)=p:=by have:=hp.1;rw[Int.add_zero];exact wrapI (by omega) (by omega)
theorem iw1:wI (p+1)=p+1:=by have:=hp.1;exact wrapI (by omega) (by omega)
theorem iw2:wI (q+1)=q+1:=by have:=hp.2.1;exact wrapI (by omega) (by omega)
theorem iw3:wI (p+wI (0+1))=p+1:=iw1 hp a c
theorem aqk:decide (0<=wI (p+0)/\wI (p+0)<(n5:Int))=true:=by rw[iw0 hp a c];have:=hp.2.2.1;exact dqt (by omega)
theorem aqf:decide (0<=wI (p+wI (0+1))/\wI (p+wI (0+1))<(n5:Int))=true:=by rw[iw3 hp a c];have:=hp.2.2.1;exact dqt (by omega)
theorem aoy:decide (0<=q/\q<(au (ap (f5 (wI (p+0)).toNat)):Int))=true:=by rw[iw0 hp a c];have h3:=hp.2.2.1;have:=hp.2.2.2.1 p.toNat (by omega);exact dqt (by omega)
theorem aom:decide (0<=wI (q+1)/\wI (q+1)<(au (ap (f5 (wI (p+0)).toNat)):Int))=true:=by rw[iw0 hp a c,iw2 hp a c];have h3:=hp.2.2.1;have:=hp.2.2.2.1 p.toNat (by omega);exact dqt (by omega)
theorem arp:decide (0<=q/\q<(au (ap (f5 (wI (p+wI (0+1))).toNat)):Int))=true:=by rw[iw3 hp a c];have h3:=hp.2.2.1;have:=hp.2.2.2.1 (p+1).toNat (by omega);exact dqt (by omega)
theorem apR:decide (0<=wI (q+1)/\wI (q+1)<(au (ap (f5 (wI (p+wI (0+1))).toNat)):Int))=true:=by rw[iw3 hp a c,iw2 hp a c];have h3:=hp.2.2.1;have:=hp.2.2.2.1 (p+1).toNat (by omega);exact dqt (by omega)
theorem aqV:decide (0<=q/\q<(n3:Int))=true:=dqt (by omega)
theorem aru:decide (0<=wI (q+1)/\wI (q+1)<(n3:Int))=true:=by rw[iw2 hp a c];exact dqt (by omega)
theorem arq:decide (0<=p/\p<(n1:Int))=true:=dqt (by omega)
theorem ajk:decide (0<=wI (p+1)/\wI (p+1)<(n1:Int))=true:=by rw[iw1 hp a c];exact dqt (by omega)
theorem aox:b5 (ar (f3 q.toNat)) (ar (f3 (wI (q+1)).toNat)) h=0->False:=by
 rw [iw2 hp a c,show(q+1).toNat=q.toNat+1 by omega];exact hp.2.2.2.2.2 _ (by omega)
theorem aqI:b5 (ar (f1 p.toNat)) (ar (f1 (wI (p+1)).toNat)) h=0->False:=by
 rw [iw1 hp a c,show(p+1).toNat=p.toNat+1 by omega];exact hp.2.2.2.2.1 _ (by omega)
theorem alf:((1:Nat)<=n1/\n1<=1000)/\1<=n3/\n3<=1000:=by have:=hp.1;have:=hp.2.1;omega
end
def aar:RT Empty:=dm (s0,x8) (.obp (((1:Nat)<=n1/\n1<=(1000:Nat))/\(1:Nat)<=n3/\n3<=(1000:Nat)) (.obt (.br (!eB n1 (aa ae f1) n3 (aa ae f3) x9 x10 x11) (.ret (V.agg [vi 0,vi x7])) (.cb (.cb (.brt (.ob (dI (wI (aI n1 (aa ae f1) x9 x11+0)) n5) (.ob (decide (0<=aI n3 (aa ae f3) x10 x11/\aI n3 (aa ae f3) x10 x11<(↑(au (ap (f5 (wI (aI n1 (aa ae f1) x9 x11+0)).toNat))):Int))) (.ob (dI (wI (aI n1 (aa ae f1) x9 x11+0)) n5) (.ob (decide (0<=wI (aI n3 (aa ae f3) x10 x11+1)/\wI (aI n3 (aa ae f3) x10 x11+1)<(↑(au (ap (f5 (wI (aI n1 (aa ae f1) x9 x11+0)).toNat))):Int))) (.ob (dI (aI n3 (aa ae f3) x10 x11) n3) (.ob (dI (wI (aI n3 (aa ae f3) x10 x11+1)) n3) (.cb (.obp (b5 (ar (f3 (aI n3 (aa ae f3) x10 x11).toNat)) (ar (f3 (wI (aI n3 (aa ae f3) x10 x11+(1:Int))).toNat)) x11=(0:Int)->False) (.obt (.obp (b5 (ar (f3 (aI n3 (aa ae f3) x10 x11).toNat)) (ar (f3 (wI (aI n3 (aa ae f3) x10 x11+(1:Int))).toNat)) x11=(0:Int)->False) (.obt (.obt (.brt (.ob (dI (wI (aI n1 (aa ae f1) x9 x11+wI (0+1))) n5) (.ob (decide (0<=aI n3 (aa ae f3) x10 x11/\aI n3 (aa ae f3) x10 x11<(↑(au (ap (f5 (wI (aI n1 (aa ae f1) x9 x11+wI (0+1))).toNat))):Int))) (.ob (dI (wI (aI n1 (aa ae f1) x9 x11+wI (0+1))) n5) (.ob (decide (0<=wI (aI n3 (aa ae f3) x10 x11+1)/\wI (aI n3 (aa ae f3) x10 x11+1)<(↑(au (ap (f5 (wI (aI n1 (aa ae f1) x9 x11+wI (0+1))).toNat))):Int))) (.ob (dI (aI n3 (aa ae f3) x10 x11) n3) (.ob (dI (wI (aI n3 (aa ae f3) x10 x11+1)) n3) (.cb (.obp (b5 (ar (f3 (aI n3 (aa ae f3) x10 x11).toNat)) (ar (f3 (wI (aI n3 (aa ae f3) x10 x11+(1:Int))).toNat)) x11=(0:Int)->False) (.obt (.obp (b5 (ar (f3 (aI n3 (aa ae f3) x10 x11).toNat)) (ar (f3 (wI (aI n3 (aa ae f3) x10 x11+(1:Int))).toNat)) x11=(0:Int)->False) (.obt (.obt (.brf (.obt (.obt (.ob (dI (aI n1 (aa ae f1) x9 x11) n1) (.ob (dI (wI (aI n1 (aa ae f1) x9 x11+1)) n1) (.cb (.obt (.obt (.ob (dI (aI n1 (aa ae f1) x9 x11) n1) (.ob (dI (wI (aI n1 (aa ae f1) x9 x11+1)) n1) (.cb (.obp (b5 (ar (f1 (aI n1 (aa ae f1) x9 x11).toNat)) (ar (f1 (wI (aI n1 (aa ae f1) x9 x11+(1:Int))).toNat)) x11=(0:Int)->False) (.obt (.obp (b5 (ar (f1 (aI n1 (aa ae f1) x9 x11).toNat)) (ar (f1 (wI (aI n1 (aa ae f1) x9 x11+(1:Int))).toNat)) x11=(0:Int)->False) (.obt (.ret (V.agg [vi (cw (dj (cw (dj (ar (aX (ap (f5 (wI (aI n1 (aa ae f1) x9 x11+0)).toNat)) (aI n3 (aa ae f3) x10 x11).toNat)) (ar (aX (ap (f5 (wI (aI n1 (aa ae f1) x9 x11+0)).toNat)) (wI (aI n3 (aa ae f3) x10 x11+1)).toNat)) (ar (f3 (aI n3 (aa ae f3) x10 x11).toNat)) (ar (f3 (wI (aI n3 (aa ae f3) x10 x11+1)).toNat)) x10 x11) (b5 (ar (f3 (aI n3 (aa ae f3) x10 x11).toNat)) (ar (f3 (wI (aI n3 (aa ae f3) x10 x11+1)).toNat)) x11)) (cw (dj (ar (aX (ap (f5 (wI (aI n1 (aa ae f1) x9 x11+wI (0+1))).toNat)) (aI n3 (aa ae f3) x10 x11).toNat)) (ar (aX (ap (f5 (wI (aI n1 (aa ae f1) x9 x11+wI (0+1))).toNat)) (wI (aI n3 (aa ae f3) x10 x11+1)).toNat)) (ar (f3 (aI n3 (aa ae f3) x10 x11).toNat)) (ar (f3 (wI (aI n3 (aa ae f3) x10 x11+1)).toNat)) x10 x11) (b5 (ar (f3 (aI n3 (aa ae f3) x10 x11).toNat)) (ar (f3 (wI (aI n3 (aa ae f3) x10 x11+1)).toNat)) x11)) (ar (f1 (aI n1 (aa ae f1) x9 x11).toNat)) (ar (f1 (wI (aI n1 (aa ae f1) x9 x11+1)).toNat)) x9 x11) (b5 (ar (f1 (aI n1 (aa ae f1) x9 x11).toNat)) (ar (f1 (wI (aI n1 (aa ae f1) x9 x11+1)).toNat)) x11)),vi (cX (dj (cX (dj (ar (aX (ap (f5 (wI (aI n1 (aa ae f1) x9 x11+0)).toNat)) (aI n3 (aa ae f3) x10 x11).toNat)) (ar (aX (ap (f5 (wI (aI n1 (aa ae f1) x9 x11+0)).toNat)) (wI (aI n3 (aa ae f3) x10 x11+1)).toNat)) (ar (f3 (aI n3 (aa ae f3) x10 x11).toNat)) (ar (f3 (wI (aI n3 (aa ae f3) x10 x11+1)).toNat)) x10 x11) (b5 (ar (f3 (aI n3 (aa ae f3) x10 x11).toNat)) (ar (f3 (wI (aI n3 (aa ae f3) x10 x11+1)).toNat)) x11)) (cX (dj (ar (aX (ap (f5 (wI (aI n1 (aa ae f1) x9 x11+wI (0+1))).toNat)) (aI n3 (aa ae f3) x10 x11).toNat)) (ar (aX (ap (f5 (wI (aI n1 (aa ae f1) x9 x11+wI (0+1))).toNat)) (wI (aI n3 (aa ae f3) x10 x11+1)).toNat)) (ar (f3 (aI n3 (aa ae f3) x10 x11).toNat)) (ar (f3 (wI (aI n3 (aa ae f3) x10 x11+1)).toNat)) x10 x11) (b5 (ar (f3 (aI n3 (aa ae f3) x10 x11).toNat)) (ar (f3 (wI (aI n3 (aa ae f3) x10 x11+1)).toNat)) x11)) (ar (f1 (aI n1 (aa ae f1) x9 x11).toNat)) (ar (f1 (wI (aI n1 (aa ae f1) x9 x11+1)).toNat)) x9 x11) (b5 (ar (f1 (aI n1 (aa ae f1) x9 x11).toNat)) (ar (f1 (wI (aI n1 (aa ae f1) x9 x11+1)).toNat)) x11))]))))))))))))))))))))))))))))))))))))))))))))))))
theorem Vk:cJ cL (aP JJ yaZ uB adV [V.agg [V.str s0,V.sl n1 (aa ae f1),V.sl n3 (aa ae f3),V.sl n5 (aa [Ty.sl ae] f5),vi x7,vi x8],vi x9,vi x10,vi x11]) (aar s0 n1 f1 n3 f3 n5 f5 x7 x8 x9 x10 x11):=⟨by kernel_rfl,by kernel_rfl⟩
def fI:Int:=bif !eB n1 (aa ae f1) n3 (aa ae f3) x9 x10 x11 then 0 else cw (dj (cw (dj (ar (aX (ap (f5 (wI (aI n1 (aa ae f1) x9 x11+0)).toNat)) (aI n3 (aa ae f3) x10 x11).toNat)) (ar (aX (ap (f5 (wI (aI n1 (aa ae f1) x9 x11+0)).toNat)) (wI (aI n3 (aa ae f3) x10 x11+1)).toNat)) (ar (f3 (aI n3 (aa ae f3) x10 x11).toNat)) (ar (f3 (wI (aI n3 (aa ae f3) x10 x11+1)).toNat)) x10 x11) (b5 (ar (f3 (aI n3 (aa ae f3) x10 x11).toNat)) (ar (f3 (wI (aI n3 (aa ae f3) x10 x11+1)).toNat)) x11)) (cw (dj (ar (aX (ap (f5 (wI (aI n1 (aa ae f1) x9 x11+wI (0+1))).toNat)) (aI n3 (aa ae f3) x10 x11).toNat)) (ar (aX (ap (f5 (wI (aI n1 (aa ae f1) x9 x11+wI (0+1))).toNat)) (wI (aI n3 (aa ae f3) x10 x11+1)).toNat)) (ar (f3 (aI n3 (aa ae f3) x10 x11).toNat)) (ar (f3 (wI (aI n3 (aa ae f3) x10 x11+1)).toNat)) x10 x11) (b5 (ar (f3 (aI n3 (aa ae f3) x10 x11).toNat)) (ar (f3 (wI (aI n3 (aa ae f3) x10 x11+1)).toNat)) x11)) (ar (f1 (aI n1 (aa ae f1) x9 x11).toNat)) (ar (f1 (wI (aI n1 (aa ae f1) x9 x11+1)).toNat)) x9 x11) (b5 (ar (f1 (aI n1 (aa ae f1) x9 x11).toNat)) (ar (f1 (wI (aI n1 (aa ae f1) x9 x11+1)).toNat)) x11)
def fG:Int:=bif !eB n1 (aa ae f1) n3 (aa ae f3) x9 x10 x11 then x7 else cX (dj (cX (dj (ar (aX (ap (f5 (wI (aI n1 (aa ae f1) x9 x11+0)).toNat)) (aI n3 (aa ae f3) x10 x11).toNat)) (ar (aX (ap (f5 (wI (aI n1 (aa ae f1) x9 x11+0)).toNat)) (wI (aI n3 (aa ae f3) x10 x11+1)).toNat)) (ar (f3 (aI n3 (aa ae f3) x10 x11).toNat)) (ar (f3 (wI (aI n3 (aa ae f3) x10 x11+1)).toNat)) x10 x11) (b5 (ar (f3 (aI n3 (aa ae f3) x10 x11).toNat)) (ar (f3 (wI (aI n3 (aa ae f3) x10 x11+1)).toNat)) x11)) (cX (dj (ar (aX (ap (f5 (wI (aI n1 (aa ae f1) x9 x11+wI (0+1))).toNat)) (aI n3 (aa ae f3) x10 x11).toNat)) (ar (aX (ap (f5 (wI (aI n1 (aa ae f1) x9 x11+wI (0+1))).toNat)) (wI (aI n3 (aa ae f3) x10 x11+1)).toNat)) (ar (f3 (aI n3 (aa ae f3) x10 x11).toNat)) (ar (f3 (wI (aI n3 (aa ae f3) x10 x11+1)).toNat)) x10 x11) (b5 (ar (f3 (aI n3 (aa ae f3) x10 x11).toNat)) (ar (f3 (wI (aI n3 (aa ae f3) x10 x11+1)).toNat)) x11)) (ar (f1 (aI n1 (aa ae f1) x9 x11).toNat)) (ar (f1 (wI (aI n1 (aa ae f1) x9 x11+1)).toNat)) x9 x11) (b5 (ar (f1 (aI n1 (aa ae f1) x9 x11).toNat)) (ar (f1 (wI (aI n1 (aa ae f1) x9 x11+1)).toNat)) x11)
def Fx:V:=dm (s0,n5,x8) (.agg [vi (fI n1 f1 n3 f3 f5 x9 x10 x11),vi (fG n1 f1 n3 f3 f5 x7 x9 x10 x11)])
theorem adL (hp:eM n1 f1 n3 f3 n5 f5 x11):aR cq (aar s0 n1 f1 n3 f3 n5 f5 x7 x8 x9 x10 x11) (Fx s0 n1 f1 n3 f3 n5 f5 x7 x8 x9 x10 x11):=by
 have a0:=alf hp (dX (aa ae f1) x9 x11 (eM.a hp)) (dX (aa ae f3) x10 x11 (eM.b hp))
 have a1:=aqk hp (dX (aa ae f1) x9 x11 (eM.a hp)) (dX (aa ae f3) x10 x11 (eM.b hp))
 have a2:=aqf hp (dX (aa ae f1) x9 x11 (eM.a hp)) (dX (aa ae f3) x10 x11 (eM.b hp))
 have a3:=aoy hp (dX (aa ae f1) x9 x11 (eM.a hp)) (dX (aa ae f3) x10 x11 (eM.b hp))
 have a4:=aom hp (dX (aa ae f1) x9 x11 (eM.a hp)) (dX (aa ae f3) x10 x11 (eM.b hp))
 have a5:=arp hp (dX (aa ae f1) x9 x11 (eM.a hp)) (dX (aa ae f3) x10 x11 (eM.b hp))
 have a6:=apR hp (dX (aa ae f1) x9 x11 (eM.a hp)) (dX (aa ae f3) x10 x11 (eM.b hp))
 have a7:=aqV hp (dX (aa ae f1) x9 x11 (eM.a hp)) (dX (aa ae f3) x10 x11 (eM.b hp))
 have a8:=aru hp (dX (aa ae f1) x9 x11 (eM.a hp)) (dX (aa ae f3) x10 x11 (eM.b hp))
 have a9:=arq hp (dX (aa ae f1) x9 x11 (eM.a hp)) (dX (aa ae f3) x10 x11 (eM.b hp))
 have a10:=ajk hp (dX (aa ae f1) x9 x11 (eM.a hp)) (dX (aa ae f3) x10 x11 (eM.b hp))
 have a11:=aox hp (dX (aa ae f1) x9 x11 (eM.a hp)) (dX (aa ae f3) x10 x11 (eM.b hp))
 have a12:=aqI hp (dX (aa ae f1) x9 x11 (eM.a hp)) (dX (aa ae f3) x10 x11 (eM.b hp))
 exact evObp (by first|with_reducible assumption|exact a11|exact a12) (evObt (evBr (fun h0=>evRet (by unfold Fx fI fG;try rw[h0];rfl)) (fun h0=>aw (evObt (aw (evObt (ec (aE (by with_reducible assumption) (aE (by with_reducible assumption) (aE (by with_reducible assumption) (aE (by with_reducible assumption) (aE (by with_reducible assumption) (aE (by with_reducible assumption) (aw (evObt (evObp (by first|with_reducible assumption|exact a11|exact a12) (evObt (evObp (by first|with_reducible assumption|exact a11|exact a12) (evObt (evObt (ec (aE (by with_reducible assumption) (aE (by with_reducible assumption) (aE (by with_reducible assumption) (aE (by with_reducible assumption) (aE (by with_reducible assumption) (aE (by with_reducible assumption) (aw (evObt (evObp (by first|with_reducible assumption|exact a11|exact a12) (evObt (evObp (by first|with_reducible assumption|exact a11|exact a12) (evObt (evObt (lZ (evObt (evObt (aE (by with_reducible assumption) (aE (by with_reducible assumption) (aw (evObt (evObt (evObt (aE (by with_reducible assumption) (aE (by with_reducible assumption) (aw (evObt (evObp (by first|with_reducible assumption|exact a11|exact a12) (evObt (evObp (by first|with_reducible assumption|exact a11|exact a12) (evObt (evRet (by unfold Fx fI fG;try rw[h0];rfl)))))))))))))))))))))))))))))))))))))))))))))))))))))
def aam:aB:=bF [.agg ak,tI,tI,tI] (fun
 |[.agg [.str s0,.sl n1 f1,.sl n3 f3,.sl n5 f5,.int _ x7,.int _ x8],.int _ x9,.int _ x10,.int _ x11]=>eM n1 f1 n3 f3 n5 f5 x11
 |_=>False) fun
 |[.agg [.str s0,.sl n1 f1,.sl n3 f3,.sl n5 f5,.int _ x7,.int _ x8],.int _ x9,.int _ x10,.int _ x11]=>Fx s0 n1 f1 n3 f3 n5 f5 x7 x8 x9 x10 x11
 |_=>.any
theorem abw:(vP aam).Ok Tryz.prog 261:=bV Ki Tryz.func261 (by kernel_rfl) fun ds hp=>cQ (Vk ..) (adL _ _ _ _ _ _ _ _ _ _ _ _ hp)
def B1:bj:=(261,.con aam)::yaZ
theorem NO:aW Tryz.prog eqs its B1:=.con abw (Ki)
inductive lX where
 |L0 (ia0:Int) (ba1:Bool) (ia2 ia3:Int)
 |L1 (ib0 ib1:Int) (bb2:Bool) (ib3 ib4:Int)
def ED:lX->bz×List O×Option Ex
 |.L0 ia0 ba1 ia2 ia3=>([(11,vi ia0),(10,V.pl 0 0),(9,V.bool ba1),(8,V.sl (aS n3 (aa ae f3) x11 x12 x13).length (aa ae (gw (aS n3 (aa ae f3) x11 x12 x13)))),(7,V.sl (aS n1 (aa ae f1) x9 x10 x13).length (aa ae (gw (aS n1 (aa ae f1) x9 x10 x13)))),(29,V.sl (aS n3 (aa ae f3) x11 x12 x13).length (aa ae (gw (aS n3 (aa ae f3) x11 x12 x13)))),(21,V.sl (aS n1 (aa ae f1) x9 x10 x13).length (aa ae (gw (aS n1 (aa ae f1) x9 x10 x13)))),(28,vi x13),(27,vi x12),(26,V.pl 1 3),(25,vi x11),(24,V.pl 1 2),(23,V.sl n3 (aa ae f3)),(22,V.pl 2 2),(20,vi x13),(19,vi x10),(18,V.pl 1 1),(17,vi x9),(16,V.pl 1 0),(15,V.sl n1 (aa ae f1)),(14,V.pl 2 1),(6,V.pl 3 0),(4,V.pl 1 0),(3,V.pl 2 0),(0,V.agg [V.str s0,V.sl n1 (aa ae f1),V.sl n3 (aa ae f3),V.sl n5 (aa [Ty.sl ae] f5),vi x7,vi x8]),(1,V.agg [vi x9,vi x10,vi x11,vi x12]),(2,vi x13)],[O.cells [vi ia2,vi ia3] 39,O.cells [vi x9,vi x10,vi x11,vi x12] 55,O.cells [V.str s0,V.sl n1 (aa ae f1),V.sl n3 (aa ae f3),V.sl n5 (aa [Ty.sl ae] f5),vi x7,vi x8] 126,O.cells [vi 0,vi 0] 39],none)
 |.L1 ib0 ib1 bb2 ib3 ib4=>([(12,vi ib0),(33,V.kb true),(32,vi (↑(aS n1 (aa ae f1) x9 x10 x13).length:Int)),(31,V.sl (aS n1 (aa ae f1) x9 x10 x13).length (aa ae (gw (aS n1 (aa ae f1) x9 x10 x13)))),(30,vi ib1),(11,vi ib1),(10,V.pl 0 0),(9,V.bool bb2),(8,V.sl (aS n3 (aa ae f3) x11 x12 x13).length (aa ae (gw (aS n3 (aa ae f3) x11 x12 x13)))),(7,V.sl (aS n1 (aa ae f1) x9 x10 x13).length (aa ae (gw (aS n1 (aa ae f1) x9 x10 x13)))),(29,V.sl (aS n3 (aa ae f3) x11 x12 x13).length (aa ae (gw (aS n3 (aa ae f3) x11 x12 x13)))),(21,V.sl (aS n1 (aa ae f1) x9 x10 x13).length (aa ae (gw (aS n1 (aa ae f1) x9 x10 x13)))),(28,vi x13),(27,vi x12),(26,V.pl 1 3),(25,vi x11),(24,V.pl 1 2),(23,V.sl n3 (aa ae f3)),(22,V.pl 2 2),(20,vi x13),(19,vi x10),(18,V.pl 1 1),(17,vi x9),(16,V.pl 1 0),(15,V.sl n1 (aa ae f1)),(14,V.pl 2 1),(6,V.pl 3 0),(4,V.pl 1 0),(3,V.pl 2 0),(0,V.agg [V.str s0,V.sl n1 (aa ae f1),V.sl n3 (aa ae f3),V.sl n5 (aa [Ty.sl ae] f5),vi x7,vi x8]),(1,V.agg [vi x9,vi x10,vi x11,vi x12]),(2,vi x13)],[O.cells [vi ib3,vi ib4] 39,O.cells [vi x9,vi x10,vi x11,vi x12] 55,O.cells [V.str s0,V.sl n1 (aa ae f1),V.sl n3 (aa ae f3),V.sl n5 (aa [Ty.sl ae] f5),vi x7,vi x8] 126,O.cells [vi 0,vi 0] 39],none)
def ahz:lX->JJ
 |.L0 ia0 ba1 ia2 ia3=>(0,[])
 |.L1 ib0 ib1 bb2 ib3 ib4=>(1,[])
def MC:T (bO JJ):=aP JJ B1 u0 ac9 [V.agg [V.str s0,V.sl n1 (aa ae f1),V.sl n3 (aa ae f3),V.sl n5 (aa [Ty.sl ae] f5),vi x7,vi x8],V.agg [vi x9,vi x10,vi x11,vi x12],vi x13]
def uk (cx:List Cx):Lp JJ:=eR (ej (MC s0 n1 f1 n3 f3 n5 f5 x7 x8 x9 x10 x11 x12 x13) [])
def J6 (cx:List Cx):Lp JJ:=eR (ej (vX B1 u0 (0,[]) (uk s0 n1 f1 n3 f3 n5 f5 x7 x8 x9 x10 x11 x12 x13 []) (ED s0 n1 f1 n3 f3 n5 f5 x7 x8 x9 x10 x11 x12 x13 (.L0 (0:Int) false (0:Int) (0:Int)))) [true])
def agW:JJ->Lp JJ
 |(0,cx)=>uk s0 n1 f1 n3 f3 n5 f5 x7 x8 x9 x10 x11 x12 x13 cx
 |(1,cx)=>J6 s0 n1 f1 n3 f3 n5 f5 x7 x8 x9 x10 x11 x12 x13 cx
 |(_,cx)=>uk s0 n1 f1 n3 f3 n5 f5 x7 x8 x9 x10 x11 x12 x13 cx
def akv:LD JJ lX:=⟨ahz,agW s0 n1 f1 n3 f3 n5 f5 x7 x8 x9 x10 x11 x12 x13,ED s0 n1 f1 n3 f3 n5 f5 x7 x8 x9 x10 x11 x12 x13⟩
def xW (x7 x9 x10 x11 x12 x13 ib0 ib1:Int):=fG n1 (aa ae f1) n3 (aa ae f3) (aa [Ty.sl ae] f5) x7 (ar (gw (aS n1 (aa ae f1) x9 x10 x13) ib1.toNat)) (ar (gw (aS n3 (aa ae f3) x11 x12 x13) ib0.toNat)) x13
def xP (x9 x10 x11 x12 x13 ib0 ib1:Int):=fI n1 (aa ae f1) n3 (aa ae f3) (aa [Ty.sl ae] f5) (ar (gw (aS n1 (aa ae f1) x9 x10 x13) ib1.toNat)) (ar (gw (aS n3 (aa ae f3) x11 x12 x13) ib0.toNat)) x13
def uJ (s0:ByteArray) (n1:Nat) (f1:aN) (n3:Nat) (f3:aN) (n5:Nat) (f5:aN) (x7 x8 x9 x10 x11 x12 x13:Int):lX->RT lX
 |.L0 ia0 ba1 ia2 ia3=>.am (aS n1 (aa ae f1) x9 x10 x13).length (.br (decide (ia0<(↑(aS n1 (aa ae f1) x9 x10 x13).length:Int))) (.enter (iR 0 4 []) (lX.L1 (0) (ia0) (ba1) (ia2) (ia3)) []) (.ret (V.agg [vi ia2,vi ia3])))
 |.L1 ib0 ib1 bb2 ib3 ib4=>.am (aS n3 (aa ae f3) x11 x12 x13).length (.br (decide (ib0<(↑(aS n3 (aa ae f3) x11 x12 x13).length:Int))) (.ob (decide (0<=ib1/\ib1<(↑(aS n1 (aa ae f1) x9 x10 x13).length:Int))) (.ob (decide (0<=ib0/\ib0<(↑(aS n3 (aa ae f3) x11 x12 x13).length:Int))) (.obp (((1:Nat)<=n1/\n1<=(1000:Nat))/\(1:Nat)<=n3/\n3<=(1000:Nat)) (.obt (.iv (.ii (.br (bif !eB n1 (aa ae f1) n3 (aa ae f3) (ar (gw (aS n1 (aa ae f1) x9 x10 x13) ib1.toNat)) (ar (gw (aS n3 (aa ae f3) x11 x12 x13) ib0.toNat)) x13 then bif decide (1<ib1) then true else decide (1<ib0) else false) (.next (iR 0 4 []) (lX.L1 (wI (ib0+1)) (ib1) (bb2) (ib3) (ib4)) []) (.ob (decide (0<=ib1/\ib1<(↑(aS n1 (aa ae f1) x9 x10 x13).length:Int))) (.ob (decide (0<=ib0/\ib0<(↑(aS n3 (aa ae f3) x11 x12 x13).length:Int))) (.obp (((2:Nat)<=n1/\n1<=(1000:Nat))/\((2:Nat)<=n3/\n3<=(1000:Nat))/\n1<=n5/\(∀ (i:Nat),i<n5->n3<=au (ap (f5 i)))/\(∀ (i:Nat),i+(1:Nat)<n1->wI (wI (ar (f1 (i+(1:Nat)))-ar (f1 i))*x13)≠(0:Int))/\∀ (i:Nat),i+(1:Nat)<n3->wI (wI (ar (f3 (i+(1:Nat)))-ar (f3 i))*x13)≠(0:Int)) (.obt (.br (bb2) (.next (iR 0 4 []) (lX.L1 (wI (ib0+1)) (ib1) (false) (min (xP n1 f1 n3 f3 f5 x9 x10 x11 x12 x13 ib0 ib1) (xP n1 f1 n3 f3 f5 x9 x10 x11 x12 x13 ib0 ib1)) (max (xW n1 f1 n3 f3 f5 x7 x9 x10 x11 x12 x13 ib0 ib1) (xW n1 f1 n3 f3 f5 x7 x9 x10 x11 x12 x13 ib0 ib1))) []) (.next (iR 0 4 []) (lX.L1 (wI (ib0+1)) (ib1) (bb2) (min ib3 (xP n1 f1 n3 f3 f5 x9 x10 x11 x12 x13 ib0 ib1)) (max ib4 (xW n1 f1 n3 f3 f5 x7 x9 x10 x11 x12 x13 ib0 ib1))) []))))))))))))) (.next (iR 0 4 []) (lX.L0 (wI (ib1+1)) (bb2) (ib3) (ib4)) []))
def aaS:RT lX:=dm (s0,f1,f3,n5,f5,x7,x8,x9,x10,x11,x12,x13) (.obp (n1<=(1000:Nat)) (.obt (.obp (n3<=(1000:Nat)) (.obt (.enter [some (some 3),some (some 1),some (some 0),some (some 2)] (lX.L0 (0) (true) (0) (0)) [])))))
theorem Vo:dD B1 u0 (akv s0 n1 f1 n3 f3 n5 f5 x7 x8 x9 x10 x11 x12 x13) (MC s0 n1 f1 n3 f3 n5 f5 x7 x8 x9 x10 x11 x12 x13) (aaS s0 n1 f1 n3 f3 n5 f5 x7 x8 x9 x10 x11 x12 x13) (uJ s0 n1 f1 n3 f3 n5 f5 x7 x8 x9 x10 x11 x12 x13):=⟨⟨by kernel_rfl,by kernel_rfl⟩,fun s=>by cases s<;>exact⟨by kernel_rfl,by kernel_rfl⟩⟩
def BI (i k:Nat):Bool:=dm (f5,x7) (bif !eB n1 f1 n3 f3 (ar (gw (aS n1 f1 x9 x10 x13) i)) (ar (gw (aS n3 f3 x11 x12 x13) k)) x13 then bif decide (1<(i:Int)) then true else decide (1<(k:Int)) else false)
def dvX (i k:Nat):Int:=dm x7 (fI n1 f1 n3 f3 f5 (ar (gw (aS n1 f1 x9 x10 x13) i)) (ar (gw (aS n3 f3 x11 x12 x13) k)) x13)
def dvY (i k:Nat):Int:=fG n1 f1 n3 f3 f5 x7 (ar (gw (aS n1 f1 x9 x10 x13) i)) (ar (gw (aS n3 f3 x11 x12 x13) k)) x13
def RO (i k:Nat) (o:Bool×Int×Int):Bool×Int×Int:=bif BI n1 f1 n3 f3 f5 x7 x9 x10 x11 x12 x13 i k then o else bif o.1 then(false,min (dvX n1 f1 n3 f3 f5 x7 x9 x10 x11 x12 x13 i k) (dvX n1 f1 n3 f3 f5 x7 x9 x10 x11 x12 x13 i k),max (dvY n1 f1 n3 f3 f5 x7 x9 x10 x11 x12 x13 i k) (dvY n1 f1 n3 f3 f5 x7 x9 x10 x11 x12 x13 i k)) else(o.1,min o.2.1 (dvX n1 f1 n3 f3 f5 x7 x9 x10 x11 x12 x13 i k),max o.2.2 (dvY n1 f1 n3 f3 f5 x7 x9 x10 x11 x12 x13 i k))
def IV (n1:Nat) (f1:aN) (n3:Nat) (f3 f5:aN) (x7 x9 x10 x11 x12 x13:Int) (i:Nat) (o:Bool×Int×Int):Nat->Bool×Int×Int
 |0=>o
 |k+1=>RO n1 f1 n3 f3 f5 x7 x9 x10 x11 x12 x13 i k (IV n1 f1 n3 f3 f5 x7 x9 x10 x11 x12 x13 i o k)
def Wq (n1:Nat) (f1:aN) (n3:Nat) (f3 f5:aN) (x7 x9 x10 x11 x12 x13:Int):Nat->Bool×Int×Int
 |0=>(true,0,0)
 |i+1=>IV n1 f1 n3 f3 f5 x7 x9 x10 x11 x12 x13 i (Wq n1 f1 n3 f3 f5 x7 x9 x10 x11 x12 x13 i) (aS n3 f3 x11 x12 x13).length
def gR:Int:=(Wq n1 f1 n3 f3 f5 x7 x9 x10 x11 x12 x13 (aS n1 f1 x9 x10 x13).length).2.1
def gT:Int:=(Wq n1 f1 n3 f3 f5 x7 x9 x10 x11 x12 x13 (aS n1 f1 x9 x10 x13).length).2.2
section
variable (s0:ByteArray) (n1:Nat) (f1:aN) (n3:Nat) (f3:aN) (n5:Nat) (f5:aN) (x7:Int) (x8:Int) (x9:Int) (x10:Int) (x11:Int) (x12:Int) (x13:Int) (hp:eM n1 (aa ae f1) n3 (aa ae f3) n5 (aa [Ty.sl ae] f5) x13)
include hp
theorem R4 (i:Nat) (hi:i<(aS n1 (aa ae f1) x9 x10 x13).length) (o:Bool×Int×Int) (nx:Ev (uJ s0 n1 f1 n3 f3 n5 f5 x7 x8 x9 x10 x11 x12 x13) (.L0 (wI ((i:Int)+1)) (IV n1 (aa ae f1) n3 (aa ae f3) (aa [Ty.sl ae] f5) x7 x9 x10 x11 x12 x13 i o (aS n3 (aa ae f3) x11 x12 x13).length).1 (IV n1 (aa ae f1) n3 (aa ae f3) (aa [Ty.sl ae] f5) x7 x9 x10 x11 x12 x13 i o (aS n3 (aa ae f3) x11 x12 x13).length).2.1 (IV n1 (aa ae f1) n3 (aa ae f3) (aa [Ty.sl ae] f5) x7 x9 x10 x11 x12 x13 i o (aS n3 (aa ae f3) x11 x12 x13).length).2.2) (.agg [vi (gR n1 (aa ae f1) n3 (aa ae f3) (aa [Ty.sl ae] f5) x7 x9 x10 x11 x12 x13),vi (gT n1 (aa ae f1) n3 (aa ae f3) (aa [Ty.sl ae] f5) x7 x9 x10 x11 x12 x13)])) :
 ∀ k,k<=(aS n3 (aa ae f3) x11 x12 x13).length->Ev (uJ s0 n1 f1 n3 f3 n5 f5 x7 x8 x9 x10 x11 x12 x13) (.L1 (k:Int) (i:Int) (IV n1 (aa ae f1) n3 (aa ae f3) (aa [Ty.sl ae] f5) x7 x9 x10 x11 x12 x13 i o k).1 (IV n1 (aa ae f1) n3 (aa ae f3) (aa [Ty.sl ae] f5) x7 x9 x10 x11 x12 x13 i o k).2.1 (IV n1 (aa ae f1) n3 (aa ae f3) (aa [Ty.sl ae] f5) x7 x9 x10 x11 x12 x13 i o k).2.2) (.agg [vi (gR n1 (aa ae f1) n3 (aa ae f3) (aa [Ty.sl ae] f5) x7 x9 x10 x11 x12 x13),vi (gT n1 (aa ae f1) n3 (aa ae f3) (aa [Ty.sl ae] f5) x7 x9 x10 x11 x12 x13)]):=by
 refine cO fun k hk ih=>Ev.of rfl (bg fun hn=>?_)
 by_cases hlt:k<(aS n3 (aa ae f3) x11 x12 x13).length
 ·have hw:wI ((k:Int)+1)=((k+1:Nat):Int):=by rw[wrapI (by omega) (by omega)];omega
  have ih:=ih hlt
  rw [← hw]at ih
  have e:IV n1 (aa ae f1) n3 (aa ae f3) (aa [Ty.sl ae] f5) x7 x9 x10 x11 x12 x13 i o (k+1)=RO n1 (aa ae f1) n3 (aa ae f3) (aa [Ty.sl ae] f5) x7 x9 x10 x11 x12 x13 i k (IV n1 (aa ae f1) n3 (aa ae f3) (aa [Ty.sl ae] f5) x7 x9 x10 x11 x12 x13 i o k):=rfl
  rw [e]at ih
  have di:=dqt (p:=(0:Int)<=(i:Int)/\(i:Int)<((aS n1 (aa ae f1) x9 x10 x13).length:Int)) (by omega)
  have dk:=dqt (p:=(0:Int)<=(k:Int)/\(k:Int)<((aS n3 (aa ae f3) x11 x12 x13).length:Int)) (by omega)
  refine eG (dqt (by omega)) (aE di (aE dk (evObp (alf hp (dX (aa ae f1) 0 0 hp.1) (dX (aa ae f3) 0 0 hp.2.1)) (evObt (evObi (evObi (evObi (evObi (evObi (evObi (evBr (fun a=>aK ?_) (fun a=>aE di (aE dk (evObp hp (evObt (evBr (fun c=>aK ?_) (fun c=>aK ?_)))))))))))))))))
  ·have a:BI n1 (aa ae f1) n3 (aa ae f3) (aa [Ty.sl ae] f5) x7 x9 x10 x11 x12 x13 i k=true:=a
   unfold RO at ih
   rw [a]at ih
   exact ih
  ·have a:BI n1 (aa ae f1) n3 (aa ae f3) (aa [Ty.sl ae] f5) x7 x9 x10 x11 x12 x13 i k=false:=a
   unfold RO at ih
   rw [a,c]at ih
   exact ih
  ·have a:BI n1 (aa ae f1) n3 (aa ae f3) (aa [Ty.sl ae] f5) x7 x9 x10 x11 x12 x13 i k=false:=a
   unfold RO at ih
   rw [a,c]at ih
   rw [c]
   exact ih
 ·have e:k=(aS n3 (aa ae f3) x11 x12 x13).length:=by omega
  refine ed (gx (by omega)) ?_
  rw [e]
  exact aK nx
theorem Xd:∀ i,i<=(aS n1 (aa ae f1) x9 x10 x13).length->Ev (uJ s0 n1 f1 n3 f3 n5 f5 x7 x8 x9 x10 x11 x12 x13) (.L0 (i:Int) (Wq n1 (aa ae f1) n3 (aa ae f3) (aa [Ty.sl ae] f5) x7 x9 x10 x11 x12 x13 i).1 (Wq n1 (aa ae f1) n3 (aa ae f3) (aa [Ty.sl ae] f5) x7 x9 x10 x11 x12 x13 i).2.1 (Wq n1 (aa ae f1) n3 (aa ae f3) (aa [Ty.sl ae] f5) x7 x9 x10 x11 x12 x13 i).2.2) (.agg [vi (gR n1 (aa ae f1) n3 (aa ae f3) (aa [Ty.sl ae] f5) x7 x9 x10 x11 x12 x13),vi (gT n1 (aa ae f1) n3 (aa ae f3) (aa [Ty.sl ae] f5) x7 x9 x10 x11 x12 x13)]):=by
 refine cO fun i hi ih=>Ev.of rfl (bg fun hn=>?_)
 by_cases hlt:i<(aS n1 (aa ae f1) x9 x10 x13).length
 ·have hw:wI ((i:Int)+1)=((i+1:Nat):Int):=by rw[wrapI (by omega) (by omega)];omega
  have ih:=ih hlt
  rw [← hw]at ih
  exact eG (dqt (by omega)) (aF (R4 s0 n1 f1 n3 f3 n5 f5 x7 x8 x9 x10 x11 x12 x13 hp i hlt (Wq n1 (aa ae f1) n3 (aa ae f3) (aa [Ty.sl ae] f5) x7 x9 x10 x11 x12 x13 i) ih 0 (Nat.zero_le _)))
 ·have e:i=(aS n1 (aa ae f1) x9 x10 x13).length:=by omega
  refine ed (gx (by omega)) ?_
  rw [e]
  exact evRet rfl
end
theorem abB (hp:eM n1 (aa ae f1) n3 (aa ae f3) n5 (aa [.sl ae] f5) x13):aR (Ev (uJ s0 n1 f1 n3 f3 n5 f5 x7 x8 x9 x10 x11 x12 x13)) (aaS s0 n1 f1 n3 f3 n5 f5 x7 x8 x9 x10 x11 x12 x13) (.agg [vi (gR n1 (aa ae f1) n3 (aa ae f3) (aa [.sl ae] f5) x7 x9 x10 x11 x12 x13),vi (gT n1 (aa ae f1) n3 (aa ae f3) (aa [.sl ae] f5) x7 x9 x10 x11 x12 x13)]):=by
 have ha:=hp.1
 have hb:=hp.2.1
 exact evObp ha.2 (evObt (evObp hb.2 (evObt (aF (Xd s0 n1 f1 n3 f3 n5 f5 x7 x8 x9 x10 x11 x12 x13 hp 0 (Nat.zero_le _))))))
def ZI:aB:=bF [.agg ak,.agg je,tI] (fun
 |[.agg [.str s0,.sl n1 f1,.sl n3 f3,.sl n5 f5,.int _ x7,.int _ x8],.agg [.int _ x9,.int _ x10,.int _ x11,.int _ x12],.int _ x13]=>eM n1 f1 n3 f3 n5 f5 x13
 |_=>False) fun
 |[.agg [.str s0,.sl n1 f1,.sl n3 f3,.sl n5 f5,.int _ x7,.int _ x8],.agg [.int _ x9,.int _ x10,.int _ x11,.int _ x12],.int _ x13]=>.agg [vi (gR n1 f1 n3 f3 f5 x7 x9 x10 x11 x12 x13),vi (gT n1 f1 n3 f3 f5 x7 x9 x10 x11 x12 x13)]
 |_=>.any
theorem af6:(vP ZI).Ok Tryz.prog 231:=bV NO Tryz.func231 (by kernel_rfl) fun ds hp=>iS (Vo ..) (abB _ _ _ _ _ _ _ _ _ _ _ _ _ _ hp)
theorem aow {x:List V} {H:Int} (t:mU x) (u:nM (au (ap (ab x))) (aX (ap (ab x)))) (v:nM (au (ap (ab (ab x)))) (aX (ap (ab (ab x))))) (h:1<=H/\H<=30000) :
 eM (au (ap (ab x))) (aX (ap (ab x))) (au (ap (ab (ab x)))) (aX (ap (ab (ab x)))) (Fi x) (tR x) H:=by
 have key:∀ {n:Nat} {f:Nat->List V},nM n f->∀ i:Nat,i+1<n->wI (wI (ar (f (i+1))-ar (f i))*H)≠0:=by
  intro n f w i hi
  have hu:=w.u i hi
  have r0:=w.r i (by omega)
  have r1:=w.r (i+1) hi
  rw [wrapI (x:=ar (f (i+1))-ar (f i)) (by omega) (by omega)]
  have h1:(ar (f (i+1))-ar (f i))*H<=10000*H:=Int.mul_le_mul_of_nonneg_right (by omega) (by omega)
  have h2:0<(ar (f (i+1))-ar (f i))*H:=Int.mul_pos (by omega) (by omega)
  rw [wrapI (by omega) (by omega)]
  omega
 refine ⟨⟨t.u.1,by have:=t.u.2;omega⟩,⟨t.v.1,by have:=t.v.2;omega⟩,by rw[t.n];exact Nat.le_refl _,fun i hi=>?_,key u,key v⟩
 have:=t.row i hi
 show _<=au (ap (tR x i))
 omega
theorem afr {n0:Nat} {f0:Nat->List V} {n2:Nat} {f2:Nat->List V} {x4:Int} (h:bA n0 f0 n2 f2 x4=0) :
 (0<=x4/\x4<(n2:Int))/\(0<=aQ (f2 x4.toNat)/\aQ (f2 x4.toNat)<(n0:Int))/\gf (aa ak (aa ak f0)) (aQ (f2 x4.toNat)).toNat=0:=by
 unfold bA at h
 have e:cg n0 (aa ak f0) n2 (aa ah f2)=0:=by
  by_cases e:cg n0 (aa ak f0) n2 (aa ah f2)=0
  ·exact e
  ·have:(cg n0 (aa ak f0) n2 (aa ah f2)==0)=false:=by simpa using e
   rw [this]at h
   exact h
 have v:zr n0 (aa ak f0) n2 (aa ah f2):=uG e
 rw [e]at h
 have hb:(!aA x4 0 (wI ((n2:Int)-1)))=false:=by
  cases hh:(!aA x4 0 (wI ((n2:Int)-1))) with
  |false=>rfl
  |true=>rw[hh]at h;cases h
 have l2:=v.l2
 have r:=of_decide_eq_true (inT (by omega) hb)
 have lm:=(PX (a:=x4.toNat) v.l0 (v.lm x4.toNat (by omega))).t
 have lm:0<=aQ (f2 x4.toNat)/\aQ (f2 x4.toNat)<(n0:Int):=lm
 exact ⟨r,lm,v.tb _ (by omega)⟩
end
end Go.Dx
