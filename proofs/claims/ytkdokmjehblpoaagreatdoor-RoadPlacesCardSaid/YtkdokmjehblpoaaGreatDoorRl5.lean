/- Part 5 of a proof. No conditions. -/
import Derived.Test.YtkdokmjehblpoaaGreatDoorRl4
import Derived.Laws.MathBits
import Derived.WalkKit
import Derived.WideMake
import Derived.Maps.RangeRun
set_option maxRecDepth 100000
set_option linter.unusedVariables false
set_option linter.unusedSimpArgs false
namespace Go.Dx
open Go.IntKind (i64 u64 u8)
open Go.Sx Go.Proofs
noncomputable section
def kz:aX:=(63,.con C63)::(69,.con C69)::lX
theorem ul:aW Tryz.prog eqs its kz:=.con vT (.con wG (yf))
inductive S70 where
 | L0 (ia0:Int)
 | L1 (ib0 ib1:Int)
 | L2 (ic0 ic1 ic2:Int)
def Ch (n0:Nat) (f0:FnV) (n2:Nat) (f2:FnV) (n4:Nat) (f4:FnV) (n6:Nat) (f6:FnV) (x8:Int):S70->Env × List O × Option Ex
 | .L0 ia0=>([(6,vi ia0),(17,V.kb false),(16,V.bool (gE (sv (hdV (f0 x8.toNat))))),(15,V.str (sv (hdV (f0 x8.toNat)))),(14,V.pl 0 0),(5,V.pl 0 0),(13,V.agg [V.str (sv (hdV (f0 x8.toNat))),vi (jv1 (f0 x8.toNat)),V.sl (ap (hdV (tlV (tlV (f0 x8.toNat))))) fun i=>ak tp2 (atV (hdV (tlV (tlV (f0 x8.toNat)))) i),vi (jv3 (f0 x8.toNat))]),(12,V.pd [V.str (sv (hdV (f0 x8.toNat))),vi (jv1 (f0 x8.toNat)),V.sl (ap (hdV (tlV (tlV (f0 x8.toNat))))) fun i=>ak tp2 (atV (hdV (tlV (tlV (f0 x8.toNat)))) i),vi (jv3 (f0 x8.toNat))]),(11,vi x8),(10,V.sl n0 (elV tyR f0)),(9,V.pl 1 0),(4,vi 0),(2,V.pl 1 0),(0,scV n0 f0 n2 f2 n4 f4 n6 f6),(1,vi x8)],[O.cells [V.str (sv (hdV (f0 x8.toNat))),vi (jv1 (f0 x8.toNat)),V.sl (ap (hdV (tlV (tlV (f0 x8.toNat))))) fun i=>ak tp2 (atV (hdV (tlV (tlV (f0 x8.toNat)))) i),vi (jv3 (f0 x8.toNat))] 54,O.cells [V.sl n0 (elV tyR f0),V.sl n2 (elV tyT f2),V.sl n4 (elV tyF f4),V.sl n6 (elV tyC f6)] 27],none)
 | .L1 ib0 ib1=>([(7,vi ib0),(43,V.kb false),(42,vi (↑(ap (hdV (tlV (tlV (f0 x8.toNat))))):Int)),(41,V.sl (ap (hdV (tlV (tlV (f0 x8.toNat))))) fun i=>ak tp2 (atV (hdV (tlV (tlV (f0 x8.toNat)))) i)),(40,V.pl 0 2),(39,V.kb false),(38,vi (↑(ap (hdV (tlV (tlV (f0 x8.toNat))))):Int)),(37,V.sl (ap (hdV (tlV (tlV (f0 x8.toNat))))) fun i=>ak tp2 (atV (hdV (tlV (tlV (f0 x8.toNat)))) i)),(36,V.pl 0 2),(35,V.kb false),(34,V.bool (bR (jv1 (f0 x8.toNat)) 0 3)),(33,vi (jv1 (f0 x8.toNat))),(32,V.pl 0 1),(20,V.kb false),(19,vi x8),(18,vi ib1),(6,vi ib1),(17,V.kb false),(16,V.bool (gE (sv (hdV (f0 x8.toNat))))),(15,V.str (sv (hdV (f0 x8.toNat)))),(14,V.pl 0 0),(5,V.pl 0 0),(13,V.agg [V.str (sv (hdV (f0 x8.toNat))),vi (jv1 (f0 x8.toNat)),V.sl (ap (hdV (tlV (tlV (f0 x8.toNat))))) fun i=>ak tp2 (atV (hdV (tlV (tlV (f0 x8.toNat)))) i),vi (jv3 (f0 x8.toNat))]),(12,V.pd [V.str (sv (hdV (f0 x8.toNat))),vi (jv1 (f0 x8.toNat)),V.sl (ap (hdV (tlV (tlV (f0 x8.toNat))))) fun i=>ak tp2 (atV (hdV (tlV (tlV (f0 x8.toNat)))) i),vi (jv3 (f0 x8.toNat))]),(11,vi x8),(10,V.sl n0 (elV tyR f0)),(9,V.pl 1 0),(4,vi 0),(2,V.pl 1 0),(0,scV n0 f0 n2 f2 n4 f4 n6 f6),(1,vi x8)],[O.cells [V.str (sv (hdV (f0 x8.toNat))),vi (jv1 (f0 x8.toNat)),V.sl (ap (hdV (tlV (tlV (f0 x8.toNat))))) fun i=>ak tp2 (atV (hdV (tlV (tlV (f0 x8.toNat)))) i),vi (jv3 (f0 x8.toNat))] 54,O.cells [V.sl n0 (elV tyR f0),V.sl n2 (elV tyT f2),V.sl n4 (elV tyF f4),V.sl n6 (elV tyC f6)] 27],none)
 | .L2 ic0 ic1 ic2=>([(8,vi ic0),(69,V.kb false),(68,V.bool (bR (jv3 (f0 x8.toNat)) 100 30000)),(67,vi (jv3 (f0 x8.toNat))),(66,V.pl 0 3),(48,V.kb false),(47,vi (↑(ap (hdV (tlV (tlV (f0 x8.toNat))))):Int)),(46,V.sl (ap (hdV (tlV (tlV (f0 x8.toNat))))) fun i=>ak tp2 (atV (hdV (tlV (tlV (f0 x8.toNat)))) i)),(45,V.pl 0 2),(44,vi ic1),(7,vi ic1),(43,V.kb false),(42,vi (↑(ap (hdV (tlV (tlV (f0 x8.toNat))))):Int)),(41,V.sl (ap (hdV (tlV (tlV (f0 x8.toNat))))) fun i=>ak tp2 (atV (hdV (tlV (tlV (f0 x8.toNat)))) i)),(40,V.pl 0 2),(39,V.kb false),(38,vi (↑(ap (hdV (tlV (tlV (f0 x8.toNat))))):Int)),(37,V.sl (ap (hdV (tlV (tlV (f0 x8.toNat))))) fun i=>ak tp2 (atV (hdV (tlV (tlV (f0 x8.toNat)))) i)),(36,V.pl 0 2),(35,V.kb false),(34,V.bool (bR (jv1 (f0 x8.toNat)) 0 3)),(33,vi (jv1 (f0 x8.toNat))),(32,V.pl 0 1),(20,V.kb false),(19,vi x8),(18,vi ic2),(6,vi ic2),(17,V.kb false),(16,V.bool (gE (sv (hdV (f0 x8.toNat))))),(15,V.str (sv (hdV (f0 x8.toNat)))),(14,V.pl 0 0),(5,V.pl 0 0),(13,V.agg [V.str (sv (hdV (f0 x8.toNat))),vi (jv1 (f0 x8.toNat)),V.sl (ap (hdV (tlV (tlV (f0 x8.toNat))))) fun i=>ak tp2 (atV (hdV (tlV (tlV (f0 x8.toNat)))) i),vi (jv3 (f0 x8.toNat))]),(12,V.pd [V.str (sv (hdV (f0 x8.toNat))),vi (jv1 (f0 x8.toNat)),V.sl (ap (hdV (tlV (tlV (f0 x8.toNat))))) fun i=>ak tp2 (atV (hdV (tlV (tlV (f0 x8.toNat)))) i),vi (jv3 (f0 x8.toNat))]),(11,vi x8),(10,V.sl n0 (elV tyR f0)),(9,V.pl 1 0),(4,vi 0),(2,V.pl 1 0),(0,scV n0 f0 n2 f2 n4 f4 n6 f6),(1,vi x8)],[O.cells [V.str (sv (hdV (f0 x8.toNat))),vi (jv1 (f0 x8.toNat)),V.sl (ap (hdV (tlV (tlV (f0 x8.toNat))))) fun i=>ak tp2 (atV (hdV (tlV (tlV (f0 x8.toNat)))) i),vi (jv3 (f0 x8.toNat))] 54,O.cells [V.sl n0 (elV tyR f0),V.sl n2 (elV tyT f2),V.sl n4 (elV tyF f4),V.sl n6 (elV tyC f6)] 27],none)
def PI:S70->JJ
 | .L0 ia0=>(0,[])
 | .L1 ib0 ib1=>(1,[])
 | .L2 ic0 ic1 ic2=>(2,[])
def KH (n0:Nat) (f0:FnV) (n2:Nat) (f2:FnV) (n4:Nat) (f4:FnV) (n6:Nat) (f6:FnV) (x8:Int):T (bF JJ):=aZ JJ kz u0 s70 [scV n0 f0 n2 f2 n4 f4 n6 f6,vi x8]
def yb (n0:Nat) (f0:FnV) (n2:Nat) (f2:FnV) (n4:Nat) (f4:FnV) (n6:Nat) (f6:FnV) (x8:Int) (cx:List Cx):Lp JJ:=lpT (atT (KH n0 f0 n2 f2 n4 f4 n6 f6 x8) [false])
def DQ (n0:Nat) (f0:FnV) (n2:Nat) (f2:FnV) (n4:Nat) (f4:FnV) (n6:Nat) (f6:FnV) (x8:Int) (cx:List Cx):Lp JJ:=lpT (atT (rdP kz u0 (0,[]) (yb n0 f0 n2 f2 n4 f4 n6 f6 x8 []) (Ch n0 f0 n2 f2 n4 f4 n6 f6 x8 (.L0 (0:Int)))) [false,false,false,false])
def Im (n0:Nat) (f0:FnV) (n2:Nat) (f2:FnV) (n4:Nat) (f4:FnV) (n6:Nat) (f6:FnV) (x8:Int) (cx:List Cx):Lp JJ:=lpT (atT (rdP kz u0 (1,[]) (DQ n0 f0 n2 f2 n4 f4 n6 f6 x8 []) (Ch n0 f0 n2 f2 n4 f4 n6 f6 x8 (.L1 (0:Int) (0:Int)))) [false,false])
def Pr (n0:Nat) (f0:FnV) (n2:Nat) (f2:FnV) (n4:Nat) (f4:FnV) (n6:Nat) (f6:FnV) (x8:Int):JJ->Lp JJ
 | (0,cx)=>yb n0 f0 n2 f2 n4 f4 n6 f6 x8 cx
 | (1,cx)=>DQ n0 f0 n2 f2 n4 f4 n6 f6 x8 cx
 | (2,cx)=>Im n0 f0 n2 f2 n4 f4 n6 f6 x8 cx
 | (_,cx)=>yb n0 f0 n2 f2 n4 f4 n6 f6 x8 cx
def D70 (n0:Nat) (f0:FnV) (n2:Nat) (f2:FnV) (n4:Nat) (f4:FnV) (n6:Nat) (f6:FnV) (x8:Int):LD JJ S70:=⟨PI,Pr n0 f0 n2 f2 n4 f4 n6 f6 x8,Ch n0 f0 n2 f2 n4 f4 n6 f6 x8⟩
def B3 (n0:Nat) (f0:FnV) (n2:Nat) (f2:FnV) (n4:Nat) (f4:FnV) (n6:Nat) (f6:FnV) (x8:Int):S70->RT S70
 | .L0 ia0=>.br (decide (ia0 < x8)) (.ob (decide (0<=ia0/\ia0 < (↑n0:Int))) (.br ((sv (hdV (f0 ia0.toNat))).toList == (sv (hdV (f0 x8.toNat))).toList) (.ret (vi 5)) (.next [some (some 0),some (some 1)] (S70.L0 (i64.wrap (ia0+1))) []))) (.obc (.obt (.br (!bR (jv1 (f0 x8.toNat)) 0 3) (.ret (vi 2)) (.asm (true=true->ap (hdV (tlV (tlV (f0 x8.toNat))))<=9223372036854775807) (.br (decide ((↑(ap (hdV (tlV (tlV (f0 x8.toNat))))):Int) < 2)) (.ret (vi 4)) (.asm (true=true->ap (hdV (tlV (tlV (f0 x8.toNat))))<=9223372036854775807) (.br (decide (8 < (↑(ap (hdV (tlV (tlV (f0 x8.toNat))))):Int))) (.ret (vi 3)) (.enter [some (some 0),some (some 1)] (S70.L1 (0) (ia0)) []))))))))
 | .L1 ib0 ib1=>.asm (true=true->ap (hdV (tlV (tlV (f0 x8.toNat))))<=9223372036854775807) (.br (decide (ib0 < (↑(ap (hdV (tlV (tlV (f0 x8.toNat))))):Int))) (.ob (decide (0<=ib0/\ib0 < (↑(ap (hdV (tlV (tlV (f0 x8.toNat))))):Int))) (.obt (.ob (decide (0<=ib0/\ib0 < (↑(ap (hdV (tlV (tlV (f0 x8.toNat))))):Int))) (.obt (.obc (.obt (.br (!F51 2 (elV tp1 (cq [vi (jv0 (atV (hdV (tlV (tlV (f0 x8.toNat)))) ib0.toNat)),vi (jv1 (atV (hdV (tlV (tlV (f0 x8.toNat)))) ib0.toNat))] 0 1))) (.ret (vi 7)) (.next [some (some 0),some (some 1)] (S70.L1 (i64.wrap (ib0+1)) (ib1)) [])))))))) (.obc (.obt (.br (!bR (jv3 (f0 x8.toNat)) 100 30000) (.ret (vi 7)) (.enter [some (some 0),some (some 1)] (S70.L2 (1) (ib0) (ib1)) [])))))
 | .L2 ic0 ic1 ic2=>.asm (true=true->ap (hdV (tlV (tlV (f0 x8.toNat))))<=9223372036854775807) (.br (decide (ic0 < (↑(ap (hdV (tlV (tlV (f0 x8.toNat))))):Int))) (.ob (decide (0<=ic0/\ic0 < (↑(ap (hdV (tlV (tlV (f0 x8.toNat))))):Int))) (.ob (decide (0<=i64.wrap (ic0 - 1)/\i64.wrap (ic0 - 1) < (↑(ap (hdV (tlV (tlV (f0 x8.toNat))))):Int))) (.br (jv0 (atV (hdV (tlV (tlV (f0 x8.toNat)))) ic0.toNat) == jv0 (atV (hdV (tlV (tlV (f0 x8.toNat)))) (i64.wrap (ic0 - 1)).toNat) && (jv1 (atV (hdV (tlV (tlV (f0 x8.toNat)))) ic0.toNat) == jv1 (atV (hdV (tlV (tlV (f0 x8.toNat)))) (i64.wrap (ic0 - 1)).toNat) && true)) (.ret (vi 2)) (.next [some (some 0),some (some 1)] (S70.L2 (i64.wrap (ic0+1)) (ic1) (ic2)) [])))) (.obi (.obi (.asm ((jv1 (f0 x8.toNat) == 3)=true->ap (hdV (tlV (tlV (f0 x8.toNat))))<=9223372036854775807) (.obi (.obi (.br (bif jv1 (f0 x8.toNat) == 3 then decide (2 < (↑(ap (hdV (tlV (tlV (f0 x8.toNat))))):Int)) else false) (.ret (vi 2)) (.ret (vi 0)))))))))
def m70 (n0:Nat) (f0:FnV) (n2:Nat) (f2:FnV) (n4:Nat) (f4:FnV) (n6:Nat) (f6:FnV) (x8:Int):RT S70:=.ob (decide (0<=x8/\x8 < (↑n0:Int))) (.obp ((sv (hdV (f0 x8.toNat))).size<=(9223372036854775807:Nat)) (.obt (.br (!gE (sv (hdV (f0 x8.toNat)))) (.ret (vi 6)) (.enter [some (some 1),some (some 0)] (S70.L0 (0)) []))))
theorem Mq (n0:Nat) (f0:FnV) (n2:Nat) (f2:FnV) (n4:Nat) (f4:FnV) (n6:Nat) (f6:FnV) (x8:Int):ep kz u0 (D70 n0 f0 n2 f2 n4 f4 n6 f6 x8) (KH n0 f0 n2 f2 n4 f4 n6 f6 x8) (m70 n0 f0 n2 f2 n4 f4 n6 f6 x8) (B3 n0 f0 n2 f2 n4 f4 n6 f6 x8):=⟨⟨by kernel_rfl,by kernel_rfl⟩,fun s=>by cases s <;> exact ⟨by kernel_rfl,by kernel_rfl⟩⟩
def iJ (x y:Int):Bool:=F51 2 (elV tp1 (cq [V.int .i64 x,V.int .i64 y] 0 ((1+1 - 0) / 2)))
def wu (k:Int) (n:Nat) (f:Nat->List V) (h:Int):Int:=bif !bR k 0 3 then 2 else bif decide ((n:Int) < 2) then 4 else bif decide (8 < (n:Int)) then 3 else bif exB n (fun i=>!iJ (jv0 (f i)) (jv1 (f i))) then 7 else bif !bR h 100 30000 then 7 else bif fD n f then 2 else eG k n
def F70 (n0:Nat) (f0:FnV) (x8:Int):Int:=bif !gE (sv (hdV (f0 x8.toNat))) then 6 else bif exB x8.toNat (fun k=>(sv (hdV (f0 k))).toList == (sv (hdV (f0 x8.toNat))).toList) then 5 else wu (jv1 (f0 x8.toNat)) (ap (hdV (tlV (tlV (f0 x8.toNat))))) (atV (hdV (tlV (tlV (f0 x8.toNat))))) (jv3 (f0 x8.toNat))
theorem M2 (n0:Nat) (f0:FnV) (n2:Nat) (f2:FnV) (n4:Nat) (f4:FnV) (n6:Nat) (f6:FnV) (k:Nat) (h8:(ap (hdV (tlV (tlV (f0 k)))))<=8) (h2:2<=(ap (hdV (tlV (tlV (f0 k)))))) (i1 i2:Int):∀ i:Nat,i<=(ap (hdV (tlV (tlV (f0 k)))))->1<=i->(∀ j,j < i->(decide (0 < j) && eqP (atV (hdV (tlV (tlV (f0 k))))) j (j - 1))=false)->Ev (B3 n0 f0 n2 f2 n4 f4 n6 f6 (k:Int)) (.L2 i i1 i2) (.int .i64 (bif fD (ap (hdV (tlV (tlV (f0 k))))) (atV (hdV (tlV (tlV (f0 k))))) then 2 else eG (jv1 (f0 k)) (ap (hdV (tlV (tlV (f0 k))))))):=by
 refine bJ fun i hi ih h1 hj=>Ev.of rfl ?_
 have w1:i64.wrap ((i:Int) - 1)=((i - 1:Nat):Int):=by rw [av (by omega) (by omega)]; omega
 have w2:i64.wrap ((i:Int)+1)=((i+1:Nat):Int):=by rw [av (by omega) (by omega)]; omega
 refine bH fun _=>aC (fun h=>?_) (fun h=>?_)
 ·have hlt:i < (ap (hdV (tlV (tlV (f0 k))))):=by have:(i:Int) < ((ap (hdV (tlV (tlV (f0 k))))):Int):=of_decide_eq_true h; omega
  refine ar (dqt (show 0<=(i:Int)/\(i:Int) < ((ap (hdV (tlV (tlV (f0 k))))):Int) by omega)) (ar (dqt (show 0<=i64.wrap ((i:Int) - 1)/\i64.wrap ((i:Int) - 1) < ((ap (hdV (tlV (tlV (f0 k))))):Int) by rw [w1]; omega)) (aC (fun hb=>?_) (fun hb=>?_)))
  ·have hb':eqP (atV (hdV (tlV (tlV (f0 k))))) i (i - 1)=true:=by
    rw [w1] at hb; simpa only [Int.toNat_natCast,eqP] using hb
   rw [show fD (ap (hdV (tlV (tlV (f0 k))))) (atV (hdV (tlV (tlV (f0 k)))))=true from bz i hlt (by rw [hb']; simp; omega),cond_true]
   exact evRet rfl
  ·have hb':eqP (atV (hdV (tlV (tlV (f0 k))))) i (i - 1)=false:=by
    rw [w1] at hb; simpa only [Int.toNat_natCast,eqP] using hb
   refine aL ?_
   rw [w2]
   refine ih hlt (by omega) (fun j h3=>?_)
   by_cases e:j=i
   ·subst e; rw [hb',Bool.and_false]
   ·exact hj j (by omega)
 ·have e:i=(ap (hdV (tlV (tlV (f0 k))))):=by have:¬ (i:Int) < ((ap (hdV (tlV (tlV (f0 k))))):Int):=of_decide_eq_false h; omega
  rw [show fD (ap (hdV (tlV (tlV (f0 k))))) (atV (hdV (tlV (tlV (f0 k)))))=false from bG fun j h=>hj j (by omega),cond_false]
  exact iI
theorem Mt (n0:Nat) (f0:FnV) (n2:Nat) (f2:FnV) (n4:Nat) (f4:FnV) (n6:Nat) (f6:FnV) (k:Nat) (h8:(ap (hdV (tlV (tlV (f0 k)))))<=8) (h2:2<=(ap (hdV (tlV (tlV (f0 k)))))) (i1:Int):∀ i:Nat,i<=(ap (hdV (tlV (tlV (f0 k)))))->(∀ j,j < i->(!iJ (jv0 ((atV (hdV (tlV (tlV (f0 k))))) j)) (jv1 ((atV (hdV (tlV (tlV (f0 k))))) j)))=false)->Ev (B3 n0 f0 n2 f2 n4 f4 n6 f6 (k:Int)) (.L1 i i1) (.int .i64 (bif exB (ap (hdV (tlV (tlV (f0 k))))) (fun i=>!iJ (jv0 ((atV (hdV (tlV (tlV (f0 k))))) i)) (jv1 ((atV (hdV (tlV (tlV (f0 k))))) i))) then 7 else bif !bR (jv3 (f0 k)) 100 30000 then 7 else bif fD (ap (hdV (tlV (tlV (f0 k))))) (atV (hdV (tlV (tlV (f0 k))))) then 2 else eG (jv1 (f0 k)) (ap (hdV (tlV (tlV (f0 k))))))):=by
 refine bJ fun i hi ih hj=>Ev.of rfl ?_
 have w2:i64.wrap ((i:Int)+1)=((i+1:Nat):Int):=by rw [av (by omega) (by omega)]; omega
 refine bH fun _=>aC (fun h=>?_) (fun h=>?_)
 ·have hlt:i < (ap (hdV (tlV (tlV (f0 k))))):=by have:(i:Int) < ((ap (hdV (tlV (tlV (f0 k))))):Int):=of_decide_eq_true h; omega
  refine ar (dqt (show 0<=(i:Int)/\(i:Int) < ((ap (hdV (tlV (tlV (f0 k))))):Int) by omega)) (evObt (ar (dqt (show 0<=(i:Int)/\(i:Int) < ((ap (hdV (tlV (tlV (f0 k))))):Int) by omega)) (evObt (evObc (evObt (aC (fun hb=>evRet ?_) (fun hb=>aL ?_)))))))
  ·rw [bz (p:=fun i=>!iJ (jv0 ((atV (hdV (tlV (tlV (f0 k))))) i)) (jv1 ((atV (hdV (tlV (tlV (f0 k))))) i))) i hlt hb]; rfl
  ·rw [w2]
   refine ih hlt (fun j h3=>?_)
   by_cases e:j=i
   ·subst e; exact hb
   ·exact hj j (by omega)
 ·have e:i=(ap (hdV (tlV (tlV (f0 k))))):=by have:¬ (i:Int) < ((ap (hdV (tlV (tlV (f0 k))))):Int):=of_decide_eq_false h; omega
  rw [show exB (ap (hdV (tlV (tlV (f0 k))))) (fun i=>!iJ (jv0 ((atV (hdV (tlV (tlV (f0 k))))) i)) (jv1 ((atV (hdV (tlV (tlV (f0 k))))) i)))=false from bG fun j h=>hj j (by omega),cond_false]
  refine evObc (evObt (aC (fun h=>evRet (by rw [show (!bR (jv3 (f0 k)) 100 30000)=true from h]; rfl)) (fun h=>?_)))
  rw [show (!bR (jv3 (f0 k)) 100 30000)=false from h,cond_false]
  refine aG (M2 n0 f0 n2 f2 n4 f4 n6 f6 k h8 h2 _ _ 1 (by omega) (by omega) (fun j h=>?_))
  have:j=0:=by omega
  subst this; rfl
theorem Iw (n0:Nat) (f0:FnV) (n2:Nat) (f2:FnV) (n4:Nat) (f4:FnV) (n6:Nat) (f6:FnV) (x8:Int) (hp:0<=x8/\x8 < n0/\n0<=9223372036854775807/\bc n0 f0):evR (Ev (B3 n0 f0 n2 f2 n4 f4 n6 f6 x8)) (m70 n0 f0 n2 f2 n4 f4 n6 f6 x8) (.int .i64 (F70 n0 f0 x8)):=by
 obtain ⟨h0,h1,h2,h3⟩:=hp
 obtain ⟨k,rfl⟩:∃ k:Nat,x8=(k:Int):=⟨x8.toNat,by omega⟩
 have hk:k < n0:=by omega
 refine ig hk (cD (h3 k hk) (evObt ?_))
 unfold F70
 simp only [Int.toNat_natCast]
 refine aC (fun h=>evRet (by rw [show (!gE (sv (hdV (f0 k))))=true from h]; rfl)) (fun h=>?_)
 rw [show (!gE (sv (hdV (f0 k))))=false from h,cond_false]
 refine aG (ru (n:=k) (by omega) (fun i=>(sv (hdV (f0 i))).toList == (sv (hdV (f0 k))).toList) (P:=fun i=>Ev (B3 n0 f0 n2 f2 n4 f4 n6 f6 (k:Int)) (.L0 i) _) (fun i hlt hj next=>Ev.of rfl (im hlt (ig (by omega) (aC (fun hb=>evRet ?_) (fun hb=>aL (next hb))))))
  (fun hj=>Ev.of rfl (eC ?_)))
 ·rw [bz i hlt hb]; rfl
 ·rw [bG hj,cond_false]
  unfold wu
  refine evObc (evObt (aC (fun h=>evRet (by rw [show (!bR (jv1 (f0 k)) 0 3)=true from h]; rfl)) (fun h=>?_)))
  rw [show (!bR (jv1 (f0 k)) 0 3)=false from h,cond_false]
  refine bt fun hn=>aC (fun h=>evRet (by rw [show decide (((ap (hdV (tlV (tlV (f0 k))))):Int) < 2)=true from h]; rfl)) (fun h2=>?_)
  rw [show decide (((ap (hdV (tlV (tlV (f0 k))))):Int) < 2)=false from h2,cond_false]
  refine bt fun hn=>aC (fun h=>evRet (by rw [show decide (8 < ((ap (hdV (tlV (tlV (f0 k))))):Int))=true from h]; rfl)) (fun h8=>?_)
  rw [show decide (8 < ((ap (hdV (tlV (tlV (f0 k))))):Int))=false from h8,cond_false]
  have h2:2<=(ap (hdV (tlV (tlV (f0 k))))):=by have:¬ (((ap (hdV (tlV (tlV (f0 k))))):Int) < 2):=of_decide_eq_false h2; omega
  have h8:(ap (hdV (tlV (tlV (f0 k)))))<=8:=by have:¬ (8 < ((ap (hdV (tlV (tlV (f0 k))))):Int)):=of_decide_eq_false h8; omega
  exact aG (Mt n0 f0 n2 f2 n4 f4 n6 f6 k h8 h2 _ 0 (by omega) (fun j h=>by omega))
theorem Qd (n0:Nat) (f0:FnV) (n2:Nat) (f2:FnV) (n4:Nat) (f4:FnV) (n6:Nat) (f6:FnV) (x8:Int) (hp:0<=x8/\x8 < n0/\n0<=9223372036854775807/\bc n0 (elV tyR f0)):evR (Ev (B3 n0 f0 n2 f2 n4 f4 n6 f6 x8)) (m70 n0 f0 n2 f2 n4 f4 n6 f6 x8) (.int .i64 (F70 n0 (elV tyR f0) x8)):=Iw n0 f0 n2 f2 n4 f4 n6 f6 x8 hp
def C70:aJ:=mkC [.agg [.sl tyR,.sl tyT,.sl tyF,.sl tyC],.int .i64] (fun
 | [.agg [.sl n0 f0,.sl n2 f2,.sl n4 f4,.sl n6 f6],.int _ x8]=>0<=x8/\x8 < n0/\n0<=9223372036854775807/\bc n0 f0
 | _=>False) fun
 | [.agg [.sl n0 f0,.sl n2 f2,.sl n4 f4,.sl n6 f6],.int _ x8]=>.int .i64 (F70 n0 f0 x8)
 | _=>.any
theorem wo:(vP C70).Ok Tryz.prog 70:=mkE ul Tryz.func70 (by kernel_rfl) fun ds hp=>rfs (Mq ..) (Qd _ _ _ _ _ _ _ _ _ hp)
inductive S62 where
 | L0 (ia0:Int)
def Kf (n0:Nat) (f0:FnV):S62->Env × List O × Option Ex
 | .L0 ia0=>([(11,vi ia0),(10,vi (↑n0:Int)),(9,V.sl n0 (elV tyR f0)),(5,vi 0),(4,vi 0),(0,V.sl n0 (elV tyR f0)),(1,V.fn 63 [] [])],[],none)
def Rb:S62->JJ
 | .L0 ia0=>(0,[])
def K4 (n0:Nat) (f0:FnV):T (bF JJ):=aZ JJ kz u0 s62 [V.sl n0 (elV tyR f0),V.fn 63 [] []]
def Ck (n0:Nat) (f0:FnV) (cx:List Cx):Lp JJ:=lpT (atT (K4 n0 f0) [])
def OR (n0:Nat) (f0:FnV):JJ->Lp JJ
 | (0,cx)=>Ck n0 f0 cx
 | (_,cx)=>Ck n0 f0 cx
def D62 (n0:Nat) (f0:FnV):LD JJ S62:=⟨Rb,OR n0 f0,Kf n0 f0⟩
def H6 (n0:Nat) (f0:FnV):S62->RT S62
 | .L0 ia0=>.br (decide (ia0 < (↑n0:Int))) (.ob (decide (0<=ia0/\ia0 < (↑n0:Int))) (.ob (decide (0<=ia0/\ia0<=(↑n0:Int))) (.obp ((sv (hdV (f0 ia0.toNat))).size<=(9223372036854775807:Nat)) (.obt (.br (F63 (ia0.toNat - 0) (fun i=>elV tyR f0 (0+i)) (sv (hdV (f0 ia0.toNat))) (jv1 (f0 ia0.toNat)) (ap (hdV (tlV (tlV (f0 ia0.toNat))))) (fun i=>ak tp2 (atV (hdV (tlV (tlV (f0 ia0.toNat)))) i)) (jv3 (f0 ia0.toNat)) != 0) (.ret (V.tup [vi ia0,vi (F63 (ia0.toNat - 0) (fun i=>elV tyR f0 (0+i)) (sv (hdV (f0 ia0.toNat))) (jv1 (f0 ia0.toNat)) (ap (hdV (tlV (tlV (f0 ia0.toNat))))) (fun i=>ak tp2 (atV (hdV (tlV (tlV (f0 ia0.toNat)))) i)) (jv3 (f0 ia0.toNat)))])) (.next [] (S62.L0 (i64.wrap (ia0+1))) [])))))) (.ret (V.tup [vi 0,vi 0]))
def m62 (n0:Nat) (f0:FnV):RT S62:=.asm (true=true->n0<=9223372036854775807) (.enter [] (S62.L0 (0)) [])
theorem OF (n0:Nat) (f0:FnV):ep kz u0 (D62 n0 f0) (K4 n0 f0) (m62 n0 f0) (H6 n0 f0):=⟨⟨by kernel_rfl,by kernel_rfl⟩,fun s=>by cases s <;> exact ⟨by kernel_rfl,by kernel_rfl⟩⟩
def c62 (n0:Nat) (f0:FnV) (ii:Nat):Int:=(F63 (ii - 0) (fun i=>elV tyR f0 (0+i)) (sv (hdV (f0 ii))) (jv1 (f0 ii)) (ap (hdV (tlV (tlV (f0 ii))))) (fun i=>ak tp2 (atV (hdV (tlV (tlV (f0 ii)))) i)) (jv3 (f0 ii)))
def tg (n0:Nat) (f0:FnV):Int:=eK n0 (c62 n0 f0)
def ky (n0:Nat) (f0:FnV):Int:=cL n0 (c62 n0 f0)
theorem Ie (n0:Nat) (f0:FnV) (hp:bc n0 f0):evR (Ev (H6 n0 f0)) (m62 n0 f0) (.tup [.int .i64 (tg n0 f0),.int .i64 (ky n0 f0)]):=bt fun hn=>aG (mL (Q:=fun i=>(sv (hdV (f0 i))).size<=9223372036854775807) (fun i x=>.obp ((sv (hdV (f0 i))).size<=9223372036854775807) (.obt x)) (fun i x r h hx=>cD h (evObt hx)) (fun _ _=>rfl) hn hp fun i=>rfl)
theorem Pm (n0:Nat) (f0:FnV) (hp:bc n0 (elV tyR f0)):evR (Ev (H6 n0 f0)) (m62 n0 f0) (.tup [.int .i64 (tg n0 (elV tyR f0)),.int .i64 (ky n0 (elV tyR f0))]):=Ie n0 f0 hp
def C62:aJ:=mkC [.sl tyR,.fn 63 [] []] (fun
 | [.sl n0 f0,.fn _ [] []]=>bc n0 f0
 | _=>False) fun
 | [.sl n0 f0,.fn _ [] []]=>.tup [.int .i64 (tg n0 f0),.int .i64 (ky n0 f0)]
 | _=>.any
theorem wq:(vP C62).Ok Tryz.prog 62:=mkE ul Tryz.func62 (by kernel_rfl) fun ds hp=>rfs (OF ..) (Pm _ _ hp)
inductive S68 where
 | L0 (ia0:Int)
def Mz (n0:Nat) (f0:FnV):S68->Env × List O × Option Ex
 | .L0 ia0=>([(11,vi ia0),(10,vi (↑n0:Int)),(9,V.sl n0 (elV tyC f0)),(5,vi 0),(4,vi 0),(0,V.sl n0 (elV tyC f0)),(1,V.fn 69 [] [])],[],none)
def Rd:S68->JJ
 | .L0 ia0=>(0,[])
def Mi (n0:Nat) (f0:FnV):T (bF JJ):=aZ JJ kz u0 s68 [V.sl n0 (elV tyC f0),V.fn 69 [] []]
def Ew (n0:Nat) (f0:FnV) (cx:List Cx):Lp JJ:=lpT (atT (Mi n0 f0) [])
def O5 (n0:Nat) (f0:FnV):JJ->Lp JJ
 | (0,cx)=>Ew n0 f0 cx
 | (_,cx)=>Ew n0 f0 cx
def D68 (n0:Nat) (f0:FnV):LD JJ S68:=⟨Rd,O5 n0 f0,Mz n0 f0⟩
def Ia (n0:Nat) (f0:FnV):S68->RT S68
 | .L0 ia0=>.br (decide (ia0 < (↑n0:Int))) (.ob (decide (0<=ia0/\ia0 < (↑n0:Int))) (.ob (decide (0<=ia0/\ia0<=(↑n0:Int))) (.obp ((sv (hdV (f0 ia0.toNat))).size<=(9223372036854775807:Nat)) (.obt (.br (ir (ia0.toNat - 0) (fun i=>elV tyC f0 (0+i)) (sv (hdV (f0 ia0.toNat))) (jv1 (f0 ia0.toNat)) (jv2 (f0 ia0.toNat)) (jv3 (f0 ia0.toNat)) (jv4 (f0 ia0.toNat)) (jv5 (f0 ia0.toNat)) != 0) (.ret (V.tup [vi ia0,vi (ir (ia0.toNat - 0) (fun i=>elV tyC f0 (0+i)) (sv (hdV (f0 ia0.toNat))) (jv1 (f0 ia0.toNat)) (jv2 (f0 ia0.toNat)) (jv3 (f0 ia0.toNat)) (jv4 (f0 ia0.toNat)) (jv5 (f0 ia0.toNat)))])) (.next [] (S68.L0 (i64.wrap (ia0+1))) [])))))) (.ret (V.tup [vi 0,vi 0]))
def m68 (n0:Nat) (f0:FnV):RT S68:=.asm (true=true->n0<=9223372036854775807) (.enter [] (S68.L0 (0)) [])
theorem MH (n0:Nat) (f0:FnV):ep kz u0 (D68 n0 f0) (Mi n0 f0) (m68 n0 f0) (Ia n0 f0):=⟨⟨by kernel_rfl,by kernel_rfl⟩,fun s=>by cases s <;> exact ⟨by kernel_rfl,by kernel_rfl⟩⟩
def c68 (n0:Nat) (f0:FnV) (ii:Nat):Int:=(ir (ii - 0) (fun i=>elV tyC f0 (0+i)) (sv (hdV (f0 ii))) (jv1 (f0 ii)) (jv2 (f0 ii)) (jv3 (f0 ii)) (jv4 (f0 ii)) (jv5 (f0 ii)))
def sI (n0:Nat) (f0:FnV):Int:=eK n0 (c68 n0 f0)
def kG (n0:Nat) (f0:FnV):Int:=cL n0 (c68 n0 f0)
theorem In (n0:Nat) (f0:FnV) (hp:bc n0 f0):evR (Ev (Ia n0 f0)) (m68 n0 f0) (.tup [.int .i64 (sI n0 f0),.int .i64 (kG n0 f0)]):=bt fun hn=>aG (mL (Q:=fun i=>(sv (hdV (f0 i))).size<=9223372036854775807) (fun i x=>.obp ((sv (hdV (f0 i))).size<=9223372036854775807) (.obt x)) (fun i x r h hx=>cD h (evObt hx)) (fun _ _=>rfl) hn hp fun i=>rfl)
theorem Rr (n0:Nat) (f0:FnV) (hp:bc n0 (elV tyC f0)):evR (Ev (Ia n0 f0)) (m68 n0 f0) (.tup [.int .i64 (sI n0 (elV tyC f0)),.int .i64 (kG n0 (elV tyC f0))]):=In n0 f0 hp
def C68:aJ:=mkC [.sl tyC,.fn 69 [] []] (fun
 | [.sl n0 f0,.fn _ [] []]=>bc n0 f0
 | _=>False) fun
 | [.sl n0 f0,.fn _ [] []]=>.tup [.int .i64 (sI n0 f0),.int .i64 (kG n0 f0)]
 | _=>.any
theorem wJ:(vP C68).Ok Tryz.prog 68:=mkE ul Tryz.func68 (by kernel_rfl) fun ds hp=>rfs (MH ..) (Rr _ _ hp)
end
noncomputable section
def pf:aX:=(70,.con C70)::(62,.con C62)::(68,.con C68)::kz
theorem yP:aW Tryz.prog eqs its pf:=.con wo (.con wq (.con wJ (ul)))
inductive S24 where
 | L0 (ia0:Int)
 | L1 (ib0 ib1:Int)
 | L2 (ic0 ic1 ic2:Int)
 | L3 (id0 id1 id2 id3:Int)
def zM (n0:Nat) (f0:FnV) (n2:Nat) (f2:FnV) (n4:Nat) (f4:FnV) (n6:Nat) (f6:FnV):S24->Env × List O × Option Ex
 | .L0 ia0=>([(5,vi ia0),(34,V.kb false),(29,V.bool (bif bif decide (8 < (↑n0:Int)) then true else decide (12 < (↑n2:Int)) then true else decide (8 < (↑n4:Int)))),(28,V.bool (bif bif decide (8 < (↑n0:Int)) then true else decide (12 < (↑n2:Int)) then true else decide (8 < (↑n4:Int)))),(23,V.bool (bif decide (8 < (↑n0:Int)) then true else decide (12 < (↑n2:Int)))),(22,V.bool (bif decide (8 < (↑n0:Int)) then true else decide (12 < (↑n2:Int)))),(17,V.bool (decide (8 < (↑n0:Int)))),(16,V.bool (decide (8 < (↑n0:Int)))),(15,vi (↑n0:Int)),(14,V.sl n0 (elV tyR f0)),(13,V.pl 0 0),(4,vi 0),(3,vi 0),(2,vi 0),(1,V.pl 0 0),(0,scV n0 f0 n2 f2 n4 f4 n6 f6)],[O.cells [V.sl n0 (elV tyR f0),V.sl n2 (elV tyT f2),V.sl n4 (elV tyF f4),V.sl n6 (elV tyC f6)] 27],none)
 | .L1 ib0 ib1=>([(7,vi ib0),(39,V.kb false),(38,vi (↑n0:Int)),(37,V.sl n0 (elV tyR f0)),(36,V.pl 0 0),(35,vi ib1),(5,vi ib1),(34,V.kb false),(29,V.bool (bif bif decide (8 < (↑n0:Int)) then true else decide (12 < (↑n2:Int)) then true else decide (8 < (↑n4:Int)))),(28,V.bool (bif bif decide (8 < (↑n0:Int)) then true else decide (12 < (↑n2:Int)) then true else decide (8 < (↑n4:Int)))),(23,V.bool (bif decide (8 < (↑n0:Int)) then true else decide (12 < (↑n2:Int)))),(22,V.bool (bif decide (8 < (↑n0:Int)) then true else decide (12 < (↑n2:Int)))),(17,V.bool (decide (8 < (↑n0:Int)))),(16,V.bool (decide (8 < (↑n0:Int)))),(15,vi (↑n0:Int)),(14,V.sl n0 (elV tyR f0)),(13,V.pl 0 0),(4,vi 0),(3,vi 0),(2,vi 0),(1,V.pl 0 0),(0,scV n0 f0 n2 f2 n4 f4 n6 f6)],[O.cells [V.sl n0 (elV tyR f0),V.sl n2 (elV tyT f2),V.sl n4 (elV tyF f4),V.sl n6 (elV tyC f6)] 27],none)
 | .L2 ic0 ic1 ic2=>([(9,vi ic0),(53,V.kb false),(52,vi (↑n2:Int)),(51,V.sl n2 (elV tyT f2)),(50,V.pl 0 1),(49,vi ic1),(7,vi ic1),(39,V.kb false),(38,vi (↑n0:Int)),(37,V.sl n0 (elV tyR f0)),(36,V.pl 0 0),(35,vi ic2),(5,vi ic2),(34,V.kb false),(29,V.bool (bif bif decide (8 < (↑n0:Int)) then true else decide (12 < (↑n2:Int)) then true else decide (8 < (↑n4:Int)))),(28,V.bool (bif bif decide (8 < (↑n0:Int)) then true else decide (12 < (↑n2:Int)) then true else decide (8 < (↑n4:Int)))),(23,V.bool (bif decide (8 < (↑n0:Int)) then true else decide (12 < (↑n2:Int)))),(22,V.bool (bif decide (8 < (↑n0:Int)) then true else decide (12 < (↑n2:Int)))),(17,V.bool (decide (8 < (↑n0:Int)))),(16,V.bool (decide (8 < (↑n0:Int)))),(15,vi (↑n0:Int)),(14,V.sl n0 (elV tyR f0)),(13,V.pl 0 0),(4,vi 0),(3,vi 0),(2,vi 0),(1,V.pl 0 0),(0,scV n0 f0 n2 f2 n4 f4 n6 f6)],[O.cells [V.sl n0 (elV tyR f0),V.sl n2 (elV tyT f2),V.sl n4 (elV tyF f4),V.sl n6 (elV tyC f6)] 27],none)
 | .L3 id0 id1 id2 id3=>([(11,vi id0),(96,V.kb false),(95,vi (↑n4:Int)),(94,V.sl n4 (elV tyF f4)),(93,V.pl 0 2),(92,vi id1),(9,vi id1),(53,V.kb false),(52,vi (↑n2:Int)),(51,V.sl n2 (elV tyT f2)),(50,V.pl 0 1),(49,vi id2),(7,vi id2),(39,V.kb false),(38,vi (↑n0:Int)),(37,V.sl n0 (elV tyR f0)),(36,V.pl 0 0),(35,vi id3),(5,vi id3),(34,V.kb false),(29,V.bool (bif bif decide (8 < (↑n0:Int)) then true else decide (12 < (↑n2:Int)) then true else decide (8 < (↑n4:Int)))),(28,V.bool (bif bif decide (8 < (↑n0:Int)) then true else decide (12 < (↑n2:Int)) then true else decide (8 < (↑n4:Int)))),(23,V.bool (bif decide (8 < (↑n0:Int)) then true else decide (12 < (↑n2:Int)))),(22,V.bool (bif decide (8 < (↑n0:Int)) then true else decide (12 < (↑n2:Int)))),(17,V.bool (decide (8 < (↑n0:Int)))),(16,V.bool (decide (8 < (↑n0:Int)))),(15,vi (↑n0:Int)),(14,V.sl n0 (elV tyR f0)),(13,V.pl 0 0),(4,vi 0),(3,vi 0),(2,vi 0),(1,V.pl 0 0),(0,scV n0 f0 n2 f2 n4 f4 n6 f6)],[O.cells [V.sl n0 (elV tyR f0),V.sl n2 (elV tyT f2),V.sl n4 (elV tyF f4),V.sl n6 (elV tyC f6)] 27],none)
def Qh:S24->JJ
 | .L0 ia0=>(0,[])
 | .L1 ib0 ib1=>(1,[])
 | .L2 ic0 ic1 ic2=>(2,[])
 | .L3 id0 id1 id2 id3=>(3,[])
def KE (n0:Nat) (f0:FnV) (n2:Nat) (f2:FnV) (n4:Nat) (f4:FnV) (n6:Nat) (f6:FnV):T (bF JJ):=aZ JJ pf u0 s24 [scV n0 f0 n2 f2 n4 f4 n6 f6]
def yS (n0:Nat) (f0:FnV) (n2:Nat) (f2:FnV) (n4:Nat) (f4:FnV) (n6:Nat) (f6:FnV) (cx:List Cx):Lp JJ:=lpT (atT (KE n0 f0 n2 f2 n4 f4 n6 f6) [false])
def D1 (n0:Nat) (f0:FnV) (n2:Nat) (f2:FnV) (n4:Nat) (f4:FnV) (n6:Nat) (f6:FnV) (cx:List Cx):Lp JJ:=lpT (atT (rdP pf u0 (0,[]) (yS n0 f0 n2 f2 n4 f4 n6 f6 []) (zM n0 f0 n2 f2 n4 f4 n6 f6 (.L0 (0:Int)))) [false])
def CT (n0:Nat) (f0:FnV) (n2:Nat) (f2:FnV) (n4:Nat) (f4:FnV) (n6:Nat) (f6:FnV) (cx:List Cx):Lp JJ:=lpT (atT (rdP pf u0 (1,[]) (D1 n0 f0 n2 f2 n4 f4 n6 f6 []) (zM n0 f0 n2 f2 n4 f4 n6 f6 (.L1 (0:Int) (0:Int)))) [false])
def Hh (n0:Nat) (f0:FnV) (n2:Nat) (f2:FnV) (n4:Nat) (f4:FnV) (n6:Nat) (f6:FnV) (cx:List Cx):Lp JJ:=lpT (atT (rdP pf u0 (2,[]) (CT n0 f0 n2 f2 n4 f4 n6 f6 []) (zM n0 f0 n2 f2 n4 f4 n6 f6 (.L2 (0:Int) (0:Int) (0:Int)))) [false])
def Qy (n0:Nat) (f0:FnV) (n2:Nat) (f2:FnV) (n4:Nat) (f4:FnV) (n6:Nat) (f6:FnV):JJ->Lp JJ
 | (0,cx)=>yS n0 f0 n2 f2 n4 f4 n6 f6 cx
 | (1,cx)=>D1 n0 f0 n2 f2 n4 f4 n6 f6 cx
 | (2,cx)=>CT n0 f0 n2 f2 n4 f4 n6 f6 cx
 | (3,cx)=>Hh n0 f0 n2 f2 n4 f4 n6 f6 cx
 | (_,cx)=>yS n0 f0 n2 f2 n4 f4 n6 f6 cx
def D24 (n0:Nat) (f0:FnV) (n2:Nat) (f2:FnV) (n4:Nat) (f4:FnV) (n6:Nat) (f6:FnV):LD JJ S24:=⟨Qh,Qy n0 f0 n2 f2 n4 f4 n6 f6,zM n0 f0 n2 f2 n4 f4 n6 f6⟩
def qA (n0:Nat) (f0:FnV) (n2:Nat) (f2:FnV) (n4:Nat) (f4:FnV) (n6:Nat) (f6:FnV):S24->RT S24
 | .L0 ia0=>.asm (true=true->n0<=9223372036854775807) (.br (decide (ia0 < (↑n0:Int))) (.obp ((0:Int)<=ia0/\ia0 < (↑n0:Int)/\n0<=(9223372036854775807:Nat)/\∀ (i:Nat),i < n0->(sv (hdV (f0 i))).size<=(9223372036854775807:Nat)) (.obt (.br (F70 n0 (elV tyR f0) ia0 != 0) (.ret (V.tup [vi 1,vi ia0,vi (F70 n0 (elV tyR f0) ia0)])) (.next [some (some 0)] (S24.L0 (i64.wrap (ia0+1))) [])))) (.enter [some (some 0)] (S24.L1 (0) (ia0)) []))
 | .L1 ib0 ib1=>.asm (true=true->n2<=9223372036854775807) (.br (decide (ib0 < (↑n2:Int))) (.ob (decide (0<=ib0/\ib0 < (↑n2:Int))) (.obc (.obt (.obi (.br (!!F51 2 (elV tp1 (cq [vi (jv0 (f2 ib0.toNat)),vi (jv1 (f2 ib0.toNat))] 0 1))) (.ob (!!F51 2 (elV tp1 (cq [vi (jv0 (f2 ib0.toNat)),vi (jv1 (f2 ib0.toNat))] 0 1))) (.obc (.obt (.obi (.obi (.obi (.obi (.obi (.obi (.obi (.obi (.obi (.obi (.obi (.br (bif bif bif !bR (jv2 (f2 ib0.toNat)) 1 20000 then true else decide (jv3 (f2 ib0.toNat) < 0) then true else decide (jv4 (f2 ib0.toNat)<=jv3 (f2 ib0.toNat)) then true else decide (1000 < jv4 (f2 ib0.toNat))) (.ret (V.tup [vi 2,vi ib0,vi 7])) (.next [some (some 0)] (S24.L1 (i64.wrap (ib0+1)) (ib1)) [])))))))))))))))) (.ret (V.tup [vi 2,vi ib0,vi 7]))))))) (.enter [some (some 0)] (S24.L2 (0) (ib0) (ib1)) []))
 | .L2 ic0 ic1 ic2=>.asm (true=true->n4<=9223372036854775807) (.br (decide (ic0 < (↑n4:Int))) (.ob (decide (0<=ic0/\ic0 < (↑n4:Int))) (.obc (.obt (.br ((F72 (jv0 (f4 ic0.toNat)) (jv1 (f4 ic0.toNat)) (jv2 (f4 ic0.toNat)) (jv3 (f4 ic0.toNat)) (ap (hdV (tlV (tlV (tlV (tlV (f4 ic0.toNat))))))) fun i=>ak tp4 (atV (hdV (tlV (tlV (tlV (tlV (f4 ic0.toNat)))))) i)) != 0) (.ret (V.tup [vi 3,vi ic0,vi (F72 (jv0 (f4 ic0.toNat)) (jv1 (f4 ic0.toNat)) (jv2 (f4 ic0.toNat)) (jv3 (f4 ic0.toNat)) (ap (hdV (tlV (tlV (tlV (tlV (f4 ic0.toNat))))))) fun i=>ak tp4 (atV (hdV (tlV (tlV (tlV (tlV (f4 ic0.toNat)))))) i))])) (.next [some (some 0)] (S24.L2 (i64.wrap (ic0+1)) (ic1) (ic2)) []))))) (.enter [some (some 0)] (S24.L3 (0) (ic0) (ic1) (ic2)) []))
 | .L3 id0 id1 id2 id3=>.asm (true=true->n6<=9223372036854775807) (.br (decide (id0 < (↑n6:Int))) (.obp ((0:Int)<=id0/\id0 < (↑n6:Int)/\n6<=(9223372036854775807:Nat)/\∀ (i:Nat),i < n6->(sv (hdV (f6 i))).size<=(9223372036854775807:Nat)) (.obt (.br (F73 n6 (elV tyC f6) id0 != 0) (.ret (V.tup [vi 4,vi id0,vi (F73 n6 (elV tyC f6) id0)])) (.next [some (some 0)] (S24.L3 (i64.wrap (id0+1)) (id1) (id2) (id3)) [])))) (.ret (V.tup [vi 0,vi 0,vi 0])))
def m24 (n0:Nat) (f0:FnV) (n2:Nat) (f2:FnV) (n4:Nat) (f4:FnV) (n6:Nat) (f6:FnV):RT S24:=.asm (true=true->n0<=9223372036854775807) (.obi (.obi (.asm ((!decide (8 < (↑n0:Int)))=true->n2<=9223372036854775807) (.obi (.obi (.obi (.obi (.asm ((!bif decide (8 < (↑n0:Int)) then true else decide (12 < (↑n2:Int)))=true->n4<=9223372036854775807) (.obi (.obi (.obi (.obi (.asm ((!bif bif decide (8 < (↑n0:Int)) then true else decide (12 < (↑n2:Int)) then true else decide (8 < (↑n4:Int)))=true->n6<=9223372036854775807) (.obi (.obi (.br (bif bif bif decide (8 < (↑n0:Int)) then true else decide (12 < (↑n2:Int)) then true else decide (8 < (↑n4:Int)) then true else decide (24 < (↑n6:Int))) (.ret (V.tup [vi 0,vi 0,vi 3])) (.enter [some (some 0)] (S24.L0 (0)) [])))))))))))))))))
theorem Nn (n0:Nat) (f0:FnV) (n2:Nat) (f2:FnV) (n4:Nat) (f4:FnV) (n6:Nat) (f6:FnV):ep pf u0 (D24 n0 f0 n2 f2 n4 f4 n6 f6) (KE n0 f0 n2 f2 n4 f4 n6 f6) (m24 n0 f0 n2 f2 n4 f4 n6 f6) (qA n0 f0 n2 f2 n4 f4 n6 f6):=⟨⟨by kernel_rfl,by kernel_rfl⟩,fun s=>by cases s <;> exact ⟨by kernel_rfl,by kernel_rfl⟩⟩
def tri (t:Int × Int × Int):V:=.tup [.int .i64 t.1,.int .i64 t.2.1,.int .i64 t.2.2]
def xd (x y a z w:Int):Int:=bif !!iJ x y then (bif (bif bif bif !bR a 1 20000 then true else decide (z < 0) then true else decide (w<=z) then true else decide (1000 < w)) then 7 else 0) else 7
def r24 (n:Nat) (c:Nat->Int) (k:Int) (z:Int × Int × Int):Int × Int × Int:=bif cL n c != 0 then (k,eK n c,cL n c) else z
def cR (n0:Nat) (f0:FnV) (i:Nat):Int:=F70 n0 (elV tyR f0) (i:Int)
def cT (f2:FnV) (i:Nat):Int:=xd (jv0 (f2 i)) (jv1 (f2 i)) (jv2 (f2 i)) (jv3 (f2 i)) (jv4 (f2 i))
def cF (f4:FnV) (i:Nat):Int:=F72 (jv0 (f4 i)) (jv1 (f4 i)) (jv2 (f4 i)) (jv3 (f4 i)) (ap (hdV (tlV (tlV (tlV (tlV (f4 i))))))) fun j=>ak tp4 (atV (hdV (tlV (tlV (tlV (tlV (f4 i)))))) j)
def cC (n6:Nat) (f6:FnV) (i:Nat):Int:=F73 n6 (elV tyC f6) (i:Int)
def z3 (n6:Nat) (f6:FnV):Int × Int × Int:=r24 n6 (cC n6 f6) 4 (0,0,0)
def z2 (n4:Nat) (f4:FnV) (n6:Nat) (f6:FnV):Int × Int × Int:=r24 n4 (cF f4) 3 (z3 n6 f6)
def z1 (n2:Nat) (f2:FnV) (n4:Nat) (f4:FnV) (n6:Nat) (f6:FnV):Int × Int × Int:=r24 n2 (cT f2) 2 (z2 n4 f4 n6 f6)
def BD (n0:Nat) (f0:FnV) (n2:Nat) (f2:FnV) (n4:Nat) (f4:FnV) (n6:Nat) (f6:FnV):Bool:=bif bif bif decide (8 < (n0:Int)) then true else decide (12 < (n2:Int)) then true else decide (8 < (n4:Int)) then true else decide (24 < (n6:Int))
def F24 (n0:Nat) (f0:FnV) (n2:Nat) (f2:FnV) (n4:Nat) (f4:FnV) (n6:Nat) (f6:FnV):Int × Int × Int:=bif BD n0 f0 n2 f2 n4 f4 n6 f6 then (0,0,3) else r24 n0 (cR n0 f0) 1 (z1 n2 f2 n4 f4 n6 f6)
def Ed (n0:Nat) (f0:FnV) (n2:Nat) (f2:FnV) (n4:Nat) (f4:FnV) (n6:Nat) (f6:FnV):Int:=(F24 n0 f0 n2 f2 n4 f4 n6 f6).1
def CN (n0:Nat) (f0:FnV) (n2:Nat) (f2:FnV) (n4:Nat) (f4:FnV) (n6:Nat) (f6:FnV):Int:=(F24 n0 f0 n2 f2 n4 f4 n6 f6).2.1
def bA (n0:Nat) (f0:FnV) (n2:Nat) (f2:FnV) (n4:Nat) (f4:FnV) (n6:Nat) (f6:FnV):Int:=(F24 n0 f0 n2 f2 n4 f4 n6 f6).2.2
theorem lC {n:Nat} {c:Nat->Int} {i:Nat} (k:Int) (z:Int × Int × Int) (hi:i < n) (hc:(c i != 0)=true) (h:∀ j,j < i->(c j != 0)=false):r24 n c k z=(k,(i:Int),c i):=by
 unfold r24
 obtain ⟨e1,e2⟩:=lk hi hc h
 rw [e1,e2,hc]; rfl
theorem pN {n:Nat} {c:Nat->Int} (k:Int) (z:Int × Int × Int) (h:∀ j,j < n->(c j != 0)=false):r24 n c k z=z:=by
 unfold r24
 obtain ⟨e1,e2⟩:=lm h
 rw [e1,e2]; rfl
theorem MU (n0:Nat) (f0:FnV) (n2:Nat) (f2:FnV) (n4:Nat) (f4:FnV) (n6:Nat) (f6:FnV) (hs:bc n6 f6) (i1 i2 i3:Int):Ev (qA n0 f0 n2 f2 n4 f4 n6 f6) (.L3 0 i1 i2 i3) (tri (z3 n6 f6)):=by
 by_cases hn:n6<=9223372036854775807
 ·refine ru (n:=n6) hn (fun i=>cC n6 f6 i != 0) (P:=fun i=>Ev (qA n0 f0 n2 f2 n4 f4 n6 f6) (.L3 i i1 i2 i3) _) (fun i hlt hj next=>Ev.of rfl (bH fun _=>im hlt (cD ⟨by omega,by omega,hn,hs⟩ (evObt (aC (fun hb=>evRet ?_) (fun hb=>aL (next hb))))))) (fun hj=>Ev.of rfl (bH fun _=>eC (evRet ?_)))
  ·unfold z3; rw [lC 4 _ hlt hb hj]; rfl
  ·unfold z3; rw [pN 4 _ hj]; rfl
 ·exact Ev.of rfl (bH fun h=>absurd (h rfl) hn)
theorem NA (n0:Nat) (f0:FnV) (n2:Nat) (f2:FnV) (n4:Nat) (f4:FnV) (n6:Nat) (f6:FnV) (hs:bc n6 f6) (i1 i2:Int):Ev (qA n0 f0 n2 f2 n4 f4 n6 f6) (.L2 0 i1 i2) (tri (z2 n4 f4 n6 f6)):=by
 by_cases hn:n4<=9223372036854775807
 ·refine ru (n:=n4) hn (fun i=>cF f4 i != 0) (P:=fun i=>Ev (qA n0 f0 n2 f2 n4 f4 n6 f6) (.L2 i i1 i2) _) (fun i hlt hj next=>Ev.of rfl (bH fun _=>im hlt (ig hlt (evObc (evObt (aC (fun hb=>evRet ?_) (fun hb=>aL (next hb)))))))) (fun hj=>Ev.of rfl (bH fun _=>eC (aG ?_)))
  ·unfold z2; rw [lC 3 _ hlt hb hj]; rfl
  ·unfold z2; rw [pN 3 _ hj]; exact MU n0 f0 n2 f2 n4 f4 n6 f6 hs _ _ _
 ·exact Ev.of rfl (bH fun h=>absurd (h rfl) hn)
theorem KZ (n0:Nat) (f0:FnV) (n2:Nat) (f2:FnV) (n4:Nat) (f4:FnV) (n6:Nat) (f6:FnV) (hs:bc n6 f6) (i1:Int):Ev (qA n0 f0 n2 f2 n4 f4 n6 f6) (.L1 0 i1) (tri (z1 n2 f2 n4 f4 n6 f6)):=by
 by_cases hn:n2<=9223372036854775807
 ·refine ru (n:=n2) hn (fun i=>cT f2 i != 0) (P:=fun i=>Ev (qA n0 f0 n2 f2 n4 f4 n6 f6) (.L1 i i1) _) (fun i hlt hj next=>Ev.of rfl (bH fun _=>im hlt (ig hlt (evObc (evObt (ae (aC (fun h=>ar h (evObc (evObt ?_))) (fun h=>evRet ?_)))))))) (fun hj=>Ev.of rfl (bH fun _=>eC (aG ?_)))
  ·repeat refine ae ?_
   refine aC (fun hb=>evRet ?_) (fun hb=>aL (next ?_))
   ·have e:cT f2 i=7:=by
     unfold cT xd
     rw [show (!!iJ (jv0 (f2 i)) (jv1 (f2 i)))=true from h]
     exact (congrArg (fun c=>bif c then (7:Int) else 0) hb).trans rfl
    unfold z1; rw [lC 2 _ hlt (by rw [e]; rfl) hj,e]; rfl
   ·have e:cT f2 i=0:=by
     unfold cT xd
     rw [show (!!iJ (jv0 (f2 i)) (jv1 (f2 i)))=true from h]
     exact (congrArg (fun c=>bif c then (7:Int) else 0) hb).trans rfl
    rw [e]; rfl
  ·have e:cT f2 i=7:=by
    unfold cT xd
    rw [show (!!iJ (jv0 (f2 i)) (jv1 (f2 i)))=false from h]; rfl
   unfold z1; rw [lC 2 _ hlt (by rw [e]; rfl) hj,e]; rfl
  ·unfold z1; rw [pN 2 _ hj]; exact NA n0 f0 n2 f2 n4 f4 n6 f6 hs _ _
 ·exact Ev.of rfl (bH fun h=>absurd (h rfl) hn)
theorem Mv (n0:Nat) (f0:FnV) (n2:Nat) (f2:FnV) (n4:Nat) (f4:FnV) (n6:Nat) (f6:FnV) (hr:bc n0 f0) (hs:bc n6 f6):Ev (qA n0 f0 n2 f2 n4 f4 n6 f6) (.L0 0) (tri (r24 n0 (cR n0 f0) 1 (z1 n2 f2 n4 f4 n6 f6))):=by
 by_cases hn:n0<=9223372036854775807
 ·refine ru (n:=n0) hn (fun i=>cR n0 f0 i != 0) (P:=fun i=>Ev (qA n0 f0 n2 f2 n4 f4 n6 f6) (.L0 i) _) (fun i hlt hj next=>Ev.of rfl (bH fun _=>im hlt (cD ⟨by omega,by omega,hn,hr⟩ (evObt (aC (fun hb=>evRet ?_) (fun hb=>aL (next hb))))))) (fun hj=>Ev.of rfl (bH fun _=>eC (aG ?_)))
  ·rw [lC 1 _ hlt hb hj]; rfl
  ·rw [pN 1 _ hj]; exact KZ n0 f0 n2 f2 n4 f4 n6 f6 hs _
 ·exact Ev.of rfl (bH fun h=>absurd (h rfl) hn)
theorem HM (n0:Nat) (f0:FnV) (n2:Nat) (f2:FnV) (n4:Nat) (f4:FnV) (n6:Nat) (f6:FnV) (hp:bc n0 f0/\bc n6 f6):evR (Ev (qA n0 f0 n2 f2 n4 f4 n6 f6)) (m24 n0 f0 n2 f2 n4 f4 n6 f6) (.tup [.int .i64 (Ed n0 f0 n2 f2 n4 f4 n6 f6),.int .i64 (CN n0 f0 n2 f2 n4 f4 n6 f6),.int .i64 (bA n0 f0 n2 f2 n4 f4 n6 f6)]):=by
 show evR _ _ (tri (F24 n0 f0 n2 f2 n4 f4 n6 f6))
 unfold F24
 repeat (first | refine ae ?_ | refine bH fun _=>?_)
 refine aC (fun h=>evRet ?_) (fun h=>aG ?_)
 ·rw [show BD n0 f0 n2 f2 n4 f4 n6 f6=true from h]; rfl
 ·rw [show BD n0 f0 n2 f2 n4 f4 n6 f6=false from h]; exact Mv n0 f0 n2 f2 n4 f4 n6 f6 hp.1 hp.2
theorem Qn (n0:Nat) (f0:FnV) (n2:Nat) (f2:FnV) (n4:Nat) (f4:FnV) (n6:Nat) (f6:FnV) (hp:bc n0 (elV tyR f0)/\bc n6 (elV tyC f6)):evR (Ev (qA n0 f0 n2 f2 n4 f4 n6 f6)) (m24 n0 f0 n2 f2 n4 f4 n6 f6) (.tup [.int .i64 (Ed n0 (elV tyR f0) n2 (elV tyT f2) n4 (elV tyF f4) n6 (elV tyC f6)),.int .i64 (CN n0 (elV tyR f0) n2 (elV tyT f2) n4 (elV tyF f4) n6 (elV tyC f6)),.int .i64 (bA n0 (elV tyR f0) n2 (elV tyT f2) n4 (elV tyF f4) n6 (elV tyC f6))]):=HM n0 f0 n2 f2 n4 f4 n6 f6 hp
def C24:aJ:=mkC [.agg [.sl tyR,.sl tyT,.sl tyF,.sl tyC]] (fun
 | [.agg [.sl n0 f0,.sl n2 f2,.sl n4 f4,.sl n6 f6]]=>bc n0 f0/\bc n6 f6
 | _=>False) fun
 | [.agg [.sl n0 f0,.sl n2 f2,.sl n4 f4,.sl n6 f6]]=>.tup [.int .i64 (Ed n0 f0 n2 f2 n4 f4 n6 f6),.int .i64 (CN n0 f0 n2 f2 n4 f4 n6 f6),.int .i64 (bA n0 f0 n2 f2 n4 f4 n6 f6)]
 | _=>.any
theorem vE:(vP C24).Ok Tryz.prog 24:=mkE yP Tryz.func24 (by kernel_rfl) fun ds hp=>rfs (Nn ..) (Qn _ _ _ _ _ _ _ _ hp)
def m23 (n0:Nat) (f0:FnV) (n2:Nat) (f2:FnV) (n4:Nat) (f4:FnV) (n6:Nat) (f6:FnV):RT Empty:=.asm (true=true->n0<=9223372036854775807) (.obi (.obi (.asm ((!decide (8 < (↑n0:Int)))=true->n2<=9223372036854775807) (.obi (.obi (.obi (.obi (.asm ((!bif decide (8 < (↑n0:Int)) then true else decide (12 < (↑n2:Int)))=true->n4<=9223372036854775807) (.obi (.obi (.obi (.obi (.asm ((!bif bif decide (8 < (↑n0:Int)) then true else decide (12 < (↑n2:Int)) then true else decide (8 < (↑n4:Int)))=true->n6<=9223372036854775807) (.obi (.obi (.br (bif bif bif decide (8 < (↑n0:Int)) then true else decide (12 < (↑n2:Int)) then true else decide (8 < (↑n4:Int)) then true else decide (24 < (↑n6:Int))) (.ret (V.tup [vi 0,vi 0,vi 3])) (.obp (∀ (i:Nat),i < n0->(sv (hdV (f0 i))).size<=(9223372036854775807:Nat)) (.obt (.br (ky n0 (elV tyR f0) != 0) (.ret (V.tup [vi 1,vi (tg n0 (elV tyR f0)),vi (ky n0 (elV tyR f0))])) (.obc (.obt (.br (kJ n2 (elV tyT f2) != 0) (.ret (V.tup [vi 2,vi (sJ n2 (elV tyT f2)),vi (kJ n2 (elV tyT f2))])) (.obc (.obt (.br (kN n4 (elV tyF f4) != 0) (.ret (V.tup [vi 3,vi (tB n4 (elV tyF f4)),vi (kN n4 (elV tyF f4))])) (.obp (∀ (i:Nat),i < n6->(sv (hdV (f6 i))).size<=(9223372036854775807:Nat)) (.obt (.br (kG n6 (elV tyC f6) != 0) (.ret (V.tup [vi 4,vi (sI n6 (elV tyC f6)),vi (kG n6 (elV tyC f6))])) (.ret (V.tup [vi 0,vi 0,vi 0]))))))))))))))))))))))))))))))
theorem Ox (n0:Nat) (f0:FnV) (n2:Nat) (f2:FnV) (n4:Nat) (f4:FnV) (n6:Nat) (f6:FnV):Fit noD (aZ JJ pf u0 s23 [scV n0 f0 n2 f2 n4 f4 n6 f6]) (m23 n0 f0 n2 f2 n4 f4 n6 f6):=⟨by kernel_rfl,by kernel_rfl⟩
def iA (n0:Nat) (f0:FnV) (n2:Nat) (f2:FnV) (n4:Nat) (f4:FnV) (n6:Nat) (f6:FnV):Int:=bif bif bif bif decide (8 < (↑n0:Int)) then true else decide (12 < (↑n2:Int)) then true else decide (8 < (↑n4:Int)) then true else decide (24 < (↑n6:Int)) then 0 else bif ky n0 (elV tyR f0) != 0 then 1 else bif kJ n2 (elV tyT f2) != 0 then 2 else bif kN n4 (elV tyF f4) != 0 then 3 else bif kG n6 (elV tyC f6) != 0 then 4 else 0
def iw (n0:Nat) (f0:FnV) (n2:Nat) (f2:FnV) (n4:Nat) (f4:FnV) (n6:Nat) (f6:FnV):Int:=bif bif bif bif decide (8 < (↑n0:Int)) then true else decide (12 < (↑n2:Int)) then true else decide (8 < (↑n4:Int)) then true else decide (24 < (↑n6:Int)) then 0 else bif ky n0 (elV tyR f0) != 0 then tg n0 (elV tyR f0) else bif kJ n2 (elV tyT f2) != 0 then sJ n2 (elV tyT f2) else bif kN n4 (elV tyF f4) != 0 then tB n4 (elV tyF f4) else bif kG n6 (elV tyC f6) != 0 then sI n6 (elV tyC f6) else 0
def gh (n0:Nat) (f0:FnV) (n2:Nat) (f2:FnV) (n4:Nat) (f4:FnV) (n6:Nat) (f6:FnV):Int:=bif bif bif bif decide (8 < (↑n0:Int)) then true else decide (12 < (↑n2:Int)) then true else decide (8 < (↑n4:Int)) then true else decide (24 < (↑n6:Int)) then 3 else bif ky n0 (elV tyR f0) != 0 then ky n0 (elV tyR f0) else bif kJ n2 (elV tyT f2) != 0 then kJ n2 (elV tyT f2) else bif kN n4 (elV tyF f4) != 0 then kN n4 (elV tyF f4) else bif kG n6 (elV tyC f6) != 0 then kG n6 (elV tyC f6) else 0
def R23 (n0:Nat) (f0:FnV) (n2:Nat) (f2:FnV) (n4:Nat) (f4:FnV) (n6:Nat) (f6:FnV):V:=.tup [.int i64 (iA n0 f0 n2 f2 n4 f4 n6 f6),.int i64 (iw n0 f0 n2 f2 n4 f4 n6 f6),.int i64 (gh n0 f0 n2 f2 n4 f4 n6 f6)]
theorem Qb (n0:Nat) (f0:FnV) (n2:Nat) (f2:FnV) (n4:Nat) (f4:FnV) (n6:Nat) (f6:FnV) (hp:bc n0 f0/\bc n6 f6):evR noE (m23 n0 f0 n2 f2 n4 f4 n6 f6) (R23 n0 f0 n2 f2 n4 f4 n6 f6):=bH (fun a0=>ae (ae (bH (fun a0=>ae (ae (ae (ae (bH (fun a0=>ae (ae (ae (ae (bH (fun a0=>ae (ae (aC (fun h0=>evRet (by unfold R23 iA iw gh; try rw [h0]; rfl)) (fun h0=>cD (by first | assumption | ((first | exact hp.1 | exact hp.2))) (evObt (aC (fun h1=>evRet (by unfold R23 iA iw gh; try rw [h0]; try rw [h1]; rfl)) (fun h1=>evObc (evObt (aC (fun h2=>evRet (by unfold R23 iA iw gh; try rw [h0]; try rw [h1]; try rw [h2]; rfl)) (fun h2=>evObc (evObt (aC (fun h3=>evRet (by unfold R23 iA iw gh; try rw [h0]; try rw [h1]; try rw [h2]; try rw [h3]; rfl)) (fun h3=>cD (by first | assumption | ((first | exact hp.1 | exact hp.2))) (evObt (aC (fun h4=>evRet (by unfold R23 iA iw gh; try rw [h0]; try rw [h1]; try rw [h2]; try rw [h3]; try rw [h4]; rfl)) (fun h4=>evRet (by unfold R23 iA iw gh; try rw [h0]; try rw [h1]; try rw [h2]; try rw [h3]; try rw [h4]; rfl))))))))))))))))))))))))))))))
def C23:aJ:=mkC [.agg [.sl tyR,.sl tyT,.sl tyF,.sl tyC]] (fun
 | [.agg [.sl n0 f0,.sl n2 f2,.sl n4 f4,.sl n6 f6]]=>bc n0 f0/\bc n6 f6
 | _=>False) fun
 | [.agg [.sl n0 f0,.sl n2 f2,.sl n4 f4,.sl n6 f6]]=>R23 n0 f0 n2 f2 n4 f4 n6 f6
 | _=>.any
theorem wp:(vP C23).Ok Tryz.prog 23:=mkE yP Tryz.func23 (by kernel_rfl) fun ds hp=>rf0 (Ox ..) (Qb _ _ _ _ _ _ _ _ hp)
end
noncomputable section
def w8:aX:=(24,.con C24)::(23,.con C23)::pf
theorem ya:aW Tryz.prog eqs its w8:=.con vE (.con wp (yP))
inductive S44 where
 | L0 (ia0 ia1:Int)
def Oc (n0:Nat) (f0:FnV) (n2:Nat) (f2:FnV) (n4:Nat) (f4:FnV) (n6:Nat) (f6:FnV) (n8:Nat) (f8:FnV):S44->Env × List O × Option Ex
 | .L0 ia0 ia1=>([(8,vi ia0),(7,vi ia1),(6,vi (iw n0 (elV tyR f0) n2 (elV tyT f2) n4 (elV tyF f4) n6 (elV tyC f6))),(5,vi (iA n0 (elV tyR f0) n2 (elV tyT f2) n4 (elV tyF f4) n6 (elV tyC f6))),(14,vi (gh n0 (elV tyR f0) n2 (elV tyT f2) n4 (elV tyF f4) n6 (elV tyC f6))),(13,vi (iw n0 (elV tyR f0) n2 (elV tyT f2) n4 (elV tyF f4) n6 (elV tyC f6))),(12,vi (iA n0 (elV tyR f0) n2 (elV tyT f2) n4 (elV tyF f4) n6 (elV tyC f6))),(9,V.tup [vi (iA n0 (elV tyR f0) n2 (elV tyT f2) n4 (elV tyF f4) n6 (elV tyC f6)),vi (iw n0 (elV tyR f0) n2 (elV tyT f2) n4 (elV tyF f4) n6 (elV tyC f6)),vi (gh n0 (elV tyR f0) n2 (elV tyT f2) n4 (elV tyF f4) n6 (elV tyC f6))]),(11,V.tup [vi (iA n0 (elV tyR f0) n2 (elV tyT f2) n4 (elV tyF f4) n6 (elV tyC f6)),vi (iw n0 (elV tyR f0) n2 (elV tyT f2) n4 (elV tyF f4) n6 (elV tyC f6)),vi (gh n0 (elV tyR f0) n2 (elV tyT f2) n4 (elV tyF f4) n6 (elV tyC f6))]),(10,scV n0 f0 n2 f2 n4 f4 n6 f6),(4,vi 0),(2,V.pl 0 0),(0,scV n0 f0 n2 f2 n4 f4 n6 f6),(1,V.sl n8 (elV tp1 f8))],[O.cells [V.sl n0 (elV tyR f0),V.sl n2 (elV tyT f2),V.sl n4 (elV tyF f4),V.sl n6 (elV tyC f6)] 27],none)
def Q4:S44->JJ
 | .L0 ia0 ia1=>(0,[])
def Ov (n0:Nat) (f0:FnV) (n2:Nat) (f2:FnV) (n4:Nat) (f4:FnV) (n6:Nat) (f6:FnV) (n8:Nat) (f8:FnV):T (bF JJ):=aZ JJ w8 u0 s44 [scV n0 f0 n2 f2 n4 f4 n6 f6,V.sl n8 (elV tp1 f8)]
def Dl (n0:Nat) (f0:FnV) (n2:Nat) (f2:FnV) (n4:Nat) (f4:FnV) (n6:Nat) (f6:FnV) (n8:Nat) (f8:FnV) (cx:List Cx):Lp JJ:=lpT (atT (Ov n0 f0 n2 f2 n4 f4 n6 f6 n8 f8) [])
def PY (n0:Nat) (f0:FnV) (n2:Nat) (f2:FnV) (n4:Nat) (f4:FnV) (n6:Nat) (f6:FnV) (n8:Nat) (f8:FnV):JJ->Lp JJ
 | (0,cx)=>Dl n0 f0 n2 f2 n4 f4 n6 f6 n8 f8 cx
 | (_,cx)=>Dl n0 f0 n2 f2 n4 f4 n6 f6 n8 f8 cx
def D44 (n0:Nat) (f0:FnV) (n2:Nat) (f2:FnV) (n4:Nat) (f4:FnV) (n6:Nat) (f6:FnV) (n8:Nat) (f8:FnV):LD JJ S44:=⟨Q4,PY n0 f0 n2 f2 n4 f4 n6 f6 n8 f8,Oc n0 f0 n2 f2 n4 f4 n6 f6 n8 f8⟩
def BR (n0:Nat) (f0:FnV) (n2:Nat) (f2:FnV) (n4:Nat) (f4:FnV) (n6:Nat) (f6:FnV) (n8:Nat) (f8:FnV):S44->RT S44
 | .L0 ia0 ia1=>.asm (true=true->n8<=9223372036854775807) (.obi (.obi (.br (bif decide (ia0 < (↑n8:Int)) then ia1 == 0 else false) (.ob (decide (0<=ia0/\ia0 < (↑n8:Int))) (.ob (decide (0<=i64.wrap (ia0+1)/\i64.wrap (ia0+1) < (↑n8:Int))) (.obc (.obt (.br (aT (jv0 (f8 ia0.toNat)) 0 (i64.wrap (jv0 (f8 (i64.wrap (ia0+1)).toNat) - 1))) (.next [some (some 0)] (S44.L0 (i64.wrap (ia0+2)) (4)) []) (.next [some (some 0)] (S44.L0 (i64.wrap (ia0+2)) (ia1)) [])))))) (.ret (vi ia1)))))
def m44 (n0:Nat) (f0:FnV) (n2:Nat) (f2:FnV) (n4:Nat) (f4:FnV) (n6:Nat) (f6:FnV) (n8:Nat) (f8:FnV):RT S44:=.obp ((∀ (i:Nat),i < n0->(sv (hdV (f0 i))).size<=(9223372036854775807:Nat))/\∀ (i:Nat),i < n6->(sv (hdV (f6 i))).size<=(9223372036854775807:Nat)) (.obt (.enter [some (some 0)] (S44.L0 (0) (gh n0 (elV tyR f0) n2 (elV tyT f2) n4 (elV tyF f4) n6 (elV tyC f6))) []))
theorem Mu (n0:Nat) (f0:FnV) (n2:Nat) (f2:FnV) (n4:Nat) (f4:FnV) (n6:Nat) (f6:FnV) (n8:Nat) (f8:FnV):ep w8 u0 (D44 n0 f0 n2 f2 n4 f4 n6 f6 n8 f8) (Ov n0 f0 n2 f2 n4 f4 n6 f6 n8 f8) (m44 n0 f0 n2 f2 n4 f4 n6 f6 n8 f8) (BR n0 f0 n2 f2 n4 f4 n6 f6 n8 f8):=⟨⟨by kernel_rfl,by kernel_rfl⟩,fun s=>by cases s <;> exact ⟨by kernel_rfl,by kernel_rfl⟩⟩
def uM (f8:FnV) (k:Nat):Bool:=aT (jv0 (f8 (2 * k))) 0 (i64.wrap (jv0 (f8 (2 * k+1)) - 1))
def wj (n8:Nat) (f8:FnV) (e:Int):Int:=bif e == 0 then (bif exB (n8 / 2) (uM f8) then 4 else 0) else e
def F44 (n0:Nat) (f0:FnV) (n2:Nat) (f2:FnV) (n4:Nat) (f4:FnV) (n6:Nat) (f6:FnV) (n8:Nat) (f8:FnV):Int:=wj n8 f8 (gh n0 (elV tyR f0) n2 (elV tyT f2) n4 (elV tyF f4) n6 (elV tyC f6))
theorem G6 (n0:Nat) (f0:FnV) (n2:Nat) (f2:FnV) (n4:Nat) (f4:FnV) (n6:Nat) (f6:FnV) (n8:Nat) (f8:FnV) (i e:Int) (he:(e == 0)=false):Ev (BR n0 f0 n2 f2 n4 f4 n6 f6 n8 f8) (.L0 i e) (.int .i64 e):=Ev.of rfl (bH fun _=>ae (ae (dF (by rw [he]; cases decide (i < (n8:Int)) <;> rfl) (evRet rfl))))
theorem Nf (n0:Nat) (f0:FnV) (n2:Nat) (f2:FnV) (n4:Nat) (f4:FnV) (n6:Nat) (f6:FnV) (n8:Nat) (f8:FnV) (hm:n8 % 2=0) (hn:n8<=100):∀ k:Nat,k<=n8 / 2->(∀ j,j < k->uM f8 j=false)->Ev (BR n0 f0 n2 f2 n4 f4 n6 f6 n8 f8) (.L0 ((2 * k:Nat):Int) 0) (.int .i64 (bif exB (n8 / 2) (uM f8) then 4 else 0)):=by
 refine bJ fun k hk ih hj=>Ev.of rfl (bH fun _=>ae (ae (aC (fun h=>?_) (fun h=>?_))))
 ·have hlt:2 * k < n8:=by
   by_cases hh:((2 * k:Nat):Int) < (n8:Int)
   ·omega
   ·rw [dqf hh] at h; cases h
  have w1:i64.wrap (((2 * k:Nat):Int)+1)=((2 * k+1:Nat):Int):=by rw [av (by omega) (by omega)]; omega
  have w2:i64.wrap (((2 * k:Nat):Int)+2)=((2 * (k+1):Nat):Int):=by rw [av (by omega) (by omega)]; omega
  refine ar (dqt (by omega)) (ar (dqt (by rw [w1]; omega)) (evObc (evObt (aC (fun hb=>aL ?_) (fun hb=>aL ?_)))))
  ·rw [w1] at hb
   simp only [Int.toNat_natCast] at hb
   rw [bz (p:=uM f8) k (by omega) hb,cond_true]
   exact G6 n0 f0 n2 f2 n4 f4 n6 f6 n8 f8 _ 4 rfl
  ·rw [w1] at hb
   simp only [Int.toNat_natCast] at hb
   rw [w2]
   refine ih (by omega) (fun j h3=>?_)
   by_cases e:j=k
   ·subst e; exact hb
   ·exact hj j (by omega)
 ·have e:k=n8 / 2:=by
   by_cases hh:((2 * k:Nat):Int) < (n8:Int)
   ·rw [dqt hh] at h; cases h
   ·omega
  rw [show exB (n8 / 2) (uM f8)=false from bG fun j h=>hj j (by omega)]
  exact evRet rfl
theorem KC (n0:Nat) (f0:FnV) (n2:Nat) (f2:FnV) (n4:Nat) (f4:FnV) (n6:Nat) (f6:FnV) (n8:Nat) (f8:FnV) (hm:n8 % 2=0) (hn:n8<=100) (e:Int):Ev (BR n0 f0 n2 f2 n4 f4 n6 f6 n8 f8) (.L0 0 e) (.int .i64 (wj n8 f8 e)):=by
 unfold wj
 cases he:e == 0 with
 | false=>exact G6 n0 f0 n2 f2 n4 f4 n6 f6 n8 f8 0 e he
 | true =>
   have:e=0:=eq_of_beq he
   subst this
   exact Nf n0 f0 n2 f2 n4 f4 n6 f6 n8 f8 hm hn 0 (by omega) (fun j h=>by omega)
theorem Jf (n0:Nat) (f0:FnV) (n2:Nat) (f2:FnV) (n4:Nat) (f4:FnV) (n6:Nat) (f6:FnV) (n8:Nat) (f8:FnV) (hp:(bc n0 f0/\bc n6 f6)/\n8 % 2=0/\n8<=100):evR (Ev (BR n0 f0 n2 f2 n4 f4 n6 f6 n8 f8)) (m44 n0 f0 n2 f2 n4 f4 n6 f6 n8 f8) (.int .i64 (F44 n0 f0 n2 f2 n4 f4 n6 f6 n8 f8)):=cD hp.1 (evObt (aG (KC n0 f0 n2 f2 n4 f4 n6 f6 n8 f8 hp.2.1 hp.2.2 _)))
theorem Qx (n0:Nat) (f0:FnV) (n2:Nat) (f2:FnV) (n4:Nat) (f4:FnV) (n6:Nat) (f6:FnV) (n8:Nat) (f8:FnV) (hp:(bc n0 (elV tyR f0)/\bc n6 (elV tyC f6))/\n8 % 2=0/\n8<=100):evR (Ev (BR n0 f0 n2 f2 n4 f4 n6 f6 n8 f8)) (m44 n0 f0 n2 f2 n4 f4 n6 f6 n8 f8) (.int .i64 (F44 n0 (elV tyR f0) n2 (elV tyT f2) n4 (elV tyF f4) n6 (elV tyC f6) n8 (elV tp1 f8))):=Jf n0 f0 n2 f2 n4 f4 n6 f6 n8 f8 hp
def C44:aJ:=mkC [.agg [.sl tyR,.sl tyT,.sl tyF,.sl tyC],.sl tp1] (fun
 | [.agg [.sl n0 f0,.sl n2 f2,.sl n4 f4,.sl n6 f6],.sl n8 f8]=>(bc n0 f0/\bc n6 f6)/\n8 % 2=0/\n8<=100
 | _=>False) fun
 | [.agg [.sl n0 f0,.sl n2 f2,.sl n4 f4,.sl n6 f6],.sl n8 f8]=>.int .i64 (F44 n0 f0 n2 f2 n4 f4 n6 f6 n8 f8)
 | _=>.any
theorem BU:(vP C44).Ok Tryz.prog 44:=mkE ya Tryz.func44 (by kernel_rfl) fun ds hp=>rfs (Mu ..) (Qx _ _ _ _ _ _ _ _ _ _ hp)
def m91 (n0:Nat) (f0:FnV) (n2:Nat) (f2:FnV) (n4:Nat) (f4:FnV) (n6:Nat) (f6:FnV):RT Empty:=.obp ((∀ (i:Nat),i < n0->(sv (hdV (f0 i))).size<=(9223372036854775807:Nat))/\∀ (i:Nat),i < n6->(sv (hdV (f6 i))).size<=(9223372036854775807:Nat)) (.obt (.ret (vi (bA n0 (elV tyR f0) n2 (elV tyT f2) n4 (elV tyF f4) n6 (elV tyC f6)))))
theorem Kg (n0:Nat) (f0:FnV) (n2:Nat) (f2:FnV) (n4:Nat) (f4:FnV) (n6:Nat) (f6:FnV):Fit noD (aZ JJ w8 u0 s91 [scV n0 f0 n2 f2 n4 f4 n6 f6]) (m91 n0 f0 n2 f2 n4 f4 n6 f6):=⟨by kernel_rfl,by kernel_rfl⟩
def cG (n0:Nat) (f0:FnV) (n2:Nat) (f2:FnV) (n4:Nat) (f4:FnV) (n6:Nat) (f6:FnV):Int:=bA n0 (elV tyR f0) n2 (elV tyT f2) n4 (elV tyF f4) n6 (elV tyC f6)
def R91 (n0:Nat) (f0:FnV) (n2:Nat) (f2:FnV) (n4:Nat) (f4:FnV) (n6:Nat) (f6:FnV):V:=.int i64 (cG n0 f0 n2 f2 n4 f4 n6 f6)
theorem PU (n0:Nat) (f0:FnV) (n2:Nat) (f2:FnV) (n4:Nat) (f4:FnV) (n6:Nat) (f6:FnV) (hp:bc n0 f0/\bc n6 f6):evR noE (m91 n0 f0 n2 f2 n4 f4 n6 f6) (R91 n0 f0 n2 f2 n4 f4 n6 f6):=cD (by first | assumption | (exact hp)) (evObt (evRet (by unfold R91 cG; rfl)))
def C91:aJ:=mkC [.agg [.sl tyR,.sl tyT,.sl tyF,.sl tyC]] (fun
 | [.agg [.sl n0 f0,.sl n2 f2,.sl n4 f4,.sl n6 f6]]=>bc n0 f0/\bc n6 f6
 | _=>False) fun
 | [.agg [.sl n0 f0,.sl n2 f2,.sl n4 f4,.sl n6 f6]]=>R91 n0 f0 n2 f2 n4 f4 n6 f6
 | _=>.any
theorem vD:(vP C91).Ok Tryz.prog 91:=mkE ya Tryz.func91 (by kernel_rfl) fun ds hp=>rf0 (Kg ..) (PU _ _ _ _ _ _ _ _ hp)
end
noncomputable section
def C4:aX:=(44,.con C44)::(91,.con C91)::w8
theorem Cj:aW Tryz.prog eqs its C4:=.con BU (.con vD (ya))
def m50 (n0:Nat) (f0:FnV) (n2:Nat) (f2:FnV) (n4:Nat) (f4:FnV) (n6:Nat) (f6:FnV) (x8 x9:Int):RT Empty:=.obp ((∀ (i:Nat),i < n0->(sv (hdV (f0 i))).size<=(9223372036854775807:Nat))/\∀ (i:Nat),i < n6->(sv (hdV (f6 i))).size<=(9223372036854775807:Nat)) (.obt (.obi (.obi (.obi (.obi (.obi (.obi (.obi (.br (bif cG n0 (elV tyR f0) n2 (elV tyT f2) n4 (elV tyF f4) n6 (elV tyC f6) == 0 then bif decide (x8 < 0) then true else decide (x9<=x8) else false) (.ret (vi 4)) (.ret (vi (cG n0 (elV tyR f0) n2 (elV tyT f2) n4 (elV tyF f4) n6 (elV tyC f6)))))))))))))
theorem NB (n0:Nat) (f0:FnV) (n2:Nat) (f2:FnV) (n4:Nat) (f4:FnV) (n6:Nat) (f6:FnV) (x8 x9:Int):Fit noD (aZ JJ C4 u0 s50 [scV n0 f0 n2 f2 n4 f4 n6 f6,vi x8,vi x9]) (m50 n0 f0 n2 f2 n4 f4 n6 f6 x8 x9):=⟨by kernel_rfl,by kernel_rfl⟩
def dD (n0:Nat) (f0:FnV) (n2:Nat) (f2:FnV) (n4:Nat) (f4:FnV) (n6:Nat) (f6:FnV) (x8 x9:Int):Int:=bif bif cG n0 (elV tyR f0) n2 (elV tyT f2) n4 (elV tyF f4) n6 (elV tyC f6) == 0 then bif decide (x8 < 0) then true else decide (x9<=x8) else false then 4 else cG n0 (elV tyR f0) n2 (elV tyT f2) n4 (elV tyF f4) n6 (elV tyC f6)
def R50 (n0:Nat) (f0:FnV) (n2:Nat) (f2:FnV) (n4:Nat) (f4:FnV) (n6:Nat) (f6:FnV) (x8 x9:Int):V:=.int i64 (dD n0 f0 n2 f2 n4 f4 n6 f6 x8 x9)
theorem Ph (n0:Nat) (f0:FnV) (n2:Nat) (f2:FnV) (n4:Nat) (f4:FnV) (n6:Nat) (f6:FnV) (x8 x9:Int) (hp:bc n0 f0/\bc n6 f6):evR noE (m50 n0 f0 n2 f2 n4 f4 n6 f6 x8 x9) (R50 n0 f0 n2 f2 n4 f4 n6 f6 x8 x9):=cD (by first | assumption | (exact hp)) (evObt (ae (ae (ae (ae (ae (ae (ae (aC (fun h0=>evRet (by unfold R50 dD; try rw [h0]; rfl)) (fun h0=>evRet (by unfold R50 dD; try rw [h0]; rfl)))))))))))
def C50:aJ:=mkC [.agg [.sl tyR,.sl tyT,.sl tyF,.sl tyC],.int .i64,.int .i64] (fun
 | [.agg [.sl n0 f0,.sl n2 f2,.sl n4 f4,.sl n6 f6],.int _ x8,.int _ x9]=>bc n0 f0/\bc n6 f6
 | _=>False) fun
 | [.agg [.sl n0 f0,.sl n2 f2,.sl n4 f4,.sl n6 f6],.int _ x8,.int _ x9]=>R50 n0 f0 n2 f2 n4 f4 n6 f6 x8 x9
 | _=>.any
theorem wk:(vP C50).Ok Tryz.prog 50:=mkE Cj Tryz.func50 (by kernel_rfl) fun ds hp=>rf0 (NB ..) (Ph _ _ _ _ _ _ _ _ _ _ hp)
end
end Go.Dx
namespace Go.Dx
open Go.IntKind (i64 u64 u8)
open Go.Sx
noncomputable section
theorem uC {i:Int} {m:Nat} {f8:Nat->List V} {k:Nat} (hm:m<=9223372036854775807) (h1:jv0 (f8 (2 * k))=i) (h2:jv0 (f8 (2 * k+1))=(m:Int)) (h:uM f8 k=false):0<=i/\i < m:=by
 unfold uM aT at h
 rw [h1,h2,av (by omega) (by omega)] at h
 cases hb:decide (i < 0) with
 | true=>rw [hb] at h; cases h
 | false =>
   rw [hb,cond_false] at h
   have a:=of_decide_eq_false hb
   have b:=of_decide_eq_false h
   omega
theorem tY {n8:Nat} {f8:Nat->List V} {e:Int} (h:wj n8 f8 e=0):e=0/\∀ k,k < n8 / 2->uM f8 k=false:=by
 unfold wj at h
 cases he:e == 0 with
 | false =>
   rw [he,cond_false] at h
   subst h; cases he
 | true =>
   rw [he,cond_true] at h
   refine ⟨eq_of_beq he,fun k hk=>?_⟩
   cases ho:uM f8 k with
   | false=>rfl
   | true=>rw [bz k hk ho] at h; cases h
section
variable {n0:Nat} {f0:Nat->List V} {n2:Nat} {f2:Nat->List V} {n4:Nat} {f4:Nat->List V} {n6:Nat} {f6:Nat->List V} {i j:Int} {m l:Nat}
theorem jm (hm:m<=9223372036854775807) (h:F44 n0 f0 n2 f2 n4 f4 n6 f6 2 (elV tp1 (cq [vi i,vi m] 0 1))=0):0<=i/\i < m :=
 uC (k:=0) hm rfl rfl ((tY h).2 0 (by omega))
theorem o5 (hm:m<=9223372036854775807) (hl:l<=9223372036854775807) (h:F44 n0 f0 n2 f2 n4 f4 n6 f6 4 (elV tp1 (cq [vi i,vi m,vi j,vi l] 0 1))=0):(0<=i/\i < m)/\(0<=j/\j < l) :=
 ⟨uC (k:=0) hm rfl rfl ((tY h).2 0 (by omega)),uC (k:=1) hl rfl rfl ((tY h).2 1 (by omega))⟩
theorem k50 (h:dD n0 f0 n2 f2 n4 f4 n6 f6 i j=0):0<=i/\i < j:=by
 unfold dD at h
 generalize cG _ _ _ _ _ _ _ _=e at h
 cases he:e == 0 with
 | false=>rw [he] at h; simp only [cond_false] at h; subst h; cases he
 | true =>
   rw [he,cond_true] at h
   cases hb:decide (i < 0) with
   | true=>rw [hb] at h; cases h
   | false =>
     rw [hb,cond_false] at h
     cases hc:decide (j<=i) with
     | true=>rw [hc] at h; cases h
     | false=>have:=of_decide_eq_false hb; have:=of_decide_eq_false hc; omega
end
end
end Go.Dx
namespace Go.Dx
open Go.IntKind (i64 u64 u8)
open Go.Sx Go.Proofs
noncomputable section
attribute [local irreducible] F44 dD cG
end
end Go.Dx
namespace Go.Dx
open Go.IntKind (i64 u64 u8)
open Go.Sx Go.Proofs
noncomputable section
def sQ:aX:=(50,.con C50)::C4
theorem qE:aW Tryz.prog eqs its sQ:=.con wk (Cj)
def L8 (x0 x1 x2 x3:Int):RT Empty:=.br (x0 != x2) (.ret (vi (i64.wrap (x0 - x2)))) (.ret (vi (i64.wrap (x1 - x3))))
theorem Jb (x0 x1 x2 x3:Int):Fit noD (aZ JJ sQ u0 Qg [V.agg [vi x0,vi x1],V.agg [vi x2,vi x3]]) (L8 x0 x1 x2 x3):=⟨by kernel_rfl,by kernel_rfl⟩
def va (x0 x1 x2 x3:Int):Int:=bif x0 != x2 then i64.wrap (x0 - x2) else i64.wrap (x1 - x3)
def Fa (x0 x1 x2 x3:Int):V:=.int i64 (va x0 x1 x2 x3)
theorem KJ (x0 x1 x2 x3:Int):evR noE (L8 x0 x1 x2 x3) (Fa x0 x1 x2 x3):=aC (fun h0=>evRet (by unfold Fa va; try rw [h0]; rfl)) (fun h0=>evRet (by unfold Fa va; try rw [h0]; rfl))
def ur:aJ:=mkC [.agg tp2,.agg tp2] (fun _=>True) fun
 | [.agg [.int _ x0,.int _ x1],.agg [.int _ x2,.int _ x3]]=>Fa x0 x1 x2 x3
 | _=>.any
theorem oV:(vP ur).Ok Tryz.prog 140:=mkE qE Tryz.func140 (by kernel_rfl) fun ds hp=>rf0 (Jb ..) (KJ _ _ _ _)
def m49 (x0 x1 x2 x3 x4 x5 x6 x7:Int) (b8:Bool) (x9 x10:Int):RT Empty:=.obi (.br (!b8) (.ob (!b8) (.ob (!b8) (.ob (!b8) (.obc (.obt (.obc (.obt (.obc (.obt (.ret (V.bool (fX (nx x0 x2 x9 x3) (nH x1 x2 x10 x3) (nx x0 x2 x9 x4) (nH x1 x2 x10 x4) x5 x6 x7)))))))))))) (.ret (V.kb false)))
theorem OK (x0 x1 x2 x3 x4 x5 x6 x7:Int) (b8:Bool) (x9 x10:Int):Fit noD (aZ JJ sQ u0 s49 [V.agg [vi x0,vi x1,vi x2,vi x3,vi x4,vi x5,vi x6,vi x7,V.bool b8],V.agg [vi x9,vi x10]]) (m49 x0 x1 x2 x3 x4 x5 x6 x7 b8 x9 x10):=⟨by kernel_rfl,by kernel_rfl⟩
def qZ (x0 x1 x2 x3 x4 x5 x6 x7:Int) (b8:Bool) (x9 x10:Int):Bool:=bif !b8 then fX (nx x0 x2 x9 x3) (nH x1 x2 x10 x3) (nx x0 x2 x9 x4) (nH x1 x2 x10 x4) x5 x6 x7 else false
def R49 (x0 x1 x2 x3 x4 x5 x6 x7:Int) (b8:Bool) (x9 x10:Int):V:=.bool (qZ x0 x1 x2 x3 x4 x5 x6 x7 b8 x9 x10)
theorem RJ (x0 x1 x2 x3 x4 x5 x6 x7:Int) (b8:Bool) (x9 x10:Int):evR noE (m49 x0 x1 x2 x3 x4 x5 x6 x7 b8 x9 x10) (R49 x0 x1 x2 x3 x4 x5 x6 x7 b8 x9 x10):=ae (aC (fun h0=>ar (by first | assumption | (fail)) (ar (by first | assumption | (fail)) (ar (by first | assumption | (fail)) (evObc (evObt (evObc (evObt (evObc (evObt (evRet (by unfold R49 qZ; try rw [h0]; rfl))))))))))) (fun h0=>evRet (by unfold R49 qZ; try rw [h0]; rfl)))
def C49:aJ:=mkC [.agg [.int .i64,.int .i64,.int .i64,.int .i64,.int .i64,.int .i64,.int .i64,.int .i64,.bool],.agg tp2] (fun _=>True) fun
 | [.agg [.int _ x0,.int _ x1,.int _ x2,.int _ x3,.int _ x4,.int _ x5,.int _ x6,.int _ x7,.bool b8],.agg [.int _ x9,.int _ x10]]=>R49 x0 x1 x2 x3 x4 x5 x6 x7 b8 x9 x10
 | _=>.any
theorem wm:(vP C49).Ok Tryz.prog 49:=mkE qE Tryz.func49 (by kernel_rfl) fun ds hp=>rf0 (OK ..) (RJ _ _ _ _ _ _ _ _ _ _ _)
def NZ (x0 x1 x2 x3 x4 x5 x6:Int):RT Empty:=.obc (.obt (.ret (V.bool (fX x0 x1 x2 x3 (i64.wrap (2 * x5)) (i64.wrap (2 * x6)) x4))))
theorem J1 (x0 x1 x2 x3 x4 x5 x6:Int):Fit noD (aZ JJ sQ u0 Qi [V.agg [vi x0,vi x1,vi x2,vi x3,vi x4],vi x5,vi x6]) (NZ x0 x1 x2 x3 x4 x5 x6):=⟨by kernel_rfl,by kernel_rfl⟩
def bP (x0 x1 x2 x3 x4 x5 x6:Int):Bool:=fX x0 x1 x2 x3 (i64.wrap (2 * x5)) (i64.wrap (2 * x6)) x4
def IK (x0 x1 x2 x3 x4 x5 x6:Int):V:=.bool (bP x0 x1 x2 x3 x4 x5 x6)
theorem Nt (x0 x1 x2 x3 x4 x5 x6:Int):evR noE (NZ x0 x1 x2 x3 x4 x5 x6) (IK x0 x1 x2 x3 x4 x5 x6):=evObc (evObt (evRet (by unfold IK bP; rfl)))
def ud:aJ:=mkC [.agg tyT,.int .i64,.int .i64] (fun _=>True) fun
 | [.agg [.int _ x0,.int _ x1,.int _ x2,.int _ x3,.int _ x4],.int _ x5,.int _ x6]=>IK x0 x1 x2 x3 x4 x5 x6
 | _=>.any
theorem o8:(vP ud).Ok Tryz.prog 123:=mkE qE Tryz.func123 (by kernel_rfl) fun ds hp=>rf0 (J1 ..) (Nt _ _ _ _ _ _ _)
def Np (s0:ByteArray) (x1:Int) (n2:Nat) (f2:FnV) (x4 x5 x6 x7:Int):RT Empty:=.obp ((0:Int)<=x5/\i64.wrap (x5+(1:Int))=x5+(1:Int)/\x5+(1:Int) < (↑n2:Int)) (.obt (.obc (.obt (.ret (V.bool (gY x6 x7 (qF (elV tp2 f2) x5) (rr (elV tp2 f2) x5) (p8 (elV tp2 f2) x5) (qS (elV tp2 f2) x5) x4))))))
theorem J8 (s0:ByteArray) (x1:Int) (n2:Nat) (f2:FnV) (x4 x5 x6 x7:Int):Fit noD (aZ JJ sQ u0 QE [V.agg [V.str s0,vi x1,V.sl n2 (elV tp2 f2),vi x4],vi x5,V.agg [vi x6,vi x7]]) (Np s0 x1 n2 f2 x4 x5 x6 x7):=⟨by kernel_rfl,by kernel_rfl⟩
def qG (f2:FnV) (x4 x5 x6 x7:Int):Bool:=gY x6 x7 (qF (elV tp2 f2) x5) (rr (elV tp2 f2) x5) (p8 (elV tp2 f2) x5) (qS (elV tp2 f2) x5) x4
def R124 (s0:ByteArray) (x1:Int) (n2:Nat) (f2:FnV) (x4 x5 x6 x7:Int):V:=.bool (qG f2 x4 x5 x6 x7)
theorem LB (s0:ByteArray) (x1:Int) (n2:Nat) (f2:FnV) (x4 x5 x6 x7:Int) (hp:0<=x5/\i64.wrap (x5+1)=x5+1/\x5+1 < (n2:Int)):evR noE (Np s0 x1 n2 f2 x4 x5 x6 x7) (R124 s0 x1 n2 f2 x4 x5 x6 x7):=cD (by first | assumption | (first | exact hp | (intro h; cases h))) (evObt (evObc (evObt (evRet (by unfold R124 qG; rfl)))))
def vz:aJ:=mkC [.agg tyR,.int .i64,.agg tp2] (fun
 | [.agg [.str s0,.int _ x1,.sl n2 f2,.int _ x4],.int _ x5,.agg [.int _ x6,.int _ x7]]=>0<=x5/\i64.wrap (x5+1)=x5+1/\x5+1 < (n2:Int)
 | _=>False) fun
 | [.agg [.str s0,.int _ x1,.sl n2 f2,.int _ x4],.int _ x5,.agg [.int _ x6,.int _ x7]]=>R124 s0 x1 n2 f2 x4 x5 x6 x7
 | _=>.any
theorem oJ:(vP vz).Ok Tryz.prog 124:=mkE qE Tryz.func124 (by kernel_rfl) fun ds hp=>rf0 (J8 ..) (LB _ _ _ _ _ _ _ _ hp)
end
noncomputable section
def xP:aX:=(140,.con ur)::(49,.con C49)::(123,.con ud)::(124,.con vz)::sQ
theorem AQ:aW Tryz.prog eqs its xP:=.con oV (.con wm (.con o8 (.con oJ (qE))))
def u5:Unr:=fun _=>5
def M5 (x0 x1 x2 x3 x4 x5 x6 x7 x8:Int):RT Empty:=.obi (.obi (.obi (.obi (.obi (.obi (.obi (.obi (.obi (.obi (.obi (.obi (.obi (.obi (.obi (.obi (.obi (.obi (.obi (.obi (.obi (.obi (.obi (.obi (.obi (.obi (.obi (.obi (.obi (.obi (.obi (.obi (.obi (.obi (.obi (.obi (.obi (.obi (.obi (.br (bif bif bif decide (max x0 x2 < i64.wrap (2 * x5)) then true else decide (i64.wrap (2 * x7) < min x0 x2) then true else decide (max x1 x3 < i64.wrap (2 * x6)) then true else decide (i64.wrap (2 * x8) < min x1 x3)) (.ret (V.kb false)) (.obc (.obt (.brt (.obt (.obc (.obt (.obc (.obt (.brt (.obt (.obc (.obt (.obc (.obt (.obi (.obi (.obi (.obi (.brt (.obt (.obc (.obt (.obc (.obt (.obi (.obi (.obi (.obi (.brt (.obt (.obc (.obt (.obc (.obt (.obi (.obi (.obi (.obi (.brf (.obi (.ret (V.bool (bif bif bif bif decide (0<=eu x0 x1 x2 x3 (cQ x5 2) (da x6 2)) then true else decide (0<=eu x0 x1 x2 x3 (cQ x7 2) (da x6 2)) then true else decide (0<=eu x0 x1 x2 x3 (cQ x7 2) (da x8 2)) then true else decide (0<=eu x0 x1 x2 x3 (cQ x5 2) (da x8 2)) then bif bif bif decide (eu x0 x1 x2 x3 (cQ x5 2) (da x6 2)<=0) then true else decide (eu x0 x1 x2 x3 (cQ x7 2) (da x6 2)<=0) then true else decide (eu x0 x1 x2 x3 (cQ x7 2) (da x8 2)<=0) then true else decide (eu x0 x1 x2 x3 (cQ x5 2) (da x8 2)<=0) else false))))))))))))))))))))))))))))))))))))))))))))))))))))))))))))))))))))))))))))))))))
theorem JK (x0 x1 x2 x3 x4 x5 x6 x7 x8:Int):Fit noD (aZ JJ xP u5 RP [V.agg [vi x0,vi x1,vi x2,vi x3,vi x4],V.agg [vi x5,vi x6,vi x7,vi x8]]) (M5 x0 x1 x2 x3 x4 x5 x6 x7 x8):=⟨by kernel_rfl,by kernel_rfl⟩
def qd (x0 x1 x2 x3 x5 x6 x7 x8:Int):Bool:=bif bif bif bif decide (max x0 x2 < i64.wrap (2 * x5)) then true else decide (i64.wrap (2 * x7) < min x0 x2) then true else decide (max x1 x3 < i64.wrap (2 * x6)) then true else decide (i64.wrap (2 * x8) < min x1 x3) then false else bif bif bif bif decide (0<=eu x0 x1 x2 x3 (cQ x5 2) (da x6 2)) then true else decide (0<=eu x0 x1 x2 x3 (cQ x7 2) (da x6 2)) then true else decide (0<=eu x0 x1 x2 x3 (cQ x7 2) (da x8 2)) then true else decide (0<=eu x0 x1 x2 x3 (cQ x5 2) (da x8 2)) then bif bif bif decide (eu x0 x1 x2 x3 (cQ x5 2) (da x6 2)<=0) then true else decide (eu x0 x1 x2 x3 (cQ x7 2) (da x6 2)<=0) then true else decide (eu x0 x1 x2 x3 (cQ x7 2) (da x8 2)<=0) then true else decide (eu x0 x1 x2 x3 (cQ x5 2) (da x8 2)<=0) else false
def FY (x0 x1 x2 x3 x4 x5 x6 x7 x8:Int):V:=.bool (qd x0 x1 x2 x3 x5 x6 x7 x8)
theorem NL (x0 x1 x2 x3 x4 x5 x6 x7 x8:Int):evR noE (M5 x0 x1 x2 x3 x4 x5 x6 x7 x8) (FY x0 x1 x2 x3 x4 x5 x6 x7 x8):=ae (ae (ae (ae (ae (ae (ae (ae (ae (ae (ae (ae (ae (ae (ae (ae (ae (ae (ae (ae (ae (ae (ae (ae (ae (ae (ae (ae (ae (ae (ae (ae (ae (ae (ae (ae (ae (ae (ae (aC (fun h0=>evRet (by unfold FY qd; try rw [h0]; rfl)) (fun h0=>evObc (evObt (bV (evObt (evObc (evObt (evObc (evObt (bV (evObt (evObc (evObt (evObc (evObt (ae (ae (ae (ae (bV (evObt (evObc (evObt (evObc (evObt (ae (ae (ae (ae (bV (evObt (evObc (evObt (evObc (evObt (ae (ae (ae (ae (ca (ae (evRet (by unfold FY qd; try rw [h0]; rfl)))))))))))))))))))))))))))))))))))))))))))))))))))))))))))))))))))))))))))))))))
def uX:aJ:=mkC [.agg tyT,.agg tp4] (fun _=>True) fun
 | [.agg [.int _ x0,.int _ x1,.int _ x2,.int _ x3,.int _ x4],.agg [.int _ x5,.int _ x6,.int _ x7,.int _ x8]]=>FY x0 x1 x2 x3 x4 x5 x6 x7 x8
 | _=>.any
theorem oM:(vP uX).Ok Tryz.prog 145:=mkE AQ Tryz.func145 (by kernel_rfl) fun ds hp=>rf0 (JK ..) (NL _ _ _ _ _ _ _ _ _)
end
noncomputable section
def rp:aX:=(145,.con uX)::xP
theorem pu:aW Tryz.prog eqs its rp:=.con oM (AQ)
def NK (x0 x1 x2 x3 x4 x5 x6 x7 x8:Int):RT Empty:=.obc (.obt (.brt (.obt (.obc (.obt (.br (bP x0 x1 x2 x3 x4 x5 x6) (.brt (.obt (.obc (.obt (.br (bP x0 x1 x2 x3 x4 x7 x6) (.brt (.obt (.obc (.obt (.br (bP x0 x1 x2 x3 x4 x7 x8) (.brt (.obt (.obc (.obt (.br (bP x0 x1 x2 x3 x4 x5 x8) (.brf (.brt (.ret (vi 2)))) (.brf (.brf (.brt (.ret (vi 1)))))))))) (.brt (.obt (.obc (.obt (.br (bP x0 x1 x2 x3 x4 x5 x8) (.brf (.brf (.brt (.ret (vi 1))))) (.brf (.brf (.brt (.ret (vi 1))))))))))))))) (.brt (.obt (.obc (.obt (.br (bP x0 x1 x2 x3 x4 x7 x8) (.brt (.obt (.obc (.obt (.br (bP x0 x1 x2 x3 x4 x5 x8) (.brf (.brf (.brt (.ret (vi 1))))) (.brf (.brf (.brt (.ret (vi 1)))))))))) (.brt (.obt (.obc (.obt (.br (bP x0 x1 x2 x3 x4 x5 x8) (.brf (.brf (.brt (.ret (vi 1))))) (.brf (.brf (.brt (.ret (vi 1)))))))))))))))))))) (.brt (.obt (.obc (.obt (.br (bP x0 x1 x2 x3 x4 x7 x6) (.brt (.obt (.obc (.obt (.br (bP x0 x1 x2 x3 x4 x7 x8) (.brt (.obt (.obc (.obt (.br (bP x0 x1 x2 x3 x4 x5 x8) (.brf (.brf (.brt (.ret (vi 1))))) (.brf (.brf (.brt (.ret (vi 1)))))))))) (.brt (.obt (.obc (.obt (.br (bP x0 x1 x2 x3 x4 x5 x8) (.brf (.brf (.brt (.ret (vi 1))))) (.brf (.brf (.brt (.ret (vi 1))))))))))))))) (.brt (.obt (.obc (.obt (.br (bP x0 x1 x2 x3 x4 x7 x8) (.brt (.obt (.obc (.obt (.br (bP x0 x1 x2 x3 x4 x5 x8) (.brf (.brf (.brt (.ret (vi 1))))) (.brf (.brf (.brt (.ret (vi 1)))))))))) (.brt (.obt (.obc (.obt (.br (bP x0 x1 x2 x3 x4 x5 x8) (.brf (.brf (.brt (.ret (vi 1))))) (.brf (.brf (.brf (.brt (.obt (.obc (.obt (.br (decide (cP (max (max (i64.wrap (i64.wrap (2 * x5) - x0)) 0) (i64.wrap (x0 - i64.wrap (2 * x7)))) (max (max (i64.wrap (i64.wrap (2 * x6) - x1)) 0) (i64.wrap (x1 - i64.wrap (2 * x8)))) (max (max (i64.wrap (i64.wrap (2 * x5) - x0)) 0) (i64.wrap (x0 - i64.wrap (2 * x7)))) (max (max (i64.wrap (i64.wrap (2 * x6) - x1)) 0) (i64.wrap (x1 - i64.wrap (2 * x8))))<=i64.wrap (x4 * x4))) (.ret (vi 1)) (.brt (.obt (.obc (.obt (.br (decide (cP (max (max (i64.wrap (i64.wrap (2 * x5) - x2)) 0) (i64.wrap (x2 - i64.wrap (2 * x7)))) (max (max (i64.wrap (i64.wrap (2 * x6) - x3)) 0) (i64.wrap (x3 - i64.wrap (2 * x8)))) (max (max (i64.wrap (i64.wrap (2 * x5) - x2)) 0) (i64.wrap (x2 - i64.wrap (2 * x7)))) (max (max (i64.wrap (i64.wrap (2 * x6) - x3)) 0) (i64.wrap (x3 - i64.wrap (2 * x8))))<=i64.wrap (x4 * x4))) (.ret (vi 1)) (.brf (.obc (.obt (.br (qd x0 x1 x2 x3 x5 x6 x7 x8) (.ret (vi 1)) (.ret (vi 0))))))))))))))))))))))))))))))))))))))))
theorem IT (x0 x1 x2 x3 x4 x5 x6 x7 x8:Int):Fit noD (aZ JJ rp u5 PM [V.agg [vi x0,vi x1,vi x2,vi x3,vi x4],V.agg [vi x5,vi x6,vi x7,vi x8]]) (NK x0 x1 x2 x3 x4 x5 x6 x7 x8):=⟨by kernel_rfl,by kernel_rfl⟩
def cJ (x0 x1 x2 x3 x4 x5 x6 x7 x8:Int):Int:=bif bP x0 x1 x2 x3 x4 x5 x6 then bif bP x0 x1 x2 x3 x4 x7 x6 then bif bP x0 x1 x2 x3 x4 x7 x8 then bif bP x0 x1 x2 x3 x4 x5 x8 then 2 else 1 else 1 else 1 else bif bP x0 x1 x2 x3 x4 x7 x6 then 1 else bif bP x0 x1 x2 x3 x4 x7 x8 then 1 else bif bP x0 x1 x2 x3 x4 x5 x8 then 1 else bif decide (cP (max (max (i64.wrap (i64.wrap (2 * x5) - x0)) 0) (i64.wrap (x0 - i64.wrap (2 * x7)))) (max (max (i64.wrap (i64.wrap (2 * x6) - x1)) 0) (i64.wrap (x1 - i64.wrap (2 * x8)))) (max (max (i64.wrap (i64.wrap (2 * x5) - x0)) 0) (i64.wrap (x0 - i64.wrap (2 * x7)))) (max (max (i64.wrap (i64.wrap (2 * x6) - x1)) 0) (i64.wrap (x1 - i64.wrap (2 * x8))))<=i64.wrap (x4 * x4)) then 1 else bif decide (cP (max (max (i64.wrap (i64.wrap (2 * x5) - x2)) 0) (i64.wrap (x2 - i64.wrap (2 * x7)))) (max (max (i64.wrap (i64.wrap (2 * x6) - x3)) 0) (i64.wrap (x3 - i64.wrap (2 * x8)))) (max (max (i64.wrap (i64.wrap (2 * x5) - x2)) 0) (i64.wrap (x2 - i64.wrap (2 * x7)))) (max (max (i64.wrap (i64.wrap (2 * x6) - x3)) 0) (i64.wrap (x3 - i64.wrap (2 * x8))))<=i64.wrap (x4 * x4)) then 1 else bif qd x0 x1 x2 x3 x5 x6 x7 x8 then 1 else 0
def gX (x0 x1 x2 x3 x4 x5 x6 x7 x8:Int):V:=.int i64 (cJ x0 x1 x2 x3 x4 x5 x6 x7 x8)
theorem M6 (x0 x1 x2 x3 x4 x5 x6 x7 x8:Int):evR noE (NK x0 x1 x2 x3 x4 x5 x6 x7 x8) (gX x0 x1 x2 x3 x4 x5 x6 x7 x8):=evObc (evObt (bV (evObt (evObc (evObt (aC (fun h0=>bV (evObt (evObc (evObt (aC (fun h1=>bV (evObt (evObc (evObt (aC (fun h2=>bV (evObt (evObc (evObt (aC (fun h3=>ca (bV (evRet (by unfold gX cJ; try rw [h0]; try rw [h1]; try rw [h2]; try rw [h3]; rfl)))) (fun h3=>ca (ca (bV (evRet (by unfold gX cJ; try rw [h0]; try rw [h1]; try rw [h2]; try rw [h3]; rfl)))))))))) (fun h2=>bV (evObt (evObc (evObt (aC (fun h3=>ca (ca (bV (evRet (by unfold gX cJ; try rw [h0]; try rw [h1]; try rw [h2]; try rw [h3]; rfl))))) (fun h3=>ca (ca (bV (evRet (by unfold gX cJ; try rw [h0]; try rw [h1]; try rw [h2]; try rw [h3]; rfl))))))))))))))) (fun h1=>bV (evObt (evObc (evObt (aC (fun h2=>bV (evObt (evObc (evObt (aC (fun h3=>ca (ca (bV (evRet (by unfold gX cJ; try rw [h0]; try rw [h1]; try rw [h2]; try rw [h3]; rfl))))) (fun h3=>ca (ca (bV (evRet (by unfold gX cJ; try rw [h0]; try rw [h1]; try rw [h2]; try rw [h3]; rfl)))))))))) (fun h2=>bV (evObt (evObc (evObt (aC (fun h3=>ca (ca (bV (evRet (by unfold gX cJ; try rw [h0]; try rw [h1]; try rw [h2]; try rw [h3]; rfl))))) (fun h3=>ca (ca (bV (evRet (by unfold gX cJ; try rw [h0]; try rw [h1]; try rw [h2]; try rw [h3]; rfl)))))))))))))))))))) (fun h0=>bV (evObt (evObc (evObt (aC (fun h1=>bV (evObt (evObc (evObt (aC (fun h2=>bV (evObt (evObc (evObt (aC (fun h3=>ca (ca (bV (evRet (by unfold gX cJ; try rw [h0]; try rw [h1]; try rw [h2]; try rw [h3]; rfl))))) (fun h3=>ca (ca (bV (evRet (by unfold gX cJ; try rw [h0]; try rw [h1]; try rw [h2]; try rw [h3]; rfl)))))))))) (fun h2=>bV (evObt (evObc (evObt (aC (fun h3=>ca (ca (bV (evRet (by unfold gX cJ; try rw [h0]; try rw [h1]; try rw [h2]; try rw [h3]; rfl))))) (fun h3=>ca (ca (bV (evRet (by unfold gX cJ; try rw [h0]; try rw [h1]; try rw [h2]; try rw [h3]; rfl))))))))))))))) (fun h1=>bV (evObt (evObc (evObt (aC (fun h2=>bV (evObt (evObc (evObt (aC (fun h3=>ca (ca (bV (evRet (by unfold gX cJ; try rw [h0]; try rw [h1]; try rw [h2]; try rw [h3]; rfl))))) (fun h3=>ca (ca (bV (evRet (by unfold gX cJ; try rw [h0]; try rw [h1]; try rw [h2]; try rw [h3]; rfl)))))))))) (fun h2=>bV (evObt (evObc (evObt (aC (fun h3=>ca (ca (bV (evRet (by unfold gX cJ; try rw [h0]; try rw [h1]; try rw [h2]; try rw [h3]; rfl))))) (fun h3=>ca (ca (ca (bV (evObt (evObc (evObt (aC (fun h4=>evRet (by unfold gX cJ; try rw [h0]; try rw [h1]; try rw [h2]; try rw [h3]; try rw [h4]; rfl)) (fun h4=>bV (evObt (evObc (evObt (aC (fun h5=>evRet (by unfold gX cJ; try rw [h0]; try rw [h1]; try rw [h2]; try rw [h3]; try rw [h4]; try rw [h5]; rfl)) (fun h5=>ca (evObc (evObt (aC (fun h6=>evRet (by unfold gX cJ; try rw [h0]; try rw [h1]; try rw [h2]; try rw [h3]; try rw [h4]; try rw [h5]; try rw [h6]; rfl)) (fun h6=>evRet (by unfold gX cJ; try rw [h0]; try rw [h1]; try rw [h2]; try rw [h3]; try rw [h4]; try rw [h5]; try rw [h6]; rfl))))))))))))))))))))))))))))))))))))))))
def tU:aJ:=mkC [.agg tyT,.agg tp4] (fun _=>True) fun
 | [.agg [.int _ x0,.int _ x1,.int _ x2,.int _ x3,.int _ x4],.agg [.int _ x5,.int _ x6,.int _ x7,.int _ x8]]=>gX x0 x1 x2 x3 x4 x5 x6 x7 x8
 | _=>.any
theorem oI:(vP tU).Ok Tryz.prog 111:=mkE pu Tryz.func111 (by kernel_rfl) fun ds hp=>rf0 (IT ..) (M6 _ _ _ _ _ _ _ _ _)
def m56 (x0 x1 x2 x3 x4 x5 x6 x7 x8 x9:Int) (b10:Bool):RT Empty:=.obc (.obt (.ret (V.bool !qZ x2 x3 x4 x5 x6 x7 x8 x9 b10 x0 x1)))
theorem M8 (x0 x1 x2 x3 x4 x5 x6 x7 x8 x9:Int) (b10:Bool):Fit noD (aZ JJ rp u0 s56 [V.agg [vi x0,vi x1],V.pd [vi x2,vi x3,vi x4,vi x5,vi x6,vi x7,vi x8,vi x9,V.bool b10]]) (m56 x0 x1 x2 x3 x4 x5 x6 x7 x8 x9 b10):=⟨by kernel_rfl,by kernel_rfl⟩
def zS (x0 x1 x2 x3 x4 x5 x6 x7 x8 x9:Int) (b10:Bool):Bool:=!qZ x2 x3 x4 x5 x6 x7 x8 x9 b10 x0 x1
def R56 (x0 x1 x2 x3 x4 x5 x6 x7 x8 x9:Int) (b10:Bool):V:=.bool (zS x0 x1 x2 x3 x4 x5 x6 x7 x8 x9 b10)
theorem RK (x0 x1 x2 x3 x4 x5 x6 x7 x8 x9:Int) (b10:Bool):evR noE (m56 x0 x1 x2 x3 x4 x5 x6 x7 x8 x9 b10) (R56 x0 x1 x2 x3 x4 x5 x6 x7 x8 x9 b10):=evObc (evObt (evRet (by unfold R56 zS; rfl)))
def C56:aJ:=mkC [.agg tp2,.pd [.int .i64,.int .i64,.int .i64,.int .i64,.int .i64,.int .i64,.int .i64,.int .i64,.bool]] (fun _=>True) fun
 | [.agg [.int _ x0,.int _ x1],.pd [.int _ x2,.int _ x3,.int _ x4,.int _ x5,.int _ x6,.int _ x7,.int _ x8,.int _ x9,.bool b10]]=>R56 x0 x1 x2 x3 x4 x5 x6 x7 x8 x9 b10
 | _=>.any
theorem vH:(vP C56).Ok Tryz.prog 56:=mkE pu Tryz.func56 (by kernel_rfl) fun ds hp=>rf0 (M8 ..) (RK _ _ _ _ _ _ _ _ _ _ _)
def m47 (x0 x1 x2 x3 x4:Int) (n5:Nat) (f5:FnV) (n7:Nat) (f7:FnV) (n9:Nat) (f9:FnV) (n11:Nat) (f11:FnV) (x13 x14 x15:Int):RT Empty:=.ob (decide (0<=x13/\x13 < (↑n11:Int))) (.obc (.obt (.obc (.obt (.ret (V.bool (qZ (jv1 (f11 x13.toNat)) (jv2 (f11 x13.toNat)) (jv3 (f11 x13.toNat)) (AZ (jv3 (f11 x13.toNat)) x4) (AB (jv3 (f11 x13.toNat)) x3) (zo (jv3 (f11 x13.toNat)) x0) (AM (jv3 (f11 x13.toNat)) x1) (AN (jv3 (f11 x13.toNat)) x2) (AP (jv3 (f11 x13.toNat)) x3) x14 x15)))))))
theorem Nj (x0 x1 x2 x3 x4:Int) (n5:Nat) (f5:FnV) (n7:Nat) (f7:FnV) (n9:Nat) (f9:FnV) (n11:Nat) (f11:FnV) (x13 x14 x15:Int):Fit noD (aZ JJ rp u0 s47 [V.agg [vi x0,vi x1,vi x2,vi x3,vi x4],V.pd [V.sl n5 (elV tyR f5),V.sl n7 (elV tyT f7),V.sl n9 (elV tyF f9),V.sl n11 (elV tyC f11)],V.pd [vi x13],V.pd [vi x14],V.pd [vi x15]]) (m47 x0 x1 x2 x3 x4 n5 f5 n7 f7 n9 f9 n11 f11 x13 x14 x15):=⟨by kernel_rfl,by kernel_rfl⟩
def zU (x0 x1 x2 x3 x4:Int) (f11:FnV) (x13 x14 x15:Int):Bool:=qZ (jv1 (f11 x13.toNat)) (jv2 (f11 x13.toNat)) (jv3 (f11 x13.toNat)) (AZ (jv3 (f11 x13.toNat)) x4) (AB (jv3 (f11 x13.toNat)) x3) (zo (jv3 (f11 x13.toNat)) x0) (AM (jv3 (f11 x13.toNat)) x1) (AN (jv3 (f11 x13.toNat)) x2) (AP (jv3 (f11 x13.toNat)) x3) x14 x15
def R47 (x0 x1 x2 x3 x4:Int) (n5:Nat) (f5:FnV) (n7:Nat) (f7:FnV) (n9:Nat) (f9:FnV) (n11:Nat) (f11:FnV) (x13 x14 x15:Int):V:=.bool (zU x0 x1 x2 x3 x4 f11 x13 x14 x15)
theorem Pb (x0 x1 x2 x3 x4:Int) (n5:Nat) (f5:FnV) (n7:Nat) (f7:FnV) (n9:Nat) (f9:FnV) (n11:Nat) (f11:FnV) (x13 x14 x15:Int) (hp:0<=x13/\x13 < (n11:Int)):evR noE (m47 x0 x1 x2 x3 x4 n5 f5 n7 f7 n9 f9 n11 f11 x13 x14 x15) (R47 x0 x1 x2 x3 x4 n5 f5 n7 f7 n9 f9 n11 f11 x13 x14 x15):=ar (by first | assumption | (exact dqt hp)) (evObc (evObt (evObc (evObt (evRet (by unfold R47 zU; rfl))))))
def C47:aJ:=mkC [.agg tyT,.pd [.sl tyR,.sl tyT,.sl tyF,.sl tyC],.pd tp1,.pd tp1,.pd tp1] (fun
 | [.agg [.int _ x0,.int _ x1,.int _ x2,.int _ x3,.int _ x4],.pd [.sl n5 f5,.sl n7 f7,.sl n9 f9,.sl n11 f11],.pd [.int _ x13],.pd [.int _ x14],.pd [.int _ x15]]=>0<=x13/\x13 < (n11:Int)
 | _=>False) fun
 | [.agg [.int _ x0,.int _ x1,.int _ x2,.int _ x3,.int _ x4],.pd [.sl n5 f5,.sl n7 f7,.sl n9 f9,.sl n11 f11],.pd [.int _ x13],.pd [.int _ x14],.pd [.int _ x15]]=>R47 x0 x1 x2 x3 x4 n5 f5 n7 f7 n9 f9 n11 f11 x13 x14 x15
 | _=>.any
theorem wC:(vP C47).Ok Tryz.prog 47:=mkE pu Tryz.func47 (by kernel_rfl) fun ds hp=>rf0 (Nj ..) (Pb _ _ _ _ _ _ _ _ _ _ _ _ _ _ _ _ hp)
end
end Go.Dx
namespace Go.Dx
open Go.IntKind (i64 u64 u8)
open Go.Sx
section
variable {S:Type} {step:S->RT S}
theorem GA {L:Int->S} {n:Nat} {p:Nat->Bool} {Q:Nat->Prop} {ρ:Rho} (W:Nat->RT S->RT S) (hW:∀ i x r,Q i->evR (Ev step) x r->evR (Ev step) (W i x) r) (hWn:∀ i x,cE (W i x)=cE x) (hn:n<=9223372036854775807) (hQ:∀ i,i < n->Q i)
 (hst:∀ i:Nat,step (L i)=.br (decide ((i:Int) < (n:Int))) (.ob (decide (0<=(i:Int)/\(i:Int) < (n:Int))) (W i (.br (p i) (.ret (.int .i64 i)) (.next ρ (L (i64.wrap ((i:Int)+1))) [])))) (.ret (.int .i64 (-1)))) :
 Ev step (L 0) (.int .i64 (idx n p)) :=
 ru hn p (P:=fun i=>Ev step (L i) (.int .i64 (idx n p))) (fun i hlt hj next=>Ev.of (by rw [hst]; simp only [cE,hWn,Bool.and_self]) (by
  rw [hst]
  refine im hlt (ig hlt (hW i _ _ (hQ i hlt) (aC (fun hb=>evRet ?_) (fun hb=>aL (next hb)))))
  rw [ma hb hlt hj])) (fun hj=>Ev.of (by rw [hst]; simp only [cE,hWn,Bool.and_self]) (by
  rw [hst]
  refine eC (evRet ?_)
  rw [mU hj]))
end
end Go.Dx
namespace Go.Dx
open Go.IntKind (i64 u64 u8)
open Go.Sx
def xu (p:Nat->Int):Nat->Int
 | 0=>0
 | k+1=>max (xu p k) (p k)
section
variable {S:Type} {step:S->RT S}
theorem A6 {L:Int->Nat->Int->S} {n:Nat} {p:Nat->Int} {ρ:Rho} {l:Nat} (hn:n<=9223372036854775807)
 (hst:∀ (i:Nat) (a:Int),i64.wrap ((i:Int)+1)=((i+1:Nat):Int)->step (L i l a)=.br (decide ((i:Int) < i64.wrap ((n:Int) - 1))) (.ob (decide (0<=(i:Int)/\(i:Int) < (n:Int))) (.ob (decide (0<=i64.wrap ((i:Int)+1)/\i64.wrap ((i:Int)+1) < (n:Int))) (.obt (.obt (.obt (.obt (.obc (.obt (.next ρ (L (i64.wrap ((i:Int)+1)) l (max a (p i))) [])))))))) ) (.ret (.int .i64 a))) :
 Ev step (L 0 l 0) (.int .i64 (xu p (n - 1))):=by
 have w0:i64.wrap ((n:Int) - 1)=(n:Int) - 1:=av (by omega) (by omega)
 have key:=bJ (n:=n - 1) (P:=fun i=>Ev step (L i l (xu p i)) (.int .i64 (xu p (n - 1)))) fun i hi ih=>by
  have w1:i64.wrap ((i:Int)+1)=((i+1:Nat):Int):=by rw [av (by omega) (by omega)]; omega
  refine Ev.of (by rw [hst i _ w1]; rfl) ?_
  rw [hst i _ w1]
  by_cases hlt:i < n - 1
  ·refine dT (decide_eq_true (by rw [w0]; omega)) (ar (decide_eq_true (by omega)) (ar (decide_eq_true (by rw [w1]; omega)) (evObt (evObt (evObt (evObt (evObc (evObt (aL ?_)))))))))
   rw [w1]; exact ih hlt
  ·refine dF (decide_eq_false (by rw [w0]; omega)) (evRet ?_)
   have:i=n - 1:=by omega
   subst this; rfl
 exact key 0 (Nat.zero_le _)
theorem B1 {L:Int->Nat->S} {n:Nat} {p:Nat->Bool} {ρ:Rho} {l:Nat} (hn:n<=9223372036854775807)
 (hst:∀ i:Nat,i64.wrap ((i:Int)+1)=((i+1:Nat):Int)->step (L i l)=.br (decide ((i:Int) < i64.wrap ((n:Int) - 1))) (.ob (decide (0<=(i:Int)/\(i:Int) < (n:Int))) (.ob (decide (0<=i64.wrap ((i:Int)+1)/\i64.wrap ((i:Int)+1) < (n:Int))) (.obt (.obt (.obt (.obt (.obc (.obt (.br (p i) (.ret (.kb true)) (.next ρ (L (i64.wrap ((i:Int)+1)) l) []))))))))) ) (.ret (.kb false))) :
 Ev step (L 0 l) (.bool (exB (n - 1) p)):=by
 have w0:i64.wrap ((n:Int) - 1)=(n:Int) - 1:=av (by omega) (by omega)
 have key:=bJ (n:=n - 1) (P:=fun i=>(∀ j,j < i->p j=false)->Ev step (L i l) (.bool (exB (n - 1) p))) fun i hi ih hj=>by
  have w1:i64.wrap ((i:Int)+1)=((i+1:Nat):Int):=by rw [av (by omega) (by omega)]; omega
  refine Ev.of (by rw [hst i w1]; rfl) ?_
  rw [hst i w1]
  by_cases hlt:i < n - 1
  ·refine dT (decide_eq_true (by rw [w0]; omega)) (ar (decide_eq_true (by omega)) (ar (decide_eq_true (by rw [w1]; omega)) (evObt (evObt (evObt (evObt (evObc (evObt (aC (fun hb=>evRet ?_) (fun hb=>aL ?_))))))))))
   ·rw [bz i hlt hb]; rfl
   ·rw [w1]; exact ih hlt fun j h1=>by
     by_cases e:j=i
     ·subst e; exact hb
     ·exact hj j (by omega)
  ·refine dF (decide_eq_false (by rw [w0]; omega)) (evRet ?_)
   have:i=n - 1:=by omega
   subst this
   rw [bG hj]; rfl
 exact key 0 (Nat.zero_le _) fun j hj=>by omega
end
end Go.Dx
namespace Go.Dx
open Go.IntKind (i64 u64 u8)
open Go.Sx
section
variable {S:Type} {step:S->RT S}
theorem y7 {L:Int->S} {n:Nat} {p:Nat->Bool} {ρ:Rho}
 (hst:∀ i:Nat,step (L i)=.asm (true=true->n<=9223372036854775807) (.br (decide (i64.wrap ((i:Int)+1) < (n:Int))) (.obc (.obt (.obp ((0:Int)<=(i:Int)/\i64.wrap ((i:Int)+(1:Int))=(i:Int)+(1:Int)/\(i:Int)+(1:Int) < (n:Int)) (.obt (.br (p i) (.ret (.kb true)) (.next ρ (L (i64.wrap ((i:Int)+1))) [])))))) (.ret (.kb false)))) :
 Ev step (L 0) (.bool (exB (n - 1) p)):=by
 have key:=bJ (n:=n - 1) (P:=fun i=>(∀ j,j < i->p j=false)->Ev step (L i) (.bool (exB (n - 1) p))) fun i hi ih hj=>by
  refine Ev.of (by rw [hst i]; rfl) ?_
  rw [hst i]
  refine bt fun hn=>?_
  have w1:i64.wrap ((i:Int)+1)=((i+1:Nat):Int):=by rw [av (by omega) (by omega)]; omega
  by_cases hlt:i < n - 1
  ·refine dT (decide_eq_true (by rw [w1]; omega)) (evObc (evObt (cD ⟨by omega,by rw [w1]; omega,by omega⟩ (evObt (aC (fun hb=>evRet ?_) (fun hb=>aL ?_))))))
   ·rw [bz i hlt hb]; rfl
   ·rw [w1]; exact ih hlt fun j h1=>by
     by_cases e:j=i
     ·subst e; exact hb
     ·exact hj j (by omega)
  ·refine dF (decide_eq_false (by rw [w1]; omega)) (evRet ?_)
   have:i=n - 1:=by omega
   subst this
   rw [bG hj]; rfl
 exact key 0 (Nat.zero_le _) fun j hj=>by omega
end
end Go.Dx
namespace Go.Dx
open Go.IntKind (i64 u64 u8)
end Go.Dx
namespace Go.Dx
open Go.IntKind (i64 u64 u8)
open Go.Sx Go.Proofs
noncomputable section
def qf:aX:=(111,.con tU)::(56,.con C56)::(47,.con C47)::rp
theorem zQ:aW Tryz.prog eqs its qf:=.con oI (.con vH (.con wC (pu)))
inductive xF where
 | L0 (ia0:Int)
def Ig (n0:Nat) (f0:FnV) (x2 x3 x4 x5 x6 x7 x8 x9:Int) (b10:Bool):xF->Env × List O × Option Ex
 | .L0 ia0=>([(8,vi ia0),(7,vi (↑n0:Int)),(6,V.sl n0 (elV tp2 f0)),(4,vi 0),(0,V.sl n0 (elV tp2 f0)),(1,V.fn 56 [] [V.pd [vi x2,vi x3,vi x4,vi x5,vi x6,vi x7,vi x8,vi x9,V.bool b10]])],[],none)
def MR:xF->JJ
 | .L0 ia0=>(0,[])
def GY (n0:Nat) (f0:FnV) (x2 x3 x4 x5 x6 x7 x8 x9:Int) (b10:Bool):T (bF JJ):=aZ JJ qf u0 Qs [V.sl n0 (elV tp2 f0),V.fn 56 [] [V.pd [vi x2,vi x3,vi x4,vi x5,vi x6,vi x7,vi x8,vi x9,V.bool b10]]]
def AW (n0:Nat) (f0:FnV) (x2 x3 x4 x5 x6 x7 x8 x9:Int) (b10:Bool) (cx:List Cx):Lp JJ:=lpT (atT (GY n0 f0 x2 x3 x4 x5 x6 x7 x8 x9 b10) [])
def Ng (n0:Nat) (f0:FnV) (x2 x3 x4 x5 x6 x7 x8 x9:Int) (b10:Bool):JJ->Lp JJ
 | (0,cx)=>AW n0 f0 x2 x3 x4 x5 x6 x7 x8 x9 b10 cx
 | (_,cx)=>AW n0 f0 x2 x3 x4 x5 x6 x7 x8 x9 b10 cx
def PF (n0:Nat) (f0:FnV) (x2 x3 x4 x5 x6 x7 x8 x9:Int) (b10:Bool):LD JJ xF:=⟨MR,Ng n0 f0 x2 x3 x4 x5 x6 x7 x8 x9 b10,Ig n0 f0 x2 x3 x4 x5 x6 x7 x8 x9 b10⟩
def DO (n0:Nat) (f0:FnV) (x2 x3 x4 x5 x6 x7 x8 x9:Int) (b10:Bool):xF->RT xF
 | .L0 ia0=>.br (decide (ia0 < (↑n0:Int))) (.ob (decide (0<=ia0/\ia0 < (↑n0:Int))) (.obc (.obt (.br (zS (jv0 (f0 ia0.toNat)) (jv1 (f0 ia0.toNat)) x2 x3 x4 x5 x6 x7 x8 x9 b10) (.ret (vi ia0)) (.next [] (xF.L0 (i64.wrap (ia0+1))) []))))) (.ret (vi (-1)))
def I1 (n0:Nat) (f0:FnV) (x2 x3 x4 x5 x6 x7 x8 x9:Int) (b10:Bool):RT xF:=.asm (true=true->n0<=9223372036854775807) (.enter [] (xF.L0 (0)) [])
theorem J4 (n0:Nat) (f0:FnV) (x2 x3 x4 x5 x6 x7 x8 x9:Int) (b10:Bool):ep qf u0 (PF n0 f0 x2 x3 x4 x5 x6 x7 x8 x9 b10) (GY n0 f0 x2 x3 x4 x5 x6 x7 x8 x9 b10) (I1 n0 f0 x2 x3 x4 x5 x6 x7 x8 x9 b10) (DO n0 f0 x2 x3 x4 x5 x6 x7 x8 x9 b10):=⟨⟨by kernel_rfl,by kernel_rfl⟩,fun s=>by cases s <;> exact ⟨by kernel_rfl,by kernel_rfl⟩⟩
def DM (n0:Nat) (f0:FnV) (x2 x3 x4 x5 x6 x7 x8 x9:Int) (b10:Bool):Int  :=idx n0 fun ii=>zS (jv0 (f0 ii)) (jv1 (f0 ii)) x2 x3 x4 x5 x6 x7 x8 x9 b10
theorem GC (n0:Nat) (f0:FnV) (x2 x3 x4 x5 x6 x7 x8 x9:Int) (b10:Bool):evR (Ev (DO n0 f0 x2 x3 x4 x5 x6 x7 x8 x9 b10)) (I1 n0 f0 x2 x3 x4 x5 x6 x7 x8 x9 b10) (.int .i64 (DM n0 f0 x2 x3 x4 x5 x6 x7 x8 x9 b10)):=bt fun hn=>aG (kQ hn fun i=>rfl)
theorem N1 (n0:Nat) (f0:FnV) (x2 x3 x4 x5 x6 x7 x8 x9:Int) (b10:Bool):evR (Ev (DO n0 f0 x2 x3 x4 x5 x6 x7 x8 x9 b10)) (I1 n0 f0 x2 x3 x4 x5 x6 x7 x8 x9 b10) (.int .i64 (DM n0 (elV tp2 f0) x2 x3 x4 x5 x6 x7 x8 x9 b10)):=GC n0 f0 x2 x3 x4 x5 x6 x7 x8 x9 b10
def xI:aJ:=mkC [.sl tp2,.fn 56 [] [.pd [.int .i64,.int .i64,.int .i64,.int .i64,.int .i64,.int .i64,.int .i64,.int .i64,.bool]]] (fun _=>True) fun
 | [.sl n0 f0,.fn _ [] [.pd [.int _ x2,.int _ x3,.int _ x4,.int _ x5,.int _ x6,.int _ x7,.int _ x8,.int _ x9,.bool b10]]]=>.int .i64 (DM n0 f0 x2 x3 x4 x5 x6 x7 x8 x9 b10)
 | _=>.any
theorem qC:(vP xI).Ok Tryz.prog 108:=mkE zQ Tryz.func108 (by kernel_rfl) fun ds hp=>rfs (J4 ..) (N1 _ _ _ _ _ _ _ _ _ _ _)
inductive S46 where
 | L0 (ia0:Int)
def Ms (n0:Nat) (f0:FnV) (n2:Nat) (f2:FnV) (n4:Nat) (f4:FnV) (n6:Nat) (f6:FnV) (n8:Nat) (f8:FnV) (x10 x11 x12:Int):S46->Env × List O × Option Ex
 | .L0 ia0=>([(8,vi ia0),(7,vi (↑n0:Int)),(6,V.sl n0 (elV tyT f0)),(4,vi 0),(0,V.sl n0 (elV tyT f0)),(1,V.fn 47 [] [V.pd [V.sl n2 (elV tyR f2),V.sl n4 (elV tyT f4),V.sl n6 (elV tyF f6),V.sl n8 (elV tyC f8)],V.pd [vi x10],V.pd [vi x11],V.pd [vi x12]])],[],none)
def OS:S46->JJ
 | .L0 ia0=>(0,[])
def Nw (n0:Nat) (f0:FnV) (n2:Nat) (f2:FnV) (n4:Nat) (f4:FnV) (n6:Nat) (f6:FnV) (n8:Nat) (f8:FnV) (x10 x11 x12:Int):T (bF JJ):=aZ JJ qf u0 s46 [V.sl n0 (elV tyT f0),V.fn 47 [] [V.pd [V.sl n2 (elV tyR f2),V.sl n4 (elV tyT f4),V.sl n6 (elV tyF f6),V.sl n8 (elV tyC f8)],V.pd [vi x10],V.pd [vi x11],V.pd [vi x12]]]
def E4 (n0:Nat) (f0:FnV) (n2:Nat) (f2:FnV) (n4:Nat) (f4:FnV) (n6:Nat) (f6:FnV) (n8:Nat) (f8:FnV) (x10 x11 x12:Int) (cx:List Cx):Lp JJ:=lpT (atT (Nw n0 f0 n2 f2 n4 f4 n6 f6 n8 f8 x10 x11 x12) [])
def O2 (n0:Nat) (f0:FnV) (n2:Nat) (f2:FnV) (n4:Nat) (f4:FnV) (n6:Nat) (f6:FnV) (n8:Nat) (f8:FnV) (x10 x11 x12:Int):JJ->Lp JJ
 | (0,cx)=>E4 n0 f0 n2 f2 n4 f4 n6 f6 n8 f8 x10 x11 x12 cx
 | (_,cx)=>E4 n0 f0 n2 f2 n4 f4 n6 f6 n8 f8 x10 x11 x12 cx
def D46 (n0:Nat) (f0:FnV) (n2:Nat) (f2:FnV) (n4:Nat) (f4:FnV) (n6:Nat) (f6:FnV) (n8:Nat) (f8:FnV) (x10 x11 x12:Int):LD JJ S46:=⟨OS,O2 n0 f0 n2 f2 n4 f4 n6 f6 n8 f8 x10 x11 x12,Ms n0 f0 n2 f2 n4 f4 n6 f6 n8 f8 x10 x11 x12⟩
def HE (n0:Nat) (f0:FnV) (n2:Nat) (f2:FnV) (n4:Nat) (f4:FnV) (n6:Nat) (f6:FnV) (n8:Nat) (f8:FnV) (x10 x11 x12:Int):S46->RT S46
 | .L0 ia0=>.br (decide (ia0 < (↑n0:Int))) (.ob (decide (0<=ia0/\ia0 < (↑n0:Int))) (.obp ((0:Int)<=x10/\x10 < (↑n8:Int)) (.obt (.br (zU (jv0 (f0 ia0.toNat)) (jv1 (f0 ia0.toNat)) (jv2 (f0 ia0.toNat)) (jv3 (f0 ia0.toNat)) (jv4 (f0 ia0.toNat)) (elV tyC f8) x10 x11 x12) (.ret (vi ia0)) (.next [] (S46.L0 (i64.wrap (ia0+1))) []))))) (.ret (vi (-1)))
def m46 (n0:Nat) (f0:FnV) (n2:Nat) (f2:FnV) (n4:Nat) (f4:FnV) (n6:Nat) (f6:FnV) (n8:Nat) (f8:FnV) (x10 x11 x12:Int):RT S46:=.asm (true=true->n0<=9223372036854775807) (.enter [] (S46.L0 (0)) [])
theorem Nh (n0:Nat) (f0:FnV) (n2:Nat) (f2:FnV) (n4:Nat) (f4:FnV) (n6:Nat) (f6:FnV) (n8:Nat) (f8:FnV) (x10 x11 x12:Int):ep qf u0 (D46 n0 f0 n2 f2 n4 f4 n6 f6 n8 f8 x10 x11 x12) (Nw n0 f0 n2 f2 n4 f4 n6 f6 n8 f8 x10 x11 x12) (m46 n0 f0 n2 f2 n4 f4 n6 f6 n8 f8 x10 x11 x12) (HE n0 f0 n2 f2 n4 f4 n6 f6 n8 f8 x10 x11 x12):=⟨⟨by kernel_rfl,by kernel_rfl⟩,fun s=>by cases s <;> exact ⟨by kernel_rfl,by kernel_rfl⟩⟩
def F46 (n0:Nat) (f0 f8:FnV) (x10 x11 x12:Int):Int  :=idx n0 fun ii=>zU (jv0 (f0 ii)) (jv1 (f0 ii)) (jv2 (f0 ii)) (jv3 (f0 ii)) (jv4 (f0 ii)) (elV tyC f8) x10 x11 x12
theorem I3 (n0:Nat) (f0:FnV) (n2:Nat) (f2:FnV) (n4:Nat) (f4:FnV) (n6:Nat) (f6:FnV) (n8:Nat) (f8:FnV) (x10 x11 x12:Int) (hp:0<=x10/\x10 < (n8:Int)):evR (Ev (HE n0 f0 n2 f2 n4 f4 n6 f6 n8 f8 x10 x11 x12)) (m46 n0 f0 n2 f2 n4 f4 n6 f6 n8 f8 x10 x11 x12) (.int .i64 (F46 n0 f0 f8 x10 x11 x12)):=bt fun hn=>aG (GA (Q:=fun ii=>(0:Int)<=x10/\x10 < (↑n8:Int)) (fun ii x=>.obp ((0:Int)<=x10/\x10 < (↑n8:Int)) (.obt x)) (fun i x r h hx=>cD h (evObt hx)) (fun _ _=>rfl) hn (fun _ _=>hp) fun i=>rfl)
theorem QG (n0:Nat) (f0:FnV) (n2:Nat) (f2:FnV) (n4:Nat) (f4:FnV) (n6:Nat) (f6:FnV) (n8:Nat) (f8:FnV) (x10 x11 x12:Int) (hp:0<=x10/\x10 < (n8:Int)):evR (Ev (HE n0 f0 n2 f2 n4 f4 n6 f6 n8 f8 x10 x11 x12)) (m46 n0 f0 n2 f2 n4 f4 n6 f6 n8 f8 x10 x11 x12) (.int .i64 (F46 n0 (elV tyT f0) (elV tyC f8) x10 x11 x12)):=I3 n0 f0 n2 f2 n4 f4 n6 f6 n8 f8 x10 x11 x12 hp
def C46:aJ:=mkC [.sl tyT,.fn 47 [] [.pd [.sl tyR,.sl tyT,.sl tyF,.sl tyC],.pd tp1,.pd tp1,.pd tp1]] (fun
 | [.sl n0 f0,.fn _ [] [.pd [.sl n2 f2,.sl n4 f4,.sl n6 f6,.sl n8 f8],.pd [.int _ x10],.pd [.int _ x11],.pd [.int _ x12]]]=>0<=x10/\x10 < (n8:Int)
 | _=>False) fun
 | [.sl n0 f0,.fn _ [] [.pd [.sl n2 f2,.sl n4 f4,.sl n6 f6,.sl n8 f8],.pd [.int _ x10],.pd [.int _ x11],.pd [.int _ x12]]]=>.int .i64 (F46 n0 f0 f8 x10 x11 x12)
 | _=>.any
theorem xV:(vP C46).Ok Tryz.prog 46:=mkE zQ Tryz.func46 (by kernel_rfl) fun ds hp=>rfs (Nh ..) (QG _ _ _ _ _ _ _ _ _ _ _ _ _ hp)
end
noncomputable section
def lu:aX:=[(108,.con xI),(46,.con C46),(111,.con tU),(56,.con C56),(47,.con C47),(145,.con uX),(140,.con ur),(49,.con C49),(123,.con ud),(124,.con vz),(50,.con C50),(44,.con C44),(91,.con C91),(24,.con C24),(23,.con C23),(70,.con C70),(62,.con C62),(68,.con C68),(63,.con C63),(69,.con C69),(117,.inl wg u0),(116,.inl wD u0),(115,.con vc),(114,.con vn),(73,.con C73),(147,.con vd),(64,.con C64),(66,.con C66),(113,.con sd),(65,.con C65),(67,.con C67),(53,.con C53),(122,.con rP),(72,.con C72),(45,.con C45),(90,.con C90),(119,.con rG),(121,.con rU),(99,.con C99),(129,.con xN),(148,.con rX),(149,.con su),(112,.con rY),(118,.con rQ),(120,.con sF),(51,.con C51),(133,.con sD),(103,.con sg),(106,.con sk),(100,.con sj),(150,.con rJ),(134,.con rL),(135,.con sB),(137,.con sC),(138,.con rS),(78,.con C78),(54,.con C54),(48,.con C48),(102,.con sw),(84,.con C84),(85,.con C85),(127,.con rR),(101,.con sA),(86,.con C86),(71,.con C71),(93,.con C93),(92,.con C92),(79,.con C79),(136,.con r0),(125,.con sr),(162,.con rZ),(146,.con rT),(83,.inl s83 u0)]
theorem pr:aW Tryz.prog eqs its lu:=.con qC (.con xV (.con oI (.con vH (.con wC (.con oM (.con oV (.con wm (.con o8 (.con oJ (.con wk (.con BU (.con vD (.con vE (.con wp (.con wo (.con wq (.con wJ (.con vT (.con wG (.inl Tryz.func117 (by kernel_rfl) (by kernel_rfl) (by kernel_rfl) (.inl Tryz.func116 (by kernel_rfl) (by kernel_rfl) (by kernel_rfl) (.con oG (.con oF (.con wY (.con o0 (.con wW (.con xx (.con mT (.con tR (.con uO (.con tW (.con mI (.con vw (.con uA (.con yU (.con mC (.con mf (.con uc (.con th (.con mz (.con lW (.con mj (.con mH (.con mF (.con tP (.con mN (.con lL (.con lV (.con mX (.con mn (.con mu (.con lG (.con lJ (.con mJ (.con uD (.con tS (.con vl (.con my (.con tQ (.con uw (.con mP (.con mw (.con uU (.con uZ (.con vt (.con ub (.con vm (.con mD (.con lE (.con lD (.con oZ (.inl Tryz.func83 (by kernel_rfl) (by kernel_rfl) (by kernel_rfl) (.nil)))))))))))))))))))))))))))))))))))))))))))))))))))))))))))))))))))))))))
def m55 (n0:Nat) (f0:FnV) (x2 x3 x4 x5 x6 x7 x8 x9:Int) (b10:Bool):RT Empty:=.obc (.obt (.ret (V.bool (decide (0<=DM n0 (elV tp2 f0) x2 x3 x4 x5 x6 x7 x8 x9 b10)))))
theorem Km (n0:Nat) (f0:FnV) (x2 x3 x4 x5 x6 x7 x8 x9:Int) (b10:Bool):Fit noD (aZ JJ lu u0 s55 [V.sl n0 (elV tp2 f0),V.fn 56 [] [V.pd [vi x2,vi x3,vi x4,vi x5,vi x6,vi x7,vi x8,vi x9,V.bool b10]]]) (m55 n0 f0 x2 x3 x4 x5 x6 x7 x8 x9 b10):=⟨by kernel_rfl,by kernel_rfl⟩
def Ha (n0:Nat) (f0:FnV) (x2 x3 x4 x5 x6 x7 x8 x9:Int) (b10:Bool):Bool:=decide (0<=DM n0 (elV tp2 f0) x2 x3 x4 x5 x6 x7 x8 x9 b10)
def R55 (n0:Nat) (f0:FnV) (x2 x3 x4 x5 x6 x7 x8 x9:Int) (b10:Bool):V:=.bool (Ha n0 f0 x2 x3 x4 x5 x6 x7 x8 x9 b10)
theorem OZ (n0:Nat) (f0:FnV) (x2 x3 x4 x5 x6 x7 x8 x9:Int) (b10:Bool):evR noE (m55 n0 f0 x2 x3 x4 x5 x6 x7 x8 x9 b10) (R55 n0 f0 x2 x3 x4 x5 x6 x7 x8 x9 b10):=evObc (evObt (evRet (by unfold R55 Ha; rfl)))
def C55:aJ:=mkC [.sl tp2,.fn 56 [] [.pd [.int .i64,.int .i64,.int .i64,.int .i64,.int .i64,.int .i64,.int .i64,.int .i64,.bool]]] (fun _=>True) fun
 | [.sl n0 f0,.fn _ [] [.pd [.int _ x2,.int _ x3,.int _ x4,.int _ x5,.int _ x6,.int _ x7,.int _ x8,.int _ x9,.bool b10]]]=>R55 n0 f0 x2 x3 x4 x5 x6 x7 x8 x9 b10
 | _=>.any
theorem yn:(vP C55).Ok Tryz.prog 55:=mkE pr Tryz.func55 (by kernel_rfl) fun ds hp=>rf0 (Km ..) (OZ _ _ _ _ _ _ _ _ _ _ _)
inductive S61 where
 | L0 (ia0:Int) (na1:Nat) (ia2:Int)
def LH (s0:ByteArray) (x1:Int) (n2:Nat) (f2:FnV) (x4 x5 x6 x7 x8:Int):S61->Env × List O × Option Ex
 | .L0 ia0 na1 ia2=>([(10,vi ia0),(9,vi (i64.wrap ((↑n2:Int) - 1))),(8,vi (↑n2:Int)),(7,V.sl n2 (elV tp2 f2)),(6,V.pl 3 2),(0,V.yl na1),(1,V.pl 3 0)],[O.cells [V.str s0,vi x1,V.sl n2 (elV tp2 f2),vi x4] 54,O.cells [vi x5,vi x6,vi x7,vi x8] 29,O.cells [vi ia2] 3,O.cells [V.str s0,vi x1,V.sl n2 (elV tp2 f2),vi x4] 54],none)
def PN:S61->JJ
 | .L0 ia0 na1 ia2=>(0,[Cx.n na1])
def Om (s0:ByteArray) (x1:Int) (n2:Nat) (f2:FnV) (x4 x5 x6 x7 x8:Int):T (bF JJ):=aZ JJ lu u0 s61 [V.agg [V.str s0,vi x1,V.sl n2 (elV tp2 f2),vi x4],V.agg [vi x5,vi x6,vi x7,vi x8]]
def Cu (s0:ByteArray) (x1:Int) (n2:Nat) (f2:FnV) (x4 x5 x6 x7 x8:Int) (cx:List Cx):Lp JJ:=lpT (atT (afT (atT (Om s0 x1 n2 f2 x4 x5 x6 x7 x8) []) (cxn cx 0)) [])
def PP (s0:ByteArray) (x1:Int) (n2:Nat) (f2:FnV) (x4 x5 x6 x7 x8:Int):JJ->Lp JJ
 | (0,cx)=>Cu s0 x1 n2 f2 x4 x5 x6 x7 x8 cx
 | (_,cx)=>Cu s0 x1 n2 f2 x4 x5 x6 x7 x8 cx
def D61 (s0:ByteArray) (x1:Int) (n2:Nat) (f2:FnV) (x4 x5 x6 x7 x8:Int):LD JJ S61:=⟨PN,PP s0 x1 n2 f2 x4 x5 x6 x7 x8,LH s0 x1 n2 f2 x4 x5 x6 x7 x8⟩
def Jy (s0:ByteArray) (x1:Int) (n2:Nat) (f2:FnV) (x4 x5 x6 x7 x8:Int):S61->RT S61
 | .L0 ia0 na1 ia2=>.br (decide (ia0 < i64.wrap ((↑n2:Int) - 1))) (.ob (decide (0<=ia0/\ia0 < (↑n2:Int))) (.ob (decide (0<=i64.wrap (ia0+1)/\i64.wrap (ia0+1) < (↑n2:Int))) (.obt (.obt (.obt (.obt (.obc (.obt (.next (iR 0 4 []) (S61.L0 (i64.wrap (ia0+1)) (na1) (max ia2 (cJ (i64.wrap (2 * jv0 (f2 ia0.toNat))) (i64.wrap (2 * jv1 (f2 ia0.toNat))) (i64.wrap (2 * jv0 (f2 (i64.wrap (ia0+1)).toNat))) (i64.wrap (2 * jv1 (f2 (i64.wrap (ia0+1)).toNat))) x4 x5 x6 x7 x8))) []))))))))) (.ret (vi ia2))
def m61 (s0:ByteArray) (x1:Int) (n2:Nat) (f2:FnV) (x4 x5 x6 x7 x8:Int):RT S61:=.all (fun l_6416=>.asm (true=true->n2<=9223372036854775807) (.enter (iR 0 4 []) (S61.L0 (0) (l_6416) (0)) []))
theorem Kw (s0:ByteArray) (x1:Int) (n2:Nat) (f2:FnV) (x4 x5 x6 x7 x8:Int):ep lu u0 (D61 s0 x1 n2 f2 x4 x5 x6 x7 x8) (Om s0 x1 n2 f2 x4 x5 x6 x7 x8) (m61 s0 x1 n2 f2 x4 x5 x6 x7 x8) (Jy s0 x1 n2 f2 x4 x5 x6 x7 x8):=⟨⟨by kernel_rfl,by kernel_rfl⟩,fun s=>by cases s <;> exact ⟨by kernel_rfl,by kernel_rfl⟩⟩
def p61 (n2:Nat) (f2:FnV) (x4 x5 x6 x7 x8:Int) (ii:Nat):Int:=cJ (i64.wrap (2 * jv0 (f2 ii))) (i64.wrap (2 * jv1 (f2 ii))) (i64.wrap (2 * jv0 (f2 (i64.wrap ((ii:Int)+1)).toNat))) (i64.wrap (2 * jv1 (f2 (i64.wrap ((ii:Int)+1)).toNat))) x4 x5 x6 x7 x8
def F61 (n2:Nat) (f2:FnV) (x4 x5 x6 x7 x8:Int):Int:=xu (p61 n2 f2 x4 x5 x6 x7 x8) (n2 - 1)
theorem Iv (s0:ByteArray) (x1:Int) (n2:Nat) (f2:FnV) (x4 x5 x6 x7 x8:Int):evR (Ev (Jy s0 x1 n2 f2 x4 x5 x6 x7 x8)) (m61 s0 x1 n2 f2 x4 x5 x6 x7 x8) (.int .i64 (F61 n2 f2 x4 x5 x6 x7 x8)):=Cw fun l=>bt fun hn=>aG (A6 hn fun i a _=>rfl)
theorem Rn (s0:ByteArray) (x1:Int) (n2:Nat) (f2:FnV) (x4 x5 x6 x7 x8:Int):evR (Ev (Jy s0 x1 n2 f2 x4 x5 x6 x7 x8)) (m61 s0 x1 n2 f2 x4 x5 x6 x7 x8) (.int .i64 (F61 n2 (elV tp2 f2) x4 x5 x6 x7 x8)):=Iv s0 x1 n2 f2 x4 x5 x6 x7 x8
def C61:aJ:=mkC [.agg tyR,.agg tp4] (fun _=>True) fun
 | [.agg [.str s0,.int _ x1,.sl n2 f2,.int _ x4],.agg [.int _ x5,.int _ x6,.int _ x7,.int _ x8]]=>.int .i64 (F61 n2 f2 x4 x5 x6 x7 x8)
 | _=>.any
theorem yZ:(vP C61).Ok Tryz.prog 61:=mkE pr Tryz.func61 (by kernel_rfl) fun ds hp=>rfs (Kw ..) (Rn _ _ _ _ _ _ _ _ _)
inductive S74 where
 | L0 (ia0:Int) (na1:Nat)
def Ol (s0:ByteArray) (x1:Int) (n2:Nat) (f2:FnV) (x4 x5 x6:Int):S74->Env × List O × Option Ex
 | .L0 ia0 na1=>([(10,vi ia0),(9,vi (i64.wrap ((↑n2:Int) - 1))),(8,vi (↑n2:Int)),(7,V.sl n2 (elV tp2 f2)),(6,V.pl 4 2),(0,V.yl na1),(1,V.pl 4 0)],[O.cells [V.str s0,vi x1,V.sl n2 (elV tp2 f2),vi x4] 54,O.cells [vi x5] 3,O.cells [vi x6] 3,O.cells [V.kb false] 4,O.cells [V.str s0,vi x1,V.sl n2 (elV tp2 f2),vi x4] 54],none)
def OW:S74->JJ
 | .L0 ia0 na1=>(0,[Cx.n na1])
def Nz (s0:ByteArray) (x1:Int) (n2:Nat) (f2:FnV) (x4 x5 x6:Int):T (bF JJ):=aZ JJ lu u0 s74 [V.agg [V.str s0,vi x1,V.sl n2 (elV tp2 f2),vi x4],vi x5,vi x6]
def Cc (s0:ByteArray) (x1:Int) (n2:Nat) (f2:FnV) (x4 x5 x6:Int) (cx:List Cx):Lp JJ:=lpT (atT (afT (atT (Nz s0 x1 n2 f2 x4 x5 x6) []) (cxn cx 0)) [])
def Pd (s0:ByteArray) (x1:Int) (n2:Nat) (f2:FnV) (x4 x5 x6:Int):JJ->Lp JJ
 | (0,cx)=>Cc s0 x1 n2 f2 x4 x5 x6 cx
 | (_,cx)=>Cc s0 x1 n2 f2 x4 x5 x6 cx
def D74 (s0:ByteArray) (x1:Int) (n2:Nat) (f2:FnV) (x4 x5 x6:Int):LD JJ S74:=⟨OW,Pd s0 x1 n2 f2 x4 x5 x6,Ol s0 x1 n2 f2 x4 x5 x6⟩
def IL (s0:ByteArray) (x1:Int) (n2:Nat) (f2:FnV) (x4 x5 x6:Int):S74->RT S74
 | .L0 ia0 na1=>.br (decide (ia0 < i64.wrap ((↑n2:Int) - 1))) (.ob (decide (0<=ia0/\ia0 < (↑n2:Int))) (.ob (decide (0<=i64.wrap (ia0+1)/\i64.wrap (ia0+1) < (↑n2:Int))) (.obt (.obt (.obt (.obt (.obc (.obt (.br (bP (i64.wrap (2 * jv0 (f2 ia0.toNat))) (i64.wrap (2 * jv1 (f2 ia0.toNat))) (i64.wrap (2 * jv0 (f2 (i64.wrap (ia0+1)).toNat))) (i64.wrap (2 * jv1 (f2 (i64.wrap (ia0+1)).toNat))) x4 x5 x6) (.ret (V.kb true)) (.next (iR 0 5 []) (S74.L0 (i64.wrap (ia0+1)) (na1)) [])))))))))) (.ret (V.kb false))
def m74 (s0:ByteArray) (x1:Int) (n2:Nat) (f2:FnV) (x4 x5 x6:Int):RT S74:=.all (fun l_6589=>.asm (true=true->n2<=9223372036854775807) (.enter (iR 0 5 []) (S74.L0 (0) (l_6589)) []))
theorem MM (s0:ByteArray) (x1:Int) (n2:Nat) (f2:FnV) (x4 x5 x6:Int):ep lu u0 (D74 s0 x1 n2 f2 x4 x5 x6) (Nz s0 x1 n2 f2 x4 x5 x6) (m74 s0 x1 n2 f2 x4 x5 x6) (IL s0 x1 n2 f2 x4 x5 x6):=⟨⟨by kernel_rfl,by kernel_rfl⟩,fun s=>by cases s <;> exact ⟨by kernel_rfl,by kernel_rfl⟩⟩
def p74 (n2:Nat) (f2:FnV) (x4 x5 x6:Int) (ii:Nat):Bool:=bP (i64.wrap (2 * jv0 (f2 ii))) (i64.wrap (2 * jv1 (f2 ii))) (i64.wrap (2 * jv0 (f2 (i64.wrap ((ii:Int)+1)).toNat))) (i64.wrap (2 * jv1 (f2 (i64.wrap ((ii:Int)+1)).toNat))) x4 x5 x6
def F74 (n2:Nat) (f2:FnV) (x4 x5 x6:Int):Bool:=exB (n2 - 1) (p74 n2 f2 x4 x5 x6)
theorem Jt (s0:ByteArray) (x1:Int) (n2:Nat) (f2:FnV) (x4 x5 x6:Int):evR (Ev (IL s0 x1 n2 f2 x4 x5 x6)) (m74 s0 x1 n2 f2 x4 x5 x6) (.bool (F74 n2 f2 x4 x5 x6)):=Cw fun l=>bt fun hn=>aG (B1 hn fun i _=>rfl)
theorem Qq (s0:ByteArray) (x1:Int) (n2:Nat) (f2:FnV) (x4 x5 x6:Int):evR (Ev (IL s0 x1 n2 f2 x4 x5 x6)) (m74 s0 x1 n2 f2 x4 x5 x6) (.bool (F74 n2 (elV tp2 f2) x4 x5 x6)):=Jt s0 x1 n2 f2 x4 x5 x6
def C74:aJ:=mkC [.agg tyR,.int .i64,.int .i64] (fun _=>True) fun
 | [.agg [.str s0,.int _ x1,.sl n2 f2,.int _ x4],.int _ x5,.int _ x6]=>.bool (F74 n2 f2 x4 x5 x6)
 | _=>.any
theorem y8:(vP C74).Ok Tryz.prog 74:=mkE pr Tryz.func74 (by kernel_rfl) fun ds hp=>rfs (MM ..) (Qq _ _ _ _ _ _ _)
end
noncomputable section
def vv:aX:=(55,.con C55)::(61,.con C61)::(74,.con C74)::lu
theorem ug:aW Tryz.prog eqs its vv:=.con yn (.con yZ (.con y8 (pr)))
attribute [local irreducible] F44 dD cG
def m22 (n0:Nat) (f0:FnV) (n2:Nat) (f2:FnV) (n4:Nat) (f4:FnV) (n6:Nat) (f6:FnV) (x8 x9 x10 x11 x12:Int):RT Empty:=.asm (true=true->n0<=9223372036854775807) (.obp (((∀ (i:Nat),i < n0->(sv (hdV (f0 i))).size<=(9223372036854775807:Nat))/\∀ (i:Nat),i < n6->(sv (hdV (f6 i))).size<=(9223372036854775807:Nat))/\(0:Nat)=(0:Nat)/\(2:Nat)<=(100:Nat)) (.obt (.br (F44 n0 (elV tyR f0) n2 (elV tyT f2) n4 (elV tyF f4) n6 (elV tyC f6) 2 (elV tp1 (cq [vi x8,vi (↑n0:Int)] 0 1)) != 0) (.ret (V.tup [vi 0,vi (F44 n0 (elV tyR f0) n2 (elV tyT f2) n4 (elV tyF f4) n6 (elV tyC f6) 2 (elV tp1 (cq [vi x8,vi (↑n0:Int)] 0 1)))])) (.obc (.obt (.br (wc x9 x10 x11 x12) (.ret (V.tup [vi 0,vi 7])) (.ob (decide (0<=x8/\x8 < (↑n0:Int))) (.obc (.obt (.ret (V.tup [vi (F61 (ap (hdV (tlV (tlV (f0 x8.toNat))))) (fun i=>ak tp2 (atV (hdV (tlV (tlV (f0 x8.toNat)))) i)) (jv3 (f0 x8.toNat)) x9 x10 x11 x12),vi 0])))))))))))
theorem Mg (n0:Nat) (f0:FnV) (n2:Nat) (f2:FnV) (n4:Nat) (f4:FnV) (n6:Nat) (f6:FnV) (x8 x9 x10 x11 x12:Int):Fit noD (aZ JJ vv u0 s22 [scV n0 f0 n2 f2 n4 f4 n6 f6,vi x8,V.agg [vi x9,vi x10,vi x11,vi x12]]) (m22 n0 f0 n2 f2 n4 f4 n6 f6 x8 x9 x10 x11 x12):=⟨by kernel_rfl,by kernel_rfl⟩
def zP (n0:Nat) (f0:FnV) (n2:Nat) (f2:FnV) (n4:Nat) (f4:FnV) (n6:Nat) (f6:FnV) (x8 x9 x10 x11 x12:Int):Int:=bif F44 n0 (elV tyR f0) n2 (elV tyT f2) n4 (elV tyF f4) n6 (elV tyC f6) 2 (elV tp1 (cq [vi x8,vi (↑n0:Int)] 0 1)) != 0 then 0 else bif wc x9 x10 x11 x12 then 0 else F61 (ap (hdV (tlV (tlV (f0 x8.toNat))))) (fun i=>ak tp2 (atV (hdV (tlV (tlV (f0 x8.toNat)))) i)) (jv3 (f0 x8.toNat)) x9 x10 x11 x12
def zY (n0:Nat) (f0:FnV) (n2:Nat) (f2:FnV) (n4:Nat) (f4:FnV) (n6:Nat) (f6:FnV) (x8 x9 x10 x11 x12:Int):Int:=bif F44 n0 (elV tyR f0) n2 (elV tyT f2) n4 (elV tyF f4) n6 (elV tyC f6) 2 (elV tp1 (cq [vi x8,vi (↑n0:Int)] 0 1)) != 0 then F44 n0 (elV tyR f0) n2 (elV tyT f2) n4 (elV tyF f4) n6 (elV tyC f6) 2 (elV tp1 (cq [vi x8,vi (↑n0:Int)] 0 1)) else bif wc x9 x10 x11 x12 then 7 else 0
def R22 (n0:Nat) (f0:FnV) (n2:Nat) (f2:FnV) (n4:Nat) (f4:FnV) (n6:Nat) (f6:FnV) (x8 x9 x10 x11 x12:Int):V:=.tup [.int i64 (zP n0 f0 n2 f2 n4 f4 n6 f6 x8 x9 x10 x11 x12),.int i64 (zY n0 f0 n2 f2 n4 f4 n6 f6 x8 x9 x10 x11 x12)]
theorem PS (n0:Nat) (f0:FnV) (n2:Nat) (f2:FnV) (n4:Nat) (f4:FnV) (n6:Nat) (f6:FnV) (x8 x9 x10 x11 x12:Int) (hp:bc n0 f0/\bc n6 f6):evR noE (m22 n0 f0 n2 f2 n4 f4 n6 f6 x8 x9 x10 x11 x12) (R22 n0 f0 n2 f2 n4 f4 n6 f6 x8 x9 x10 x11 x12):=bH (fun a0=>cD (by first | assumption | ((first | exact ⟨hp,rfl,by decide⟩ | (simp_all [cond_eq_ite] <;> first | omega | exact (o5 (by assumption) (by assumption) h0).1 | exact (o5 (by assumption) (by assumption) h0).2 | exact jm (by assumption) h0 | exact jm (by assumption) h1 | exact k50 h0 | exact k50 h1 | exact k50 hc.1 | exact jm (by assumption) hc)))) (evObt (aC (fun h0=>evRet (by unfold R22 zP zY; try rw [h0]; rfl)) (fun h0=>evObc (evObt (aC (fun h1=>evRet (by unfold R22 zP zY; try rw [h0]; try rw [h1]; rfl)) (fun h1=>ar (by first | assumption | ((simp_all [cond_eq_ite] <;> first | omega | exact (o5 (by assumption) (by assumption) h0).1 | exact (o5 (by assumption) (by assumption) h0).2 | exact jm (by assumption) h0 | exact jm (by assumption) h1 | exact k50 h0 | exact k50 h1 | exact k50 hc.1 | exact jm (by assumption) hc))) (evObc (evObt (evRet (by unfold R22 zP zY; try rw [h0]; try rw [h1]; rfl)))))))))))
def C22:aJ:=mkC [.agg [.sl tyR,.sl tyT,.sl tyF,.sl tyC],.int .i64,.agg tp4] (fun
 | [.agg [.sl n0 f0,.sl n2 f2,.sl n4 f4,.sl n6 f6],.int _ x8,.agg [.int _ x9,.int _ x10,.int _ x11,.int _ x12]]=>bc n0 f0/\bc n6 f6
 | _=>False) fun
 | [.agg [.sl n0 f0,.sl n2 f2,.sl n4 f4,.sl n6 f6],.int _ x8,.agg [.int _ x9,.int _ x10,.int _ x11,.int _ x12]]=>R22 n0 f0 n2 f2 n4 f4 n6 f6 x8 x9 x10 x11 x12
 | _=>.any
theorem y5:(vP C22).Ok Tryz.prog 22:=mkE ug Tryz.func22 (by kernel_rfl) fun ds hp=>rf0 (Mg ..) (PS _ _ _ _ _ _ _ _ _ _ _ _ _ hp)
def m15 (n0:Nat) (f0:FnV) (n2:Nat) (f2:FnV) (n4:Nat) (f4:FnV) (n6:Nat) (f6:FnV) (x8 x9 x10:Int):RT Empty:=.asm (true=true->n6<=9223372036854775807) (.obp (((∀ (i:Nat),i < n0->(sv (hdV (f0 i))).size<=(9223372036854775807:Nat))/\∀ (i:Nat),i < n6->(sv (hdV (f6 i))).size<=(9223372036854775807:Nat))/\(0:Nat)=(0:Nat)/\(2:Nat)<=(100:Nat)) (.obt (.br (F44 n0 (elV tyR f0) n2 (elV tyT f2) n4 (elV tyF f4) n6 (elV tyC f6) 2 (elV tp1 (cq [vi x8,vi (↑n6:Int)] 0 1)) != 0) (.ret (V.tup [vi 0,vi (F44 n0 (elV tyR f0) n2 (elV tyT f2) n4 (elV tyF f4) n6 (elV tyC f6) 2 (elV tp1 (cq [vi x8,vi (↑n6:Int)] 0 1)))])) (.obc (.obt (.br (eF 2 (elV tp1 (cq [vi x9,vi x10] 0 1))) (.ret (V.tup [vi 0,vi 7])) (.obp ((0:Int)<=x8/\x8 < (↑n6:Int)) (.obt (.ret (V.tup [vi (F46 n2 (elV tyT f2) (elV tyC f6) x8 x9 x10),vi 0]))))))))))
theorem Mh (n0:Nat) (f0:FnV) (n2:Nat) (f2:FnV) (n4:Nat) (f4:FnV) (n6:Nat) (f6:FnV) (x8 x9 x10:Int):Fit noD (aZ JJ vv u0 s15 [scV n0 f0 n2 f2 n4 f4 n6 f6,vi x8,vi x9,vi x10]) (m15 n0 f0 n2 f2 n4 f4 n6 f6 x8 x9 x10):=⟨by kernel_rfl,by kernel_rfl⟩
def zx (n0:Nat) (f0:FnV) (n2:Nat) (f2:FnV) (n4:Nat) (f4:FnV) (n6:Nat) (f6:FnV) (x8 x9 x10:Int):Int:=bif F44 n0 (elV tyR f0) n2 (elV tyT f2) n4 (elV tyF f4) n6 (elV tyC f6) 2 (elV tp1 (cq [vi x8,vi (↑n6:Int)] 0 1)) != 0 then 0 else bif eF 2 (elV tp1 (cq [vi x9,vi x10] 0 1)) then 0 else F46 n2 (elV tyT f2) (elV tyC f6) x8 x9 x10
def Ah (n0:Nat) (f0:FnV) (n2:Nat) (f2:FnV) (n4:Nat) (f4:FnV) (n6:Nat) (f6:FnV) (x8 x9 x10:Int):Int:=bif F44 n0 (elV tyR f0) n2 (elV tyT f2) n4 (elV tyF f4) n6 (elV tyC f6) 2 (elV tp1 (cq [vi x8,vi (↑n6:Int)] 0 1)) != 0 then F44 n0 (elV tyR f0) n2 (elV tyT f2) n4 (elV tyF f4) n6 (elV tyC f6) 2 (elV tp1 (cq [vi x8,vi (↑n6:Int)] 0 1)) else bif eF 2 (elV tp1 (cq [vi x9,vi x10] 0 1)) then 7 else 0
def R15 (n0:Nat) (f0:FnV) (n2:Nat) (f2:FnV) (n4:Nat) (f4:FnV) (n6:Nat) (f6:FnV) (x8 x9 x10:Int):V:=.tup [.int i64 (zx n0 f0 n2 f2 n4 f4 n6 f6 x8 x9 x10),.int i64 (Ah n0 f0 n2 f2 n4 f4 n6 f6 x8 x9 x10)]
theorem O1 (n0:Nat) (f0:FnV) (n2:Nat) (f2:FnV) (n4:Nat) (f4:FnV) (n6:Nat) (f6:FnV) (x8 x9 x10:Int) (hp:bc n0 f0/\bc n6 f6):evR noE (m15 n0 f0 n2 f2 n4 f4 n6 f6 x8 x9 x10) (R15 n0 f0 n2 f2 n4 f4 n6 f6 x8 x9 x10):=bH (fun a0=>cD (by first | assumption | ((first | exact ⟨hp,rfl,by decide⟩ | (simp_all [cond_eq_ite] <;> first | omega | exact (o5 (by assumption) (by assumption) h0).1 | exact (o5 (by assumption) (by assumption) h0).2 | exact jm (by assumption) h0 | exact jm (by assumption) h1 | exact k50 h0 | exact k50 h1 | exact k50 hc.1 | exact jm (by assumption) hc)))) (evObt (aC (fun h0=>evRet (by unfold R15 zx Ah; try rw [h0]; rfl)) (fun h0=>evObc (evObt (aC (fun h1=>evRet (by unfold R15 zx Ah; try rw [h0]; try rw [h1]; rfl)) (fun h1=>cD (by first | assumption | ((first | exact ⟨hp,rfl,by decide⟩ | (simp_all [cond_eq_ite] <;> first | omega | exact (o5 (by assumption) (by assumption) h0).1 | exact (o5 (by assumption) (by assumption) h0).2 | exact jm (by assumption) h0 | exact jm (by assumption) h1 | exact k50 h0 | exact k50 h1 | exact k50 hc.1 | exact jm (by assumption) hc)))) (evObt (evRet (by unfold R15 zx Ah; try rw [h0]; try rw [h1]; rfl))))))))))
def C15:aJ:=mkC [.agg [.sl tyR,.sl tyT,.sl tyF,.sl tyC],.int .i64,.int .i64,.int .i64] (fun
 | [.agg [.sl n0 f0,.sl n2 f2,.sl n4 f4,.sl n6 f6],.int _ x8,.int _ x9,.int _ x10]=>bc n0 f0/\bc n6 f6
 | _=>False) fun
 | [.agg [.sl n0 f0,.sl n2 f2,.sl n4 f4,.sl n6 f6],.int _ x8,.int _ x9,.int _ x10]=>R15 n0 f0 n2 f2 n4 f4 n6 f6 x8 x9 x10
 | _=>.any
theorem xR:(vP C15).Ok Tryz.prog 15:=mkE ug Tryz.func15 (by kernel_rfl) fun ds hp=>rf0 (Mh ..) (O1 _ _ _ _ _ _ _ _ _ _ _ hp)
end
end Go.Dx
namespace Go.Dx
open Go.IntKind (i64 u64 u8)
open Go.Sx Go.Proofs
noncomputable section
end
noncomputable section
def As:aX:=(22,.con C22)::(15,.con C15)::vv
theorem DX:aW Tryz.prog eqs its As:=.con y5 (.con xR (ug))
inductive S75 where
 | L0 (ia0:Int)
def Ly (s0:ByteArray) (x1:Int) (n2:Nat) (f2:FnV) (x4 x5 x6:Int):S75->Env × List O × Option Ex
 | .L0 ia0=>([(7,vi ia0),(6,V.kb false),(3,V.pl 0 0),(0,V.agg [V.str s0,vi x1,V.sl n2 (elV tp2 f2),vi x4]),(1,vi x5),(2,vi x6)],[O.cells [V.str s0,vi x1,V.sl n2 (elV tp2 f2),vi x4] 54],none)
def Q2:S75->JJ
 | .L0 ia0=>(0,[])
def MZ (s0:ByteArray) (x1:Int) (n2:Nat) (f2:FnV) (x4 x5 x6:Int):T (bF JJ):=aZ JJ As u0 s75 [V.agg [V.str s0,vi x1,V.sl n2 (elV tp2 f2),vi x4],vi x5,vi x6]
def B7 (s0:ByteArray) (x1:Int) (n2:Nat) (f2:FnV) (x4 x5 x6:Int) (cx:List Cx):Lp JJ:=lpT (atT (MZ s0 x1 n2 f2 x4 x5 x6) [])
def Ra (s0:ByteArray) (x1:Int) (n2:Nat) (f2:FnV) (x4 x5 x6:Int):JJ->Lp JJ
 | (0,cx)=>B7 s0 x1 n2 f2 x4 x5 x6 cx
 | (_,cx)=>B7 s0 x1 n2 f2 x4 x5 x6 cx
def D75 (s0:ByteArray) (x1:Int) (n2:Nat) (f2:FnV) (x4 x5 x6:Int):LD JJ S75:=⟨Q2,Ra s0 x1 n2 f2 x4 x5 x6,Ly s0 x1 n2 f2 x4 x5 x6⟩
def HV (s0:ByteArray) (x1:Int) (n2:Nat) (f2:FnV) (x4 x5 x6:Int):S75->RT S75
 | .L0 ia0=>.asm (true=true->n2<=9223372036854775807) (.br (decide (i64.wrap (ia0+1) < (↑n2:Int))) (.obc (.obt (.obp ((0:Int)<=ia0/\i64.wrap (ia0+(1:Int))=ia0+(1:Int)/\ia0+(1:Int) < (↑n2:Int)) (.obt (.br (qG (elV tp2 f2) x4 ia0 (fw x5) (fp x6)) (.ret (V.kb true)) (.next [some (some 0)] (S75.L0 (i64.wrap (ia0+1))) [])))))) (.ret (V.kb false)))
def m75 (s0:ByteArray) (x1:Int) (n2:Nat) (f2:FnV) (x4 x5 x6:Int):RT S75:=.enter [some (some 0)] (S75.L0 (0)) []
theorem N8 (s0:ByteArray) (x1:Int) (n2:Nat) (f2:FnV) (x4 x5 x6:Int):ep As u0 (D75 s0 x1 n2 f2 x4 x5 x6) (MZ s0 x1 n2 f2 x4 x5 x6) (m75 s0 x1 n2 f2 x4 x5 x6) (HV s0 x1 n2 f2 x4 x5 x6):=⟨⟨by kernel_rfl,by kernel_rfl⟩,fun s=>by cases s <;> exact ⟨by kernel_rfl,by kernel_rfl⟩⟩
def p75 (n2:Nat) (f2:FnV) (x4 x5 x6:Int) (ii:Nat):Bool:=qG (elV tp2 f2) x4 (ii:Int) (fw x5) (fp x6)
def F75 (n2:Nat) (f2:FnV) (x4 x5 x6:Int):Bool:=exB (n2 - 1) (p75 n2 f2 x4 x5 x6)
theorem Ht (s0:ByteArray) (x1:Int) (n2:Nat) (f2:FnV) (x4 x5 x6:Int):evR (Ev (HV s0 x1 n2 f2 x4 x5 x6)) (m75 s0 x1 n2 f2 x4 x5 x6) (.bool (F75 n2 f2 x4 x5 x6)):=aG (y7 fun i=>rfl)
theorem PH (s0:ByteArray) (x1:Int) (n2:Nat) (f2:FnV) (x4 x5 x6:Int):evR (Ev (HV s0 x1 n2 f2 x4 x5 x6)) (m75 s0 x1 n2 f2 x4 x5 x6) (.bool (F75 n2 (elV tp2 f2) x4 x5 x6)):=Ht s0 x1 n2 f2 x4 x5 x6
def C75:aJ:=mkC [.agg tyR,.int .i64,.int .i64] (fun _=>True) fun
 | [.agg [.str s0,.int _ x1,.sl n2 f2,.int _ x4],.int _ x5,.int _ x6]=>.bool (F75 n2 f2 x4 x5 x6)
 | _=>.any
theorem Bg:(vP C75).Ok Tryz.prog 75:=mkE DX Tryz.func75 (by kernel_rfl) fun ds hp=>rfs (N8 ..) (PH _ _ _ _ _ _ _)
end
noncomputable section
end
noncomputable section
attribute [local irreducible] F44 dD cG
end
end Go.Dx
namespace Go.Dx
open Go.Sx
section
variable {J:Type}
def Dd:V->bF J->bF J
 | .bool b,.res (.kb _)=>.res (.kb b)
 | r,_=>.res r
theorem DA (r:V) (a:bF J):lA r (Dd r a):=by
 unfold Dd; split <;> rfl
def nM (r:V):T (bF J)->T (bF J)
 | .ret a=>.ret (Dd r a)
 | .br b x y=>match b with
   | true=>.br true (nM r x) y
   | false=>.br false x (nM r y)
 | .ob _ x=>.ob true (nM r x)
 | .obi c d x=>match c with
   | true=>.obi true true (nM r x)
   | false=>.obi false d (nM r x)
 | .obp _ x=>.obp True (nM r x)
 | .obq a _ x=>.obq a a (nM r x)
 | .fail _=>.ret (.res r)
 | .loop ..=>.ret (.res r)
 | .all f=>.all fun l=>nM r (f l)
 | .und x y=>.und (nM r x) (nM r y)
 | .asm p x=>.asm p (nM r x)
theorem CC {LP:db} (r:V):∀ t:T (bF J),sat LP (nM r t) (lA r):=by
 intro t
 induction t with
 | ret a=>exact DA r a
 | br b x y hx hy =>
   cases b with
   | true=>exact ⟨fun _=>hx,(fun e=>by cases e)⟩
   | false=>exact ⟨(fun e=>by cases e),fun _=>hy⟩
 | ob b x hx=>exact ⟨rfl,hx⟩
 | obi c d x hx =>
   cases c with
   | true=>exact ⟨fun _=>rfl,hx⟩
   | false=>exact ⟨(fun e=>by cases e),hx⟩
 | obp p x hx=>exact ⟨trivial,hx⟩
 | obq a b x hx=>exact ⟨rfl,hx⟩
 | fail n=>exact (rfl:toA r=toA r)
 | loop fr b e h g k hk=>exact (rfl:toA r=toA r)
 | all f hf=>exact fun l=>hf l
 | und x y hx hy=>exact ⟨hx,hy⟩
 | asm p x hx=>exact fun _=>hx
theorem rC {ct:aX} {un:Unr} {w0:World} {sf:aE} {ds:List V} {r:V} (h:nM r (aZ J ct un sf ds)=aZ J ct un sf ds):sat (bK w0 (SV ct)) (aZ J ct un sf ds) (lA r):=by
 rw [← h]; exact CC r _
end
def Hy (ts:List Ty) (pre:List V->Bool) (r:List V->V):aJ:=fun ds=>cond (pre (kv ts ds)) (some ((gZ ts ds [],hZ ts ds []),True,r (kv ts ds))) none
theorem GP {P:Program} {f:FuncId} {ts:List Ty} {pre:List V->Prop} {preB:List V->Bool} {r:List V->V} (h:∀ ds,preB ds=true->pre ds) (hO:(vP (mkC ts pre r)).Ok P f):(vP (Hy ts preB r)).Ok P f:=by
 refine ⟨fun B m lh w args vs K hrel hargs hsp=>?_,fun _ _ _ _ _ hk ⟨ds,d,p,r,h1,h2,h3,h4,h5⟩=>⟨ds,d,p,r,h1,h2,h3,h4,hk _ _ h5⟩,fun _ _ _ _ ⟨_,_,_,_,_,_,_,_,h⟩=>h⟩
 refine hO.sound B m lh w args vs K hrel hargs ?_
 obtain ⟨ds,d,p,r',h1,h2,⟨h30,h3⟩,h4,h5⟩:=hsp
 unfold Hy at h2
 cases hb:preB (kv ts ds) with
 | false=>rw [hb] at h2; cases h2
 | true =>
   rw [hb] at h2
   simp only [cond_true,Option.some.injEq,Prod.mk.injEq] at h2
   obtain ⟨rfl,rfl,rfl⟩:=h2
   exact ⟨ds,_,_,_,h1,rfl,⟨h30,h _ hb⟩,h4,h5⟩
def eqL (p:V->V->Bool):List V->List V->Bool
 | [],[]=>true
 | v::vs,x::xs=>p v x && eqL p vs xs
 | _,_=>false
def eqD:Nat->V->V->Bool
 | 0,_,_=>false
 | fu+1,v,x=>match v,x with
   | .int k a,.int k' b=>decide (k=k') && decide (a=b)
   | .bool a,.bool b=>a == b
   | .kb a,.bool b=>a == b
   | .str a,.str b=>decide (a.data.toList=b.data.toList)
   | .agg xs,.agg ys=>eqL (eqD fu) xs ys
   | .sl n f,.sl m g=>Nat.beq n m && iL n fun i=>eqL (eqD fu) (f i) (g i) && (g i).all V.fc
   | .sq n _ f,.sl m g=>Nat.beq n m && iL n fun i=>eqL (eqD fu) (f i) (g i) && (g i).all V.fc
   | _,_=>false
theorem qj {w0:World} {lh:List ac} {p:V->V->Bool} (hp:∀ v x a,p v x=true->vr w0 lh Nu.nil v a->vr w0 lh Nu.nil x a):∀ (vs xs:List V) (qs:List ab),eqL p vs xs=true->vrs w0 lh Nu.nil vs qs->vrs w0 lh Nu.nil xs qs
 | [],[],qs,_,h=>h
 | v::vs,x::xs,qs,h,h1=>by
   simp only [eqL,Bool.and_eq_true] at h
   simp only [vrs] at h1 ⊢
   obtain ⟨y,ys,rfl,h2,h3⟩:=h1
   exact ⟨y,ys,rfl,hp _ _ _ h.1 h2,qj hp vs xs ys h.2 h3⟩
 | [],_::_,_,h,_=>by simp [eqL] at h
 | _::_,[],_,h,_=>by simp [eqL] at h
theorem uu {w0:World} {lh:List ac}:∀ (fu:Nat) (v x:V) (a:ab),eqD fu v x=true->vr w0 lh Nu.nil v a->vr w0 lh Nu.nil x a
 | 0,v,x,a,h,_=>by simp [eqD] at h
 | fu+1,v,x,a,h,hv=>by
   simp only [eqD] at h
   split at h
   ·simp only [Bool.and_eq_true,decide_eq_true_eq] at h; obtain ⟨rfl,rfl⟩:=h; exact hv
   ·have:=eq_of_beq h; subst this; exact hv
   ·have:=eq_of_beq h; subst this; simp only [vr] at hv ⊢; exact hv
   ·rename_i s t
    have h0:=of_decide_eq_true h
    have:s=t:=by
     cases s with | mk d =>
     cases t with | mk e =>
     have:d=e:=Array.toList_inj.1 h0
     rw [this]
    subst this; exact hv
   ·simp only [vr] at hv ⊢
    obtain ⟨qs,rfl,h2⟩:=hv
    exact ⟨qs,rfl,qj (fun v x a=>uu fu v x a) _ _ _ h h2⟩
   ·simp only [Bool.and_eq_true] at h
    have hn:=Nat.eq_of_beq_eq_true h.1
    subst hn
    simp only [vr] at hv ⊢
    obtain ⟨p,c,esz,h1,h2,h3,h4,h5⟩:=hv
    refine ⟨p,c,esz,h1,h2,h3,h4,fun i hi=>?_⟩
    obtain ⟨q,qs,g1,g2,g3,g4⟩:=h5 i hi
    have hh:=fH h.2 i hi
    simp only [Bool.and_eq_true] at hh
    exact ⟨q,qs,g1,g2,qj (fun v x a=>uu fu v x a) _ _ _ hh.1 g3,hh.2⟩
   ·simp only [Bool.and_eq_true] at h
    have hn:=Nat.eq_of_beq_eq_true h.1
    subst hn
    simp only [vr] at hv ⊢
    obtain ⟨p,c,esz,h1,h2,h3,h4,h5⟩:=hv
    refine ⟨p,c,esz,h1,h2.1,h3,h4,fun i hi=>?_⟩
    obtain ⟨q,qs,g1,g2,g3,g4⟩:=h5 i hi
    have hh:=fH h.2 i hi
    simp only [Bool.and_eq_true] at hh
    exact ⟨q,qs,g1,g2,qj (fun v x a=>uu fu v x a) _ _ _ hh.1 g3,hh.2⟩
   ·cases h
def atC:List (List V × V)->aJ
 | [],_=>none
 | (ex,r)::l,ds=>cond (eqL (eqD 8) ds ex) (some (([],[]),True,r)) (atC l ds)
theorem uT {P:Program} {f:FuncId} {C:aJ} (hO:(vP C).Ok P f):∀ (l:List (List V × V)),(∀ e ∈ l,∃ d p,C e.1=some (d,p,e.2)/\d.1=d.2/\p)->(vP (atC l)).Ok P f:=by
 intro l hl
 refine ⟨fun B m lh w args vs K hrel hargs hsp=>?_,fun _ _ _ _ _ hk ⟨ds,d,p,r,h1,h2,h3,h4,h5⟩=>⟨ds,d,p,r,h1,h2,h3,h4,hk _ _ h5⟩,fun _ _ _ _ ⟨_,_,_,_,_,_,_,_,h⟩=>h⟩
 refine hO.sound B m lh w args vs K hrel hargs ?_
 obtain ⟨ds,d,p,r',h1,h2,_,h4,h5⟩:=hsp
 induction l with
 | nil=>simp [atC] at h2
 | cons e l ih =>
   simp only [atC] at h2
   cases hb:eqL (eqD 8) ds e.1 with
   | true =>
     rw [hb] at h2
     simp only [cond_true,Option.some.injEq,Prod.mk.injEq] at h2
     obtain ⟨_,_,rfl⟩:=h2
     obtain ⟨d',p',e1,e2,e3⟩:=hl e (List.mem_cons_self ..)
     exact ⟨e.1,d',p',_,qj (fun v x a=>uu 8 v x a) _ _ _ hb h1,e1,⟨e2,e3⟩,h4,h5⟩
   | false =>
     rw [hb] at h2
     exact ih (fun e he=>hl e (List.mem_cons_of_mem _ he)) h2
end Go.Dx
namespace Go.Dx
open Go.Sx
theorem at1 {ts:List Ty} {pre:List V->Prop} {r:List V->V} {raw:List V} {res:V} (hp:pre (kv ts (ak ts raw))) (hr:r (kv ts (ak ts raw))=res):∃ d p,mkC ts pre r (ak ts raw)=some (d,p,res)/\d.1=d.2/\p :=
 ⟨_,_,by rw [mkC,hr],dP ts raw [],hp⟩
theorem Ga {α:Type} {a:α} {l:List α} {Q:α->Prop} (h:Q a) (hl:∀ e ∈ l,Q e):∀ e ∈ a::l,Q e:=fun e he=>by
 rcases List.mem_cons.1 he with rfl | he
 ·exact h
 ·exact hl e he
theorem GI {α:Type} {Q:α->Prop}:∀ e ∈ ([]:List α),Q e:=fun e he=>by cases he
end Go.Dx
namespace Go.Dx
open Go.IntKind (i64 u64 u8)
open Go.Sx Go.Proofs
noncomputable section
def uB:Unr:=fun _=>1000
def szB (n:Nat) (f:Nat->List V):Bool:=iL n fun i=>Nat.ble (sv (hdV (f i))).size 9223372036854775807
theorem jJ {n:Nat} {f:Nat->List V} (h:szB n f=true):bc n f:=fun i hi=>Nat.le_of_ble_eq_true (fH h i hi)
def QR:ByteArray:=⟨#[104,105,103,104]⟩
def PO:ByteArray:=⟨#[122,101,98,114,97]⟩
def Pg:ByteArray:=⟨#[99,49]⟩
def exR:Nat->List V
 | 0=>[.str QR,vi 0,.sl 3 (fun | 0=>[vi 0,vi 0] | 1=>[vi 10000,vi 0] | _=>[vi 10000,vi 10000]),vi 4000]
 | _=>[.str PO,vi 3,.sl 2 (fun | 0=>[vi 5000,vi (-2000)] | _=>[vi 5000,vi 2000]),vi 3000]
def exT:Nat->List V:=fun _=>[vi 4000,vi 3000,vi 1000,vi 20,vi 40]
def exF:Nat->List V:=fun _=>[vi 10000,vi 5000,vi 0,vi 5000,.sl 1 fun _=>[vi 250,vi 750,vi 10,vi 30]]
def exK:Nat->List V:=fun _=>[.str Pg,vi 4000,vi 4000,vi 60,vi 0,vi (-1)]
def exS:V:=.agg [.sl 2 exR,.sl 1 exT,.sl 1 exF,.sl 1 exK]
def Lk:List Ty:=[.agg [.sl tyR,.sl tyT,.sl tyF,.sl tyC],.sl tp1]
def Ko:aJ:=atC [(ak Lk [exS,.sl 2 (fun | 0=>[vi 0] | _=>[vi 1])],vi 0)]
theorem Kk:(vP Ko).Ok Tryz.prog 44:=uT BU _ (Ga (at1 (ts:=Lk) (raw:=[exS,.sl 2 (fun | 0=>[vi 0] | _=>[vi 1])]) (⟨⟨jJ (by kernel_rfl),jJ (by kernel_rfl)⟩,rfl,by decide⟩) (by kernel_rfl)) (GI))
def NR:List Ty:=[.agg [.sl tyR,.sl tyT,.sl tyF,.sl tyC]]
def K8:aJ:=atC [(ak NR [.agg [.sl 0 exR,.sl 1 (fun _=>[vi 0,vi 0,vi 0,vi 0,vi 0]),.sl 0 exF,.sl 0 exK]],.tup [vi 2,vi 0,vi 7])]
theorem Nb:(vP K8).Ok Tryz.prog 23:=uT wp _ (Ga (at1 (ts:=NR) (raw:=[.agg [.sl 0 exR,.sl 1 (fun _=>[vi 0,vi 0,vi 0,vi 0,vi 0]),.sl 0 exF,.sl 0 exK]]) (⟨jJ (by kernel_rfl),jJ (by kernel_rfl)⟩) (by kernel_rfl)) (GI))
def Mc:List Ty:=[.agg [.sl tyR,.sl tyT,.sl tyF,.sl tyC],.int .i64,.agg tp4]
def Nl:aJ:=atC [(ak Mc [exS,vi 0,.agg [vi 8500,vi (-1500),vi 11500,vi 1500]],.tup [vi 1,vi 0])]
theorem OA:(vP Nl).Ok Tryz.prog 22:=uT y5 _ (Ga (at1 (ts:=Mc) (raw:=[exS,vi 0,.agg [vi 8500,vi (-1500),vi 11500,vi 1500]]) (⟨jJ (by kernel_rfl),jJ (by kernel_rfl)⟩) (by kernel_rfl)) (GI))
def OE:List Ty:=[.agg [.sl tyR,.sl tyT,.sl tyF,.sl tyC],.int .i64,.int .i64,.int .i64]
def LO:aJ:=atC [(ak OE [exS,vi 0,vi 4000,vi 5000],.tup [vi (-1),vi 0])]
theorem M4:(vP LO).Ok Tryz.prog 15:=uT xR _ (Ga (at1 (ts:=OE) (raw:=[exS,vi 0,vi 4000,vi 5000]) (⟨jJ (by kernel_rfl),jJ (by kernel_rfl)⟩) (by kernel_rfl)) (GI))
end
noncomputable section
def Do:aX:=[(44,.con Ko),(23,.con K8),(22,.con Nl),(15,.con LO),(55,.con C55),(61,.con C61),(74,.con C74),(108,.con xI),(46,.con C46),(111,.con tU),(56,.con C56),(47,.con C47),(145,.con uX),(140,.con ur),(49,.con C49),(123,.con ud),(124,.con vz),(50,.con C50),(91,.con C91),(24,.con C24),(70,.con C70),(62,.con C62),(68,.con C68),(63,.con C63),(69,.con C69),(117,.inl wg u0),(116,.inl wD u0),(115,.con vc),(114,.con vn),(73,.con C73),(147,.con vd),(64,.con C64),(66,.con C66),(113,.con sd),(65,.con C65),(67,.con C67),(53,.con C53),(122,.con rP),(72,.con C72),(45,.con C45),(90,.con C90),(119,.con rG),(121,.con rU),(99,.con C99),(129,.con xN),(148,.con rX),(149,.con su),(112,.con rY),(118,.con rQ),(120,.con sF),(51,.con C51),(133,.con sD),(103,.con sg),(106,.con sk),(100,.con sj),(150,.con rJ),(134,.con rL),(135,.con sB),(137,.con sC),(138,.con rS),(78,.con C78),(54,.con C54),(48,.con C48),(102,.con sw),(84,.con C84),(85,.con C85),(127,.con rR),(101,.con sA),(86,.con C86),(71,.con C71),(93,.con C93),(92,.con C92),(79,.con C79),(136,.con r0),(125,.con sr),(162,.con rZ),(146,.con rT),(83,.inl s83 u0),(19,.inl s19 uB),(17,.inl s17 uB),(43,.inl s43 uB),(57,.inl s57 uB),(109,.inl Rg uB),(139,.inl QM uB),(163,.inl RC uB),(177,.inl Pz uB),(141,.inl RG uB),(142,.inl OU uB),(143,.inl O7 uB),(131,.inl Fx uB),(161,.inl HO uB)]
theorem IX:aW Tryz.prog eqs its Do:=.con Kk (.con Nb (.con OA (.con M4 (.con yn (.con yZ (.con y8 (.con qC (.con xV (.con oI (.con vH (.con wC (.con oM (.con oV (.con wm (.con o8 (.con oJ (.con wk (.con vD (.con vE (.con wo (.con wq (.con wJ (.con vT (.con wG (.inl Tryz.func117 (by kernel_rfl) (by kernel_rfl) (by kernel_rfl) (.inl Tryz.func116 (by kernel_rfl) (by kernel_rfl) (by kernel_rfl) (.con oG (.con oF (.con wY (.con o0 (.con wW (.con xx (.con mT (.con tR (.con uO (.con tW (.con mI (.con vw (.con uA (.con yU (.con mC (.con mf (.con uc (.con th (.con mz (.con lW (.con mj (.con mH (.con mF (.con tP (.con mN (.con lL (.con lV (.con mX (.con mn (.con mu (.con lG (.con lJ (.con mJ (.con uD (.con tS (.con vl (.con my (.con tQ (.con uw (.con mP (.con mw (.con uU (.con uZ (.con vt (.con ub (.con vm (.con mD (.con lE (.con lD (.con oZ (.inl Tryz.func83 (by kernel_rfl) (by kernel_rfl) (by kernel_rfl) (.inl Tryz.func19 (by kernel_rfl) (by kernel_rfl) (by kernel_rfl) (.inl Tryz.func17 (by kernel_rfl) (by kernel_rfl) (by kernel_rfl) (.inl Tryz.func43 (by kernel_rfl) (by kernel_rfl) (by kernel_rfl) (.inl Tryz.func57 (by kernel_rfl) (by kernel_rfl) (by kernel_rfl) (.inl Tryz.func109 (by kernel_rfl) (by kernel_rfl) (by kernel_rfl) (.inl Tryz.func139 (by kernel_rfl) (by kernel_rfl) (by kernel_rfl) (.inl Tryz.func163 (by kernel_rfl) (by kernel_rfl) (by kernel_rfl) (.inl Tryz.func177 (by kernel_rfl) (by kernel_rfl) (by kernel_rfl) (.inl Tryz.func141 (by kernel_rfl) (by kernel_rfl) (by kernel_rfl) (.inl Tryz.func142 (by kernel_rfl) (by kernel_rfl) (by kernel_rfl) (.inl Tryz.func143 (by kernel_rfl) (by kernel_rfl) (by kernel_rfl) (.inl Tryz.func131 (by kernel_rfl) (by kernel_rfl) (by kernel_rfl) (.inl Tryz.func161 (by kernel_rfl) (by kernel_rfl) (by kernel_rfl) (.nil)))))))))))))))))))))))))))))))))))))))))))))))))))))))))))))))))))))))))))))))))))))))))))
theorem MW (w0:World):sat (bK w0 (SV Do)) (aZ (JJ) Do uB s19 []) (lA (.bool true)):=rC (by kernel_rfl)
def C19:aJ:=mkC [] (fun _=>True) fun _=>.bool true
theorem qc:(vP C19).Ok Tryz.prog 19:=y6 (J:=JJ) (un:=uB) IX hE hI Tryz.func19 (by kernel_rfl) (by kernel_rfl) (by kernel_rfl) rfl (fun w0 ds hp=>MW w0)
end
end Go.Dx
namespace Go.Dx
open Go.IntKind (i64 u64 u8)
open Go.Sx
noncomputable section
theorem eS {x:Int} (h1:0<=x) (h2:x < 18446744073709551616):u64.wrap x=x:=IntWalk.u64_in _ (by omega)
theorem mW {x y A B:Int} (h1:-A<=x) (h2:x<=A) (h3:-B<=y) (h4:y<=B):-(A * B)<=x * y/\x * y<=A * B:=by
 have hA:0<=A:=by omega
 have hB:0<=B:=by omega
 by_cases hy:0<=y
 ·have a1:x * y<=A * y:=Int.mul_le_mul_of_nonneg_right h2 hy
  have a2:A * y<=A * B:=iml h4 hA
  have a3:-A * y<=x * y:=Int.mul_le_mul_of_nonneg_right h1 hy
  rw [Int.neg_mul] at a3
  exact ⟨by omega,by omega⟩
 ·have hy':0<=-y:=by omega
  have a1:x * (-y)<=A * (-y):=Int.mul_le_mul_of_nonneg_right h2 hy'
  have a2:A * (-y)<=A * B:=iml (by omega) hA
  have a3:-A * (-y)<=x * (-y):=Int.mul_le_mul_of_nonneg_right h1 hy'
  have b1:x * (-y)=-(x * y):=Int.mul_neg _ _
  have b3:-A * (-y)=-(A * (-y)):=Int.neg_mul _ _
  exact ⟨by omega,by omega⟩
theorem sqN (x:Int):0<=x * x:=by
 by_cases h:0<=x
 ·exact imn h h
 ·rw [← Int.neg_mul_neg]; exact imn (by omega) (by omega)
theorem Kz {x y:Int} (hx0:0<=x) (hx:x < 18446744073709551616) (hy0:0<=y) (hy:y < 18446744073709551616):nF x y=x * y / 18446744073709551616:=by
 rw [← mul64_arith x y hx0 hx hy0 hy]
 unfold nF
 simp only [and_low32 _ hx0 hx,and_low32 _ hy0 hy,IntKind.wrap_u64]
 rw [and_low32 _ (by omega) (by omega)]
 simp only [show (2:Int) ^ 32=4294967296 from rfl]
 rw [Int.fdiv_eq_ediv_of_nonneg _ (by omega),Int.fdiv_eq_ediv_of_nonneg _ (by omega),Int.fdiv_eq_ediv_of_nonneg _ (by omega),Int.fdiv_eq_ediv_of_nonneg _ (by omega),Int.fdiv_eq_ediv_of_nonneg _ (by omega)]
theorem Kd (x y:Int):nN x y=x * y % 18446744073709551616:=by unfold nN; rw [IntKind.wrap_u64]
theorem vh {x y:Int} (hx0:0<=x) (hx:x < 18446744073709551616) (hy0:0<=y) (hy:y < 18446744073709551616):g8 x y=x * y / 18446744073709551616/\ik x y=x * y % 18446744073709551616:=by
 unfold g8 ik
 rw [eS hx0 hx,eS hy0 hy]
 rw [Int.tdiv_eq_ediv_of_nonneg hx0,Int.tdiv_eq_ediv_of_nonneg hy0,Int.tmod_eq_emod_of_nonneg hx0,Int.tmod_eq_emod_of_nonneg hy0]
 have ex:x=x / 4294967296 * 4294967296+x % 4294967296:=by omega
 have ey:y=y / 4294967296 * 4294967296+y % 4294967296:=by omega
 generalize hx1:x / 4294967296=x1 at *
 generalize hx0':x % 4294967296=x0 at *
 generalize hy1:y / 4294967296=y1 at *
 generalize hy0':y % 4294967296=y0 at *
 have b1:0<=x1/\x1<=4294967295:=by omega
 have b2:0<=x0/\x0<=4294967295:=by omega
 have b3:0<=y1/\y1<=4294967295:=by omega
 have b4:0<=y0/\y0<=4294967295:=by omega
 have pA:=prod_bound x1 y1 b1.1 b1.2 b3.1 b3.2
 have pB:=prod_bound x1 y0 b1.1 b1.2 b4.1 b4.2
 have pC:=prod_bound x0 y0 b2.1 b2.2 b4.1 b4.2
 have pD:=prod_bound x0 y1 b2.1 b2.2 b3.1 b3.2
 have hxy:x * y=x1 * y1 * 18446744073709551616+(x1 * y0+x0 * y1) * 4294967296+x0 * y0:=by rw [ex,ey]; exact split_mul x1 x0 y1 y0
 rw [hxy]
 rw [eS b1.1 (by omega),eS b3.1 (by omega)]
 generalize x1 * y1=A at *
 generalize x1 * y0=B at *
 generalize x0 * y0=C at *
 generalize x0 * y1=D at *
 rw [eS (x:=A) (by omega) (by omega),eS (x:=B) (by omega) (by omega),eS (x:=C) (by omega) (by omega),eS (x:=D) (by omega) (by omega)]
 rw [Int.tdiv_eq_ediv_of_nonneg (a:=C) (by omega),Int.tmod_eq_emod_of_nonneg (a:=C) (by omega)]
 rw [eS (x:=C / 4294967296) (by omega) (by omega)]
 rw [eS (x:=B+C / 4294967296) (by omega) (by omega)]
 rw [Int.tdiv_eq_ediv_of_nonneg (a:=B+C / 4294967296) (by omega),Int.tmod_eq_emod_of_nonneg (a:=B+C / 4294967296) (by omega)]
 rw [eS (x:=(B+C / 4294967296) / 4294967296) (by omega) (by omega)]
 rw [eS (x:=D+(B+C / 4294967296) % 4294967296) (by omega) (by omega)]
 rw [Int.tdiv_eq_ediv_of_nonneg (a:=D+(B+C / 4294967296) % 4294967296) (by omega)]
 rw [eS (x:=(D+(B+C / 4294967296) % 4294967296) / 4294967296) (by omega) (by omega)]
 simp only [IntKind.wrap_u64]
 constructor
 ·omega
 ·omega
theorem Ee {x y z w:Int} (hx0:0<=x) (hx:x < 9223372036854775808) (hy0:0<=y) (hy:y < 9223372036854775808) (hz0:0<=z) (hz:z < 9223372036854775808) (hw0:0<=w) (hw:w < 9223372036854775808) :
 nD (i6 x y) (jd x y) (i6 z w) (jd z w)=decide (x * y<=z * w):=by
 unfold i6 jd nD
 rw [eS hx0 (by omega),eS hy0 (by omega),eS hz0 (by omega),eS hw0 (by omega)]
 rw [Kz hx0 (by omega) hy0 (by omega),Kz hz0 (by omega) hw0 (by omega),Kd,Kd]
 generalize x * y=a
 generalize z * w=b
 rw [Bool.eq_iff_iff]
 simp only [Bool.cond_eq_ite,Bool.and_true,Bool.and_eq_true,beq_iff_eq,decide_eq_true_eq]
 split <;> (try split) <;> (try split) <;> simp_all <;> omega
theorem FP {x y z w:Int} (hx0:0<=x) (hx:x < 9223372036854775808) (hy0:0<=y) (hy:y < 9223372036854775808) (hz0:0<=z) (hz:z < 9223372036854775808) (hw0:0<=w) (hw:w < 9223372036854775808) :
 (!ox (g8 x y) (ik x y) (g8 z w) (ik z w))=decide (x * y<=z * w):=by
 unfold ox
 rw [(vh hx0 (by omega) hy0 (by omega)).1,(vh hx0 (by omega) hy0 (by omega)).2,(vh hz0 (by omega) hw0 (by omega)).1,(vh hz0 (by omega) hw0 (by omega)).2]
 generalize x * y=a
 generalize z * w=b
 rw [Bool.eq_iff_iff]
 simp only [Bool.cond_eq_ite,Bool.not_eq_true',beq_iff_eq,decide_eq_true_eq]
 split <;> (try split) <;> simp_all <;> omega
def nr (ax ay bx by' px py r:Int):Bool :=
 bif decide ((px - ax) * (bx - ax)+(py - ay) * (by' - ay)<=0) then decide ((px - ax) * (px - ax)+(py - ay) * (py - ay)<=r * r)
 else bif decide ((bx - ax) * (bx - ax)+(by' - ay) * (by' - ay)<=(px - ax) * (bx - ax)+(py - ay) * (by' - ay)) then decide ((px - bx) * (px - bx)+(py - by') * (py - by')<=r * r)
 else decide (((bx - ax) * (py - ay) - (by' - ay) * (px - ax)) * ((bx - ax) * (py - ay) - (by' - ay) * (px - ax))<=r * r * ((bx - ax) * (bx - ax)+(by' - ay) * (by' - ay)))
def sm (x:Int):Prop:=-536870912<=x/\x<=536870912
theorem CK (c:Int):max c (0 - c) * max c (0 - c)=c * c:=by
 by_cases h:0<=c
 ·rw [show max c (0 - c)=c from by omega]
 ·rw [show max c (0 - c)=-c from by omega,Int.neg_mul_neg]
section
variable {ax ay bx by' px py r:Int}
theorem It (h1:sm ax) (h2:sm ay) (h3:sm bx) (h4:sm by') (h5:sm px) (h6:sm py) (h7:0<=r) (h8:r<=1073741824):fX ax ay bx by' px py r=nr ax ay bx by' px py r:=by
 unfold sm at *
 unfold fX nr aH aI
 rw [av (x:=bx - ax) (by omega) (by omega),av (x:=by' - ay) (by omega) (by omega),av (x:=px - ax) (by omega) (by omega),av (x:=py - ay) (by omega) (by omega),av (x:=px - bx) (by omega) (by omega),av (x:=py - by') (by omega) (by omega)]
 have e1:-1073741824<=bx - ax/\bx - ax<=1073741824:=by omega
 have e2:-1073741824<=by' - ay/\by' - ay<=1073741824:=by omega
 have e3:-1073741824<=px - ax/\px - ax<=1073741824:=by omega
 have e4:-1073741824<=py - ay/\py - ay<=1073741824:=by omega
 have e5:-1073741824<=px - bx/\px - bx<=1073741824:=by omega
 have e6:-1073741824<=py - by'/\py - by'<=1073741824:=by omega
 generalize bx - ax=dx at *
 generalize by' - ay=dy at *
 generalize px - ax=ux at *
 generalize py - ay=uy at *
 generalize px - bx=vx at *
 generalize py - by'=vy at *
 have k:∀ a b c d:Int,(-1073741824<=a/\a<=1073741824)->(-1073741824<=b/\b<=1073741824)->(-1073741824<=c/\c<=1073741824)->(-1073741824<=d/\d<=1073741824)->cP a b c d=a * c+b * d/\-2305843009213693952<=a * c+b * d/\a * c+b * d<=2305843009213693952:=by
  intro a b c d ha hb hc hd
  have m1:=mW ha.1 ha.2 hc.1 hc.2
  have m2:=mW hb.1 hb.2 hd.1 hd.2
  unfold cP
  rw [av (x:=a * c) (by omega) (by omega),av (x:=b * d) (by omega) (by omega),av (by omega) (by omega)]
  exact ⟨rfl,by omega,by omega⟩
 have hr:=mW (x:=r) (y:=r) (A:=1073741824) (B:=1073741824) (by omega) h8 (by omega) h8
 have hr0:0<=r * r:=imn h7 h7
 have s1:0<=dx * dx:=sqN dx
 have s2:0<=dy * dy:=sqN dy
 rw [(k ux uy dx dy e3 e4 e1 e2).1,(k ux uy ux uy e3 e4 e3 e4).1,(k dx dy dx dy e1 e2 e1 e2).1,(k vx vy vx vy e5 e6 e5 e6).1,av (x:=r * r) (by omega) (by omega)]
 have c1:=mW e1.1 e1.2 e4.1 e4.2
 have c2:=mW e2.1 e2.2 e3.1 e3.2
 have d1:=mW e1.1 e1.2 e1.1 e1.2
 have d2:=mW e2.1 e2.2 e2.1 e2.2
 rw [show cI dx dy ux uy=dx * uy - dy * ux from by
  unfold cI
  rw [av (x:=dx * uy) (by omega) (by omega),av (x:=dy * ux) (by omega) (by omega),av (by omega) (by omega)]]
 rw [av (x:=0 - (dx * uy - dy * ux)) (by omega) (by omega)]
 rw [Ee (by omega) (by omega) (by omega) (by omega) hr0 (by omega) (by omega) (by omega),CK]
theorem JY (h1:sm ax) (h2:sm ay) (h3:sm bx) (h4:sm by') (h5:sm px) (h6:sm py) (h7:0<=r) (h8:r<=1073741824):gY px py ax ay bx by' r=nr ax ay bx by' px py r:=by
 unfold sm at *
 unfold gY nr aN aM
 rw [av (x:=bx - ax) (by omega) (by omega),av (x:=by' - ay) (by omega) (by omega),av (x:=px - ax) (by omega) (by omega),av (x:=py - ay) (by omega) (by omega),av (x:=px - bx) (by omega) (by omega),av (x:=py - by') (by omega) (by omega)]
 have e1:-1073741824<=bx - ax/\bx - ax<=1073741824:=by omega
 have e2:-1073741824<=by' - ay/\by' - ay<=1073741824:=by omega
 have e3:-1073741824<=px - ax/\px - ax<=1073741824:=by omega
 have e4:-1073741824<=py - ay/\py - ay<=1073741824:=by omega
 have e5:-1073741824<=px - bx/\px - bx<=1073741824:=by omega
 have e6:-1073741824<=py - by'/\py - by'<=1073741824:=by omega
 generalize bx - ax=dx at *
 generalize by' - ay=dy at *
 generalize px - ax=ux at *
 generalize py - ay=uy at *
 generalize px - bx=vx at *
 generalize py - by'=vy at *
 have k:∀ a b c d:Int,(-1073741824<=a/\a<=1073741824)->(-1073741824<=b/\b<=1073741824)->(-1073741824<=c/\c<=1073741824)->(-1073741824<=d/\d<=1073741824)->dI a b c d=a * c+b * d/\-2305843009213693952<=a * c+b * d/\a * c+b * d<=2305843009213693952:=by
  intro a b c d ha hb hc hd
  have m1:=mW ha.1 ha.2 hc.1 hc.2
  have m2:=mW hb.1 hb.2 hd.1 hd.2
  unfold dI
  rw [av (x:=a * c) (by omega) (by omega),av (x:=b * d) (by omega) (by omega),av (by omega) (by omega)]
  exact ⟨rfl,by omega,by omega⟩
 have hr:=mW (x:=r) (y:=r) (A:=1073741824) (B:=1073741824) (by omega) h8 (by omega) h8
 have hr0:0<=r * r:=imn h7 h7
 have s1:0<=dx * dx:=sqN dx
 have s2:0<=dy * dy:=sqN dy
 rw [(k ux uy dx dy e3 e4 e1 e2).1,(k ux uy ux uy e3 e4 e3 e4).1,(k dx dy dx dy e1 e2 e1 e2).1,(k vx vy vx vy e5 e6 e5 e6).1,av (x:=r * r) (by omega) (by omega)]
 have c1:=mW e1.1 e1.2 e4.1 e4.2
 have c2:=mW e2.1 e2.2 e3.1 e3.2
 have d1:=mW e1.1 e1.2 e1.1 e1.2
 have d2:=mW e2.1 e2.2 e2.1 e2.2
 rw [show eE dx dy ux uy=dx * uy - dy * ux from by
  unfold eE
  rw [av (x:=dx * uy) (by omega) (by omega),av (x:=dy * ux) (by omega) (by omega),av (by omega) (by omega)]]
 unfold ga
 rw [av (x:=0 - (dx * uy - dy * ux)) (by omega) (by omega)]
 rw [FP (by omega) (by omega) (by omega) (by omega) hr0 (by omega) (by omega) (by omega),CK]
end
end
end Go.Dx
namespace Go.Dx
open Go.IntKind (i64 u64 u8)
end Go.Dx
namespace Go.Dx
open Go.IntKind (i64 u64 u8)
open Go.Sx
noncomputable section
theorem mM (a l h:Int):bR a l h=!aT a l h:=by
 unfold bR aT
 by_cases h1:a < l
 ·rw [dqt h1,dqf (show ¬ l<=a by omega)]; rfl
 ·rw [dqf h1,dqt (show l<=a by omega)]
  by_cases h2:h < a
  ·rw [dqt h2,cond_false,cond_true]; exact dqf (by omega)
  ·rw [dqf h2,cond_false,cond_true]; exact dqt (by omega)
theorem j9 {n:Nat} {p q:Nat->Bool} (h:∀ i,i < n->p i=q i):exB n p=exB n q:=by
 cases hq:exB n q with
 | true =>
   obtain ⟨i,hi,hp⟩:=uo.1 hq
   exact bz i hi (by rw [h i hi]; exact hp)
 | false =>
   refine bG fun i hi=>?_
   rw [h i hi]
   cases hp:q i with
   | false=>rfl
   | true=>rw [bz i hi hp] at hq; cases hq
theorem gH (n:Nat) (f:Nat->List V):eF n f=!F51 n f:=by
 unfold eF xG Bv
 rw [ko]
 unfold exB F51
 congr 1
 congr 1
 funext i
 rw [mM]; rfl
theorem FK (s:ByteArray):∀ (k i:Nat) (r:List UInt8),s.size - i=k->(ByteArray.toList.loop s i r).length=r.length+k:=by
 intro k
 induction k with
 | zero =>
   intro i r h
   rw [ByteArray.toList.loop]
   have:¬ i < s.size:=by omega
   simp [this]
 | succ k ih =>
   intro i r h
   rw [ByteArray.toList.loop]
   have:i < s.size:=by omega
   simp only [this,if_true]
   rw [ih (i+1) _ (by omega)]
   simp; omega
theorem zA (s:ByteArray):(s.toList == (⟨#[]⟩:ByteArray).toList)=decide (s.size=0):=by
 have e:(⟨#[]⟩:ByteArray).toList=[]:=by decide +kernel
 rw [e]
 have hl:s.toList.length=s.size:=by
  unfold ByteArray.toList; rw [FK s s.size 0 [] (by omega)]; simp
 by_cases h:s.size=0
 ·rw [dqt h]
  have:s.toList=[]:=List.eq_nil_of_length_eq_zero (by omega)
  rw [this]; rfl
 ·rw [dqf h]
  cases hs:s.toList with
  | nil=>rw [hs] at hl; simp at hl; omega
  | cons a l=>rfl
theorem ic {α:Type} {p:α->Bool}:∀ {l:List α},l.dropWhile p=[] ↔ ∀ x ∈ l,p x=true
 | []=>by simp
 | a::l=>by
   rw [List.dropWhile_cons]
   cases h:p a with
   | true=>simp only [if_true]; rw [ic]; simp [h]
   | false=>simp [h]
theorem Ef (l cs:List UInt8):Lib.trimS l cs=[] ↔ ∀ b ∈ l,cs.contains b=true:=by
 unfold Lib.trimS Lib.trimLeftS Lib.trimRightS
 rw [ic]
 constructor
 ·intro h
  have h1:l.reverse.dropWhile (cs.contains ·)=[]:=by
   cases hd:l.reverse.dropWhile (cs.contains ·) with
   | nil=>rfl
   | cons a r =>
     have ha:cs.contains a=true:=h a (by rw [hd]; simp)
     have hh:=List.head_dropWhile_not (cs.contains ·) (l:=l.reverse) (by rw [hd]; simp)
     simp only [hd,List.head_cons] at hh
     rw [ha] at hh; cases hh
  rw [ic] at h1
  exact fun b hb=>h1 b (by simpa using hb)
 ·intro h b hb
  have:b ∈ l.reverse:=by
   have:=List.mem_reverse.1 hb
   exact (List.dropWhile_sublist _).subset this
  exact h b (by simpa using this)
def nmB (b:Nat):Bool:=(decide (97<=b) && decide (b<=122)) || ((decide (48<=b) && decide (b<=57)) || decide (b=45))
theorem sS (b:UInt8):([97,98,99,100,101,102,103,104,105,106,107,108,109,110,111,112,113,114,115,116,117,118,119,120,121,122,48,49,50,51,52,53,54,55,56,57,45]:List UInt8).contains b=nmB b.toNat:=by
 have key:∀ n:Fin 256,([97,98,99,100,101,102,103,104,105,106,107,108,109,110,111,112,113,114,115,116,117,118,119,120,121,122,48,49,50,51,52,53,54,55,56,57,45]:List UInt8).contains (UInt8.ofNat n.val)=nmB n.val:=by decide +kernel
 have:=key ⟨b.toNat,b.toNat_lt⟩
 simpa using this
theorem AG {l:List UInt8} {i:Nat} (h:i < l.length):l.getD i 0=l[i]:=by simp [List.getD,h]
theorem uq (s:ByteArray) (i:Nat):(!yj s i)=(nmB (s.data.toList.getD i 0).toNat && (decide (0 < i) || (decide (97<=(s.data.toList.getD i 0).toNat) && decide ((s.data.toList.getD i 0).toNat<=122)))):=by
 unfold yj nmB
 generalize (s.data.toList.getD i 0).toNat=b
 rw [Bool.eq_iff_iff]
 simp only [Bool.cond_eq_ite,Bool.not_eq_true',Bool.and_eq_true,Bool.or_eq_true,decide_eq_true_eq]
 split <;> split <;> (try split) <;> simp_all <;> omega
theorem zH (s:ByteArray):jF s=gE s:=by
 unfold jF gE
 rw [zA]
 have hsz:s.size=s.data.toList.length:=by rw [Array.length_toList]; rfl
 by_cases h0:s.size=0
 ·rw [dqt h0,h0]; rfl
 rw [dqf h0]
 have e0:decide (0 < (s.size:Int))=true:=dqt (by omega)
 rw [e0]
 by_cases h24:(s.size:Int)<=24
 case neg=>rw [dqf h24]; simp
 rw [dqt h24]
 simp only [Bool.not_false,cond_true,Bool.and_true]
 rw [zA]
 rw [Bool.eq_iff_iff]
 have ht:(rN s (ByteArray.mk (Array.mk [97,98,99,100,101,102,103,104,105,106,107,108,109,110,111,112,113,114,115,116,117,118,119,120,121,122,48,49,50,51,52,53,54,55,56,57,45]))).size=0 ↔ ∀ b ∈ s.data.toList,nmB b.toNat=true:=by
  rw [show (rN s (ByteArray.mk (Array.mk [97,98,99,100,101,102,103,104,105,106,107,108,109,110,111,112,113,114,115,116,117,118,119,120,121,122,48,49,50,51,52,53,54,55,56,57,45]))).size=(Lib.trimS s.data.toList [97,98,99,100,101,102,103,104,105,106,107,108,109,110,111,112,113,114,115,116,117,118,119,120,121,122,48,49,50,51,52,53,54,55,56,57,45]).length from by simp [rN,ByteArray.size]]
  rw [List.length_eq_zero_iff,Ef]
  constructor
  ·intro h b hb; rw [← sS]; exact h b hb
  ·intro h b hb; rw [sS]; exact h b hb
 have hb:iL s.size (fun i=>!yj s i)=true ↔ (∀ b ∈ s.data.toList,nmB b.toNat=true)/\97<=(s.data.toList.getD 0 0).toNat/\(s.data.toList.getD 0 0).toNat<=122:=by
  rw [Bn]
  constructor
  ·intro h
   refine ⟨fun b hb=>?_,?_⟩
   ·obtain ⟨i,hi,rfl⟩:=List.getElem_of_mem hb
    have:=h i (by omega)
    rw [uq,Bool.and_eq_true] at this
    rw [AG hi] at this
    exact this.1
   ·have:=h 0 (by omega)
    rw [uq] at this
    simp only [Bool.and_eq_true,Bool.or_eq_true,decide_eq_true_eq] at this
    rcases this.2 with h1 | h1
    ·omega
    ·exact h1
  ·rintro ⟨h1,h2,h3⟩ i hi
   rw [uq]
   have hi':i < s.data.toList.length:=by omega
   rw [h1 _ (by rw [AG hi']; exact List.getElem_mem hi')]
   by_cases hz:i=0
   ·subst hz; rw [dqt h2,dqt h3]; rfl
   ·simp; omega
 rw [hb,← ht]
 cases hd:decide ((rN s (ByteArray.mk (Array.mk [97,98,99,100,101,102,103,104,105,106,107,108,109,110,111,112,113,114,115,116,117,118,119,120,121,122,48,49,50,51,52,53,54,55,56,57,45]))).size=0) with
 | false =>
   have:=of_decide_eq_false hd
   simp [this]
 | true =>
   have:=of_decide_eq_true hd
   simp only [cond_true,this,true_and]
   rw [show s.data.1.getD 0 0=s.data.toList.getD 0 0 from rfl]
   generalize (s.data.toList.getD 0 0).toNat=b
   by_cases g:97<=b
   ·rw [dqt (show (97:Int)<=(b:Int) by omega)]
    simp only [cond_true,decide_eq_true_eq]; omega
   ·rw [dqf (show ¬ (97:Int)<=(b:Int) by omega)]
    simp; omega
end
noncomputable section
theorem GJ (x y:Int):oc x y=!iJ x y:=by unfold oc iJ; exact gH _ _
theorem Jl (n:Nat) (f:Nat->List V) (s:ByteArray):oT n f s=exB n fun k=>(sv (hdV (f k))).toList == s.toList:=by
 unfold oT Bu; rw [ko]; rfl
theorem GH (n:Nat) (f:Nat->List V) (s:ByteArray):om n f s=exB n fun k=>(sv (hdV (f k))).toList == s.toList:=by
 unfold om BZ; rw [ko]; rfl
theorem Id (n:Nat) (f:Nat->List V):fW n f=exB n fun i=>!iJ (jv0 (f i)) (jv1 (f i)):=by
 unfold fW Ba; rw [ko]; exact j9 fun i _=>GJ _ _
theorem AS (n0:Nat) (f0:FnV) (i:Nat):c62 n0 (elV tyR f0) i=cR n0 f0 i:=by
 unfold c62 cR F63 F70 wu
 rw [zH,Jl,Id]
 simp only [Int.toNat_natCast,Nat.sub_zero,Nat.zero_add,mM,Bool.not_not]
 rfl
theorem Ak (n2:Nat) (f2:FnV) (i:Nat):c64 n2 (elV tyT f2) i=cT f2 i:=by
 show jz (jv0 (f2 i)) (jv1 (f2 i)) (jv2 (f2 i)) (jv3 (f2 i)) (jv4 (f2 i))=_
 unfold cT jz xd
 rw [gH]
 show (bif !!iJ _ _ then _ else _)=_
 generalize iJ _ _=p
 generalize jv2 (f2 i)=a
 generalize jv3 (f2 i)=z
 generalize jv4 (f2 i)=w
 cases p
 ·rfl
 ·simp only [Bool.not_true,Bool.not_false,cond_true]
  rw [mM]
  cases ha:aT a 1 20000
  ·simp only [Bool.not_false,Bool.not_true,cond_true,cond_false]
   by_cases hw:1<=w/\w<=1000
   ·have e:aT w 1 1000=false:=by unfold aT; rw [dqf (by omega),cond_false]; exact dqf (by omega)
    rw [e,av (by omega) (by omega)]
    unfold aT
    by_cases hz:z < 0
    ·rw [dqt hz]; rfl
    ·rw [dqf hz]
     by_cases hz2:w<=z
     ·rw [dqt (show w - 1 < z by omega),dqt hz2]; rfl
     ·rw [dqf (show ¬ w - 1 < z by omega),dqf hz2,dqf (show ¬ 1000 < w by omega)]; rfl
   ·have e:aT w 1 1000=true:=by
     unfold aT
     by_cases h1:w < 1
     ·rw [dqt h1]; rfl
     ·rw [dqf h1,cond_false]; exact dqt (by omega)
    rw [e]
    have:(bif bif decide (z < 0) then true else decide (w<=z) then true else decide (1000 < w))=true:=by
     by_cases hz:z < 0
     ·rw [dqt hz]; rfl
     ·rw [dqf hz,cond_false]
      by_cases h2:w<=z
      ·rw [dqt h2]; rfl
      ·rw [dqf h2,cond_false]; exact dqt (by omega)
    rw [this]
    cases !aT z 0 (i64.wrap (w - 1)) <;> rfl
  ·rfl
theorem Ka (x0 x1 x2 x3:Int):ia x0 x1 x2 x3=bif bif bif bif bif decide (x0 < 0) then true else decide (x1<=x0) then true else decide (1000 < x1) then true else decide (x2 < 0) then true else decide (x3<=x2) then true else decide (1000 < x3):=by
 have key:∀ a b:Int,((bif !aT b 1 1000 then aT a 0 (i64.wrap (b - 1)) else true)=true) ↔ (a < 0 ∨ b<=a ∨ 1000 < b):=by
  intro a b
  unfold aT
  by_cases h1:b < 1
  ·rw [dqt h1]; simp; omega
  ·rw [dqf h1]
   by_cases h2:1000 < b
   ·rw [dqt h2]; simp; omega
   ·rw [dqf h2,av (by omega) (by omega)]
    simp only [cond_false,Bool.not_false,cond_true,Bool.cond_eq_ite]
    split <;> simp_all <;> omega
 have e1:=key x0 x1
 have e2:=key x2 x3
 have:ia x0 x1 x2 x3=(bif !(bif !aT x1 1 1000 then aT x0 0 (i64.wrap (x1 - 1)) else true) then (bif !aT x3 1 1000 then aT x2 0 (i64.wrap (x3 - 1)) else true) else true):=by
  unfold ia
  cases aT x1 1 1000 <;> cases aT x0 0 (i64.wrap (x1 - 1)) <;> rfl
 rw [this]
 generalize (bif !aT x1 1 1000 then aT x0 0 (i64.wrap (x1 - 1)) else true)=p at e1 ⊢
 generalize (bif !aT x3 1 1000 then aT x2 0 (i64.wrap (x3 - 1)) else true)=q at e2 ⊢
 rw [Bool.eq_iff_iff]
 simp only [Bool.cond_eq_ite]
 cases p <;> cases q <;> simp_all <;> omega
theorem xh (n4:Nat) (f4:FnV) (i:Nat):c66 n4 (elV tyF f4) i=cF f4 i:=by
 show jx (jv0 (f4 i)) (jv1 (f4 i)) (jv2 (f4 i)) (jv3 (f4 i)) (ap (hdV (tlV (tlV (tlV (tlV (f4 i))))))) (fun j=>ak tp4 (atV (hdV (tlV (tlV (tlV (tlV (f4 i)))))) j))=_
 unfold cF jx F72
 rw [gH]
 have:∀ n (f:Nat->List V),nX n f=exB n fun j=>C6 (f j):=by
  intro n f
  unfold nX BG; rw [ko]
  exact j9 fun j _=>by rw [Ka]; rfl
 rw [this]
 rfl
theorem Qk (p q r t:Bool) (B:Int):(bif p then bif !q then bif !r then bif t then 7 else B else 7 else 7 else 7)=(bif bif bif bif !p then true else q then true else r then true else t then 7 else B):=by
 cases p <;> cases q <;> cases r <;> cases t <;> rfl
theorem EA (n6:Nat) (f6:FnV) (i:Nat):c68 n6 (elV tyC f6) i=cC n6 f6 i:=by
 unfold c68 cC ir F73
 rw [zH,GH,gH]
 simp only [Int.toNat_natCast,Nat.sub_zero,Nat.zero_add]
 unfold Dv
 simp only [mM,Bool.not_not]
 rw [Qk]
 rfl
theorem dd {n:Nat} {c d:Nat->Int} (h:∀ i,c i=d i):eK n c=eK n d/\cL n c=cL n d:=by
 have:c=d:=funext h
 rw [this]; exact ⟨rfl,rfl⟩
theorem ES (n0:Nat) (f0:FnV) (n2:Nat) (f2:FnV) (n4:Nat) (f4:FnV) (n6:Nat) (f6:FnV) :
 (iA n0 f0 n2 f2 n4 f4 n6 f6,iw n0 f0 n2 f2 n4 f4 n6 f6,gh n0 f0 n2 f2 n4 f4 n6 f6)=F24 n0 f0 n2 f2 n4 f4 n6 f6:=by
 unfold iA iw gh F24 BD z1 z2 z3 r24 tg ky sJ kJ tB kN sI kG
 rw [(dd (AS n0 f0)).1,(dd (AS n0 f0)).2,(dd (Ak n2 f2)).1,(dd (Ak n2 f2)).2,(dd (xh n4 f4)).1,(dd (xh n4 f4)).2,(dd (EA n6 f6)).1,(dd (EA n6 f6)).2]
 cases (bif bif bif decide (8 < (n0:Int)) then true else decide (12 < (n2:Int)) then true else decide (8 < (n4:Int)) then true else decide (24 < (n6:Int)))
 ·simp only [cond_false]
  cases h1:cL n0 (cR n0 f0) != 0
  ·simp only [cond_false]
   cases h2:cL n2 (cT f2) != 0
   ·simp only [cond_false]
    cases h3:cL n4 (cF f4) != 0
    ·simp only [cond_false]
     cases h4:cL n6 (cC n6 f6) != 0
     ·rfl
     ·rfl
    ·rfl
   ·rfl
  ·rfl
 ·rfl
end
noncomputable section
theorem nj (ts:List Ty) (f:Nat->List V):elV ts (elV ts f)=elV ts f:=by
 funext i; exact bL ts _
theorem xc {n:Nat} {c:Nat->Int} (h:cL n c=0):∀ i,i < n->c i=0:=by
 unfold cL at h
 rcases EE (n:=n) (p:=fun i=>c i != 0) with ⟨_,h2⟩ | ⟨j,h1,h2,h3,_⟩
 ·intro i hi
  have:=h2 i hi
  simpa using this
 ·rw [h2] at h
  have:((j:Int) == -1)=false:=by rw [beq_eq_false_iff_ne]; omega
  rw [this,cond_false,Int.toNat_natCast] at h
  rw [h] at h3; cases h3
section
variable {n0:Nat} {f0:Nat->List V} {n2:Nat} {f2:Nat->List V} {n4:Nat} {f4:Nat->List V} {n6:Nat} {f6:Nat->List V} {i j m l:Int}
structure Ow (n0:Nat) (f0:FnV) (n2:Nat) (f2:FnV) (n4:Nat) (f4:FnV) (n6:Nat) (f6:FnV):Prop where
 l0:n0<=8
 l2:n2<=12
 l4:n4<=8
 l6:n6<=24
 rd:∀ i,i < n0->cR n0 f0 i=0
 tr:∀ i,i < n2->cT f2 i=0
 fr:∀ i,i < n4->cF f4 i=0
 cl:∀ i,i < n6->cC n6 f6 i=0
theorem lw {n:Nat} {c:Nat->Int} {k:Int} {z:Int × Int × Int} (h:(r24 n c k z).2.2=0):(∀ i,i < n->c i=0)/\z.2.2=0:=by
 unfold r24 at h
 cases hb:cL n c != 0 with
 | true=>rw [hb] at h; simp only [cond_true] at h; rw [h] at hb; cases hb
 | false =>
   rw [hb] at h
   exact ⟨xc (by simpa using hb),h⟩
theorem sM (h:bA n0 f0 n2 f2 n4 f4 n6 f6=0):Ow n0 f0 n2 f2 n4 f4 n6 f6:=by
 unfold bA F24 at h
 cases hl:BD n0 f0 n2 f2 n4 f4 n6 f6 with
 | true=>rw [hl] at h; cases h
 | false =>
   rw [hl,cond_false] at h
   obtain ⟨h1,h⟩:=lw h
   unfold z1 at h
   obtain ⟨h2,h⟩:=lw h
   unfold z2 at h
   obtain ⟨h3,h⟩:=lw h
   unfold z3 at h
   obtain ⟨h4,_⟩:=lw h
   unfold BD at hl
   simp only [Bool.cond_eq_ite,Bool.ite_eq_false_distrib] at hl
   have:n0<=8/\n2<=12/\n4<=8/\n6<=24:=by
    refine ⟨?_,?_,?_,?_⟩ <;> (apply Classical.byContradiction; intro hn) <;> simp_all <;> omega
   exact ⟨this.1,this.2.1,this.2.2.1,this.2.2.2,h1,h2,h3,h4⟩
def Bx (i m:Int):Bool:=bif decide (i < 0) then true else decide (m<=i)
def ix1 (e i m:Int):Int:=bif e == 0 then (bif Bx i m then 4 else 0) else e
theorem EM:gh n0 f0 n2 f2 n4 f4 n6 f6=bA n0 f0 n2 f2 n4 f4 n6 f6:=congrArg (fun t=>t.2.2) (ES n0 f0 n2 f2 n4 f4 n6 f6)
theorem Gg {i:Int} {m:Nat} (hm:m<=9223372036854775807):aT i 0 (i64.wrap ((m:Int) - 1))=Bx i m:=by
 unfold aT Bx
 rw [av (by omega) (by omega)]
 by_cases h:i < 0
 ·rw [dqt h]; rfl
 ·rw [dqf h,cond_false,cond_false]
  by_cases g:(m:Int)<=i
  ·rw [dqt g]; exact dqt (by omega)
  ·rw [dqf g]; exact dqf (by omega)
theorem Ml {i:Int} {m:Nat} (hm:bA n0 (elV tyR f0) n2 (elV tyT f2) n4 (elV tyF f4) n6 (elV tyC f6)=0->m<=9223372036854775807) :
 F44 n0 (elV tyR f0) n2 (elV tyT f2) n4 (elV tyF f4) n6 (elV tyC f6) 2 (elV tp1 (cq [vi i,vi m] 0 1))=ix1 (bA n0 (elV tyR f0) n2 (elV tyT f2) n4 (elV tyF f4) n6 (elV tyC f6)) i m:=by
 unfold F44 wj ix1
 simp only [nj,EM]
 cases he:bA n0 (elV tyR f0) n2 (elV tyT f2) n4 (elV tyF f4) n6 (elV tyC f6) == 0 with
 | false=>rfl
 | true =>
   rw [cond_true,cond_true]
   have:=hm (eq_of_beq he)
   rw [← Gg this]
   show (bif !(true && !aT i 0 (i64.wrap ((m:Int) - 1))) then _ else _)=_
   rw [Bool.true_and,Bool.not_not]
theorem Hc {i m:Int}:dD n0 (elV tyR f0) n2 (elV tyT f2) n4 (elV tyF f4) n6 (elV tyC f6) i m=ix1 (bA n0 (elV tyR f0) n2 (elV tyT f2) n4 (elV tyF f4) n6 (elV tyC f6)) i m:=by
 unfold dD cG ix1 Bx
 simp only [nj]
 generalize bA n0 (elV tyR f0) n2 (elV tyT f2) n4 (elV tyF f4) n6 (elV tyC f6)=e
 by_cases he:e=0
 ·subst he
  cases (bif decide (i < 0) then true else decide (m<=i)) <;> rfl
 ·rw [show (e == 0)=false from by simpa using he]; rfl
end
end
noncomputable section
theorem pK {a l h:Int} (hf:bR a l h=true):l<=a/\a<=h:=by
 unfold bR at hf
 by_cases h1:l<=a
 ·rw [dqt h1,cond_true] at hf; exact ⟨h1,of_decide_eq_true hf⟩
 ·rw [dqf h1] at hf; cases hf
end
noncomputable section
end
noncomputable section
theorem qo {e i m:Int} (h:ix1 e i m=0):e=0/\0<=i/\i < m:=by
 unfold ix1 at h
 cases he:e == 0 with
 | false=>rw [he,cond_false] at h; rw [h] at he; cases he
 | true =>
   rw [he,cond_true] at h
   refine ⟨eq_of_beq he,?_⟩
   unfold Bx at h
   by_cases h1:i < 0
   ·rw [dqt h1] at h; cases h
   ·rw [dqf h1,cond_false] at h
    by_cases h2:m<=i
    ·rw [dqt h2] at h; cases h
    ·omega
end
noncomputable section
def crn (ax ay bx b2 w px py:Int):Bool:=gY (fw px) (fp py) ax ay bx b2 w
section
variable {ax ay bx b2 w X0 Y0 X1 Y1 px py:Int}
def pl (x:Int):Prop:=-100000000<=x/\x<=100000000
theorem dbl {x:Int} (h:pl x):i64.wrap (2 * x)=2 * x/\sm (2 * x):=by
 unfold pl at h; unfold sm
 exact ⟨av (by omega) (by omega),by omega⟩
theorem D9 (h1:sm ax) (h2:sm ay) (h3:sm bx) (h4:sm b2) (h7:0<=w) (h8:w<=1073741824) (hx:pl px) (hy:pl py):bP ax ay bx b2 w px py=nr ax ay bx b2 (2 * px) (2 * py) w:=by
 unfold bP
 rw [(dbl hx).1,(dbl hy).1]
 exact It h1 h2 h3 h4 (dbl hx).2 (dbl hy).2 h7 h8
theorem CL (h1:sm ax) (h2:sm ay) (h3:sm bx) (h4:sm b2) (h7:0<=w) (h8:w<=1073741824) (hx:pl px) (hy:pl py):crn ax ay bx b2 w px py=nr ax ay bx b2 (2 * px) (2 * py) w:=by
 unfold crn fw fp
 rw [(dbl hx).1,(dbl hy).1]
 exact JY h1 h2 h3 h4 (dbl hx).2 (dbl hy).2 h7 h8
end
end
noncomputable section
theorem D5 {x y:Int} (h:iJ x y=true):(-100000<=x/\x<=100000)/\(-100000<=y/\y<=100000):=by
 unfold iJ F51 at h
 exact ⟨pK (fH h 0 (by omega)),pK (fH h 1 (by omega))⟩
structure oz (n:Nat) (f:Nat->List V) (w:Int):Prop where
 two:2<=n
 eight:n<=8
 pts:∀ j,j < n->(-100000<=jv0 (f j)/\jv0 (f j)<=100000)/\(-100000<=jv1 (f j)/\jv1 (f j)<=100000)
 adj:∀ j,j+1 < n->eqP f (j+1) j=false
 w1:100<=w
 w2:w<=30000
theorem Ac {n0 : Nat} {f0:Nat->List V} {i:Nat} (h:cR n0 f0 i=0):oz (ap (hdV (tlV (tlV (f0 i))))) (fun j=>ak tp2 (atV (hdV (tlV (tlV (f0 i)))) j)) (jv3 (f0 i)):=by
 have h':F70 n0 (elV tyR f0) (i:Int)=0:=h
 unfold F70 at h'
 simp only [Int.toNat_natCast] at h'
 cases hn:gE (sv (hdV (elV tyR f0 i))) with
 | false=>rw [hn] at h'; cases h'
 | true =>
   rw [hn,Bool.not_true,cond_false] at h'
   cases hd:exB i (fun k=>(sv (hdV (elV tyR f0 k))).toList == (sv (hdV (elV tyR f0 i))).toList) with
   | true=>rw [hd] at h'; cases h'
   | false =>
     rw [hd,cond_false] at h'
     have h2:wu (jv1 (f0 i)) (ap (hdV (tlV (tlV (f0 i))))) (fun j=>ak tp2 (atV (hdV (tlV (tlV (f0 i)))) j)) (jv3 (f0 i))=0:=h'
     unfold wu at h2
     generalize (fun j=>ak tp2 (atV (hdV (tlV (tlV (f0 i)))) j))=f at h2 ⊢
     generalize ap (hdV (tlV (tlV (f0 i))))=n at h2 ⊢
     generalize jv3 (f0 i)=w at h2 ⊢
     generalize jv1 (f0 i)=k at h2
     cases h3:bR k 0 3 with
     | false=>rw [h3] at h2; cases h2
     | true =>
       rw [h3,Bool.not_true,cond_false] at h2
       by_cases h4:(n:Int) < 2
       ·rw [dqt h4] at h2; cases h2
       ·rw [dqf h4,cond_false] at h2
        by_cases h5:8 < (n:Int)
        ·rw [dqt h5] at h2; cases h2
        ·rw [dqf h5,cond_false] at h2
         cases h6:exB n (fun i=>!iJ (jv0 (f i)) (jv1 (f i))) with
         | true=>rw [h6] at h2; cases h2
         | false =>
           rw [h6,cond_false] at h2
           cases h7:bR w 100 30000 with
           | false=>rw [h7] at h2; cases h2
           | true =>
             rw [h7,Bool.not_true,cond_false] at h2
             cases h8:fD n f with
             | true=>rw [h8] at h2; cases h2
             | false =>
               have hw:=pK h7
               refine ⟨by omega,by omega,fun j hj=>?_,fun j hj=>?_,hw.1,hw.2⟩
               ·apply D5
                cases hp:iJ (jv0 (f j)) (jv1 (f j)) with
                | true=>rfl
                | false=>rw [bz j hj (by rw [hp]; rfl)] at h6; cases h6
               ·cases hp:eqP f (j+1) j with
                | false=>rfl
                | true =>
                  unfold fD at h8
                  rw [bz (j+1) hj (by rw [Nat.add_sub_cancel,hp]; simp)] at h8; cases h8
section
variable {n:Nat} {f:Nat->List V} {w:Int}
theorem w1p {j n:Nat} (h:j < n) (hn:n<=8):(i64.wrap ((j:Int)+1)).toNat=j+1:=by
 rw [av (by omega) (by omega)]; omega
theorem dpt {x:Int} (h:-100000<=x/\x<=100000):i64.wrap (2 * x)=2 * x/\sm (2 * x):=dbl (by unfold pl; omega)
theorem Kc (hr:oz n f w) {x y:Int} (g1:pl x) (g2:pl y):F74 n f w x y=F75 n f w x y:=by
 unfold F74 F75
 refine j9 fun i hi=>?_
 have hj:i+1 < n:=by omega
 obtain ⟨a1,a2⟩:=hr.pts i (by omega)
 obtain ⟨b1,b2⟩:=hr.pts (i+1) hj
 have:=hr.w1
 have:=hr.w2
 have hw:=w1p (j:=i) (n:=n) (by omega) hr.eight
 unfold p74 p75
 rw [hw]
 have s1:sm (i64.wrap (2 * jv0 (f i))):=by rw [(dpt a1).1]; exact (dpt a1).2
 have s2:sm (i64.wrap (2 * jv1 (f i))):=by rw [(dpt a2).1]; exact (dpt a2).2
 have s3:sm (i64.wrap (2 * jv0 (f (i+1)))):=by rw [(dpt b1).1]; exact (dpt b1).2
 have s4:sm (i64.wrap (2 * jv1 (f (i+1)))):=by rw [(dpt b2).1]; exact (dpt b2).2
 rw [D9 s1 s2 s3 s4 (by omega) (by omega) g1 g2,← CL s1 s2 s3 s4 (by omega) (by omega) g1 g2]
 unfold qG qF rr p8 qS fw fp crn fw fp
 rw [hw]
 rfl
end
section
variable {n0:Nat} {f0:Nat->List V} {n2:Nat} {f2:Nat->List V} {n4:Nat} {f4:Nat->List V} {n6:Nat} {f6:Nat->List V}
theorem pJ {x8 : Int} (h : ix1 (bA n0 (elV tyR f0) n2 (elV tyT f2) n4 (elV tyF f4) n6 (elV tyC f6)) x8 n0=0):oz (ap (hdV (tlV (tlV (f0 x8.toNat))))) (fun j=>ak tp2 (atV (hdV (tlV (tlV (f0 x8.toNat)))) j)) (jv3 (f0 x8.toNat)):=by
 obtain ⟨h1,h2,h3⟩:=qo h
 have hv:=(sM h1).rd x8.toNat (by omega)
 exact Ac (f0 := f0) (n0 := n0) (by have:cR n0 (elV tyR f0) x8.toNat=cR n0 f0 x8.toNat:=by unfold cR; rw [nj]
                                    rw [← this]; exact hv)
end
end
end Go.Dx
namespace Go.Dx
open Go.IntKind (i64 u64 u8)
open Go.Sx Go.Proofs
noncomputable section
end
noncomputable section
def Ax:aX:=[(19,.con C19),(75,.con C75),(22,.con C22),(15,.con C15),(55,.con C55),(61,.con C61),(74,.con C74),(108,.con xI),(46,.con C46),(111,.con tU),(56,.con C56),(47,.con C47),(145,.con uX),(140,.con ur),(49,.con C49),(123,.con ud),(124,.con vz),(50,.con C50),(44,.con C44),(91,.con C91),(24,.con C24),(23,.con C23),(70,.con C70),(62,.con C62),(68,.con C68),(63,.con C63),(69,.con C69),(117,.inl wg u0),(116,.inl wD u0),(115,.con vc),(114,.con vn),(73,.con C73),(147,.con vd),(64,.con C64),(66,.con C66),(113,.con sd),(65,.con C65),(67,.con C67),(53,.con C53),(122,.con rP),(72,.con C72),(45,.con C45),(90,.con C90),(119,.con rG),(121,.con rU),(99,.con C99),(129,.con xN),(148,.con rX),(149,.con su),(112,.con rY),(118,.con rQ),(120,.con sF),(51,.con C51),(133,.con sD),(103,.con sg),(106,.con sk),(100,.con sj),(150,.con rJ),(134,.con rL),(135,.con sB),(137,.con sC),(138,.con rS),(78,.con C78),(54,.con C54),(48,.con C48),(102,.con sw),(84,.con C84),(85,.con C85),(127,.con rR),(101,.con sA),(86,.con C86),(71,.con C71),(93,.con C93),(92,.con C92),(79,.con C79),(136,.con r0),(125,.con sr),(162,.con rZ),(146,.con rT),(83,.inl s83 u0),(161,.inl HO u0)]
theorem JE:aW Tryz.prog eqs its Ax:=.con qc (.con Bg (.con y5 (.con xR (.con yn (.con yZ (.con y8 (.con qC (.con xV (.con oI (.con vH (.con wC (.con oM (.con oV (.con wm (.con o8 (.con oJ (.con wk (.con BU (.con vD (.con vE (.con wp (.con wo (.con wq (.con wJ (.con vT (.con wG (.inl Tryz.func117 (by kernel_rfl) (by kernel_rfl) (by kernel_rfl) (.inl Tryz.func116 (by kernel_rfl) (by kernel_rfl) (by kernel_rfl) (.con oG (.con oF (.con wY (.con o0 (.con wW (.con xx (.con mT (.con tR (.con uO (.con tW (.con mI (.con vw (.con uA (.con yU (.con mC (.con mf (.con uc (.con th (.con mz (.con lW (.con mj (.con mH (.con mF (.con tP (.con mN (.con lL (.con lV (.con mX (.con mn (.con mu (.con lG (.con lJ (.con mJ (.con uD (.con tS (.con vl (.con my (.con tQ (.con uw (.con mP (.con mw (.con uU (.con uZ (.con vt (.con ub (.con vm (.con mD (.con lE (.con lD (.con oZ (.inl Tryz.func83 (by kernel_rfl) (by kernel_rfl) (by kernel_rfl) (.inl Tryz.func161 (by kernel_rfl) (by kernel_rfl) (by kernel_rfl) (.nil)))))))))))))))))))))))))))))))))))))))))))))))))))))))))))))))))))))))))))))))))
def Mk:List V->Prop
 | [.int _ x]=>x=8
 | _=>False
def Ql:aJ:=mkC [.int .u64] Mk fun _=>.int .i64 4
theorem QF {w0:World}:sat (bK w0 (SV Ax)) (aZ JJ Ax u0 Fx [.int .u64 8]) (lA (.int .i64 4)):=rC (by kernel_rfl)
theorem OH:(vP Ql).Ok Tryz.prog 131:=mkE (un:=u0) JE Tryz.func131 (by kernel_rfl) fun ds hp=>by
 have hp':jv0 ds=8:=hp
 intro hd w0
 show sat _ (aZ JJ Ax u0 Fx [.int .u64 (jv0 ds)]) _
 rw [hp']
 exact QF
def NG:List V->Bool
 | [.int _ x]=>decide (x=8)
 | _=>false
def tb:aJ:=Hy [.int .u64] NG fun _=>.int .i64 4
theorem rm:(vP tb).Ok Tryz.prog 131:=GP (pre:=Mk) (fun ds h=>by
 unfold NG at h
 split at h
 ·rename_i x; exact (show x=8 from of_decide_eq_true h)
 ·cases h) OH
end
end Go.Dx
namespace Go.Dx
noncomputable section
end
abbrev P2:=Int × Int
end Go.Dx
namespace Go.Dx
open Go.IntKind (i64 u64 u8)
open Go.Sx
end Go.Dx
namespace Go.Dx
open Go.Sx
noncomputable section
end
end Go.Dx
namespace Go.Dx
open Go.IntKind (i64 u64 u8)
open Go.Sx Go.Proofs
noncomputable section
attribute [local irreducible] fX eu va
end
end Go.Dx
namespace Go.Dx
open Go.Sx
noncomputable section
end
end Go.Dx
namespace Go.Dx
open Go.IntKind (i64 u64 u8)
open Go.Sx Go.Proofs
noncomputable section
attribute [local irreducible] gY JR
end
end Go.Dx
namespace Go.Dx
open Go.Sx
noncomputable section
theorem I4 {x y h dx dy:Int} (hc:Dv x y h dx dy=0):(-100000<=x/\x<=100000)/\(-100000<=y/\y<=100000)/\(1<=h/\h<=200):=by
 have hc':(bif bif bif bif !iJ x y then true else !bR h 1 200 then true else !bR dx (-1000) 1000 then true else !bR dy (-1000) 1000 then 7 else bif bif dx == 0 then dy == 0 else false then 2 else (0:Int))=0:=hc
 cases hp:iJ x y with
 | false=>rw [hp] at hc'; cases hc'
 | true =>
   rw [hp] at hc'
   cases hf:bR h 1 200 with
   | false=>rw [hf] at hc'; cases hc'
   | true=>exact ⟨(D5 hp).1,(D5 hp).2,pK hf⟩
theorem HU {n6:Nat} {f6:Nat->List V} {i:Nat} (h:cC n6 f6 i=0):Dv (jv1 (f6 i)) (jv2 (f6 i)) (jv3 (f6 i)) (jv4 (f6 i)) (jv5 (f6 i))=0:=by
 have h':F73 n6 (elV tyC f6) (i:Int)=0:=h
 unfold F73 at h'
 simp only [Int.toNat_natCast] at h'
 cases hn:gE (sv (hdV (elV tyC f6 i))) with
 | false=>rw [hn] at h'; cases h'
 | true =>
   rw [hn,Bool.not_true,cond_false] at h'
   cases hd:exB i (fun k=>(sv (hdV (elV tyC f6 k))).toList == (sv (hdV (elV tyC f6 i))).toList) with
   | true=>rw [hd] at h'; cases h'
   | false=>rw [hd,cond_false] at h'; exact h'
end
end Go.Dx
namespace Go.Dx
open Go.IntKind (i64 u64 u8)
open Go.Sx Go.Proofs
noncomputable section
attribute [local irreducible] F44 dD cG
end
end Go.Dx
namespace Go.Dx
open Go.IntKind (i64 u64 u8)
open Go.Sx
noncomputable section
end
end Go.Dx
namespace Go.Dx
end Go.Dx
namespace Go.Dx
open Go.IntKind (i64 u64 u8)
open Go.Sx
noncomputable section
end
end Go.Dx
namespace Go.Dx
open Go.Sx
noncomputable section
end
end Go.Dx
namespace Go.Dx
open Go.IntKind (i64 u64 u8)
open Go.Sx
noncomputable section
end
noncomputable section
end
noncomputable section
end
end Go.Dx
namespace Go.Dx
open Go.IntKind (i64 u64 u8)
open Go.Sx Go.Proofs
noncomputable section
def Ai:aX:=(19,.con C19)::(131,.con tb)::(19,.con C19)::(75,.con C75)::As
theorem Cb:aW Tryz.prog eqs its Ai:=.con qc (.con rm (.con qc (.con Bg (DX))))
attribute [local irreducible] F44 dD cG aH aI cP
inductive S34 where
 | L0 (ia0:Int) (na1 na2:Nat) (ia3 ia4:Int) (fa5:Nat->List V)
def Mr (n0:Nat) (f0:FnV) (n2:Nat) (f2:FnV) (n4:Nat) (f4:FnV) (n6:Nat) (f6:FnV) (x8:Int):S34->Env × List O × Option Ex
 | .L0 ia0 na1 na2 ia3 ia4 fa5=>([(10,vi ia0),(9,vi (i64.wrap ((↑(ap (hdV (tlV (tlV (f0 x8.toNat))))):Int) - 1))),(8,vi (↑(ap (hdV (tlV (tlV (f0 x8.toNat))))):Int)),(7,V.sl (ap (hdV (tlV (tlV (f0 x8.toNat))))) fun i=>ak tp2 (atV (hdV (tlV (tlV (f0 x8.toNat)))) i)),(6,V.pl 5 2),(0,V.yl na1),(1,V.pl 5 0)],[O.cells [V.sl n0 (elV tyR f0),V.sl n2 (elV tyT f2),V.sl n4 (elV tyF f4),V.sl n6 (elV tyC f6)] 27,O.cells [vi x8,vi (↑n0:Int)] 3,O.cells [V.gs 6 na2] 73,O.cells [vi ia3,vi ia4] 95,O.cells [vi ia0] 3,O.cells [V.str (sv (hdV (f0 x8.toNat))),vi (jv1 (f0 x8.toNat)),V.sl (ap (hdV (tlV (tlV (f0 x8.toNat))))) fun i=>ak tp2 (atV (hdV (tlV (tlV (f0 x8.toNat)))) i),vi (jv3 (f0 x8.toNat))] 54,O.gl 1 na2 (elV tp1 fa5) 3],none)
def QD:S34->JJ
 | .L0 ia0 na1 na2 ia3 ia4 fa5=>(0,[Cx.n na1])
def LC (n0:Nat) (f0:FnV) (n2:Nat) (f2:FnV) (n4:Nat) (f4:FnV) (n6:Nat) (f6:FnV) (x8:Int):T (bF JJ):=tA JJ 1 3 Ai u0 s34 [scV n0 f0 n2 f2 n4 f4 n6 f6,vi x8]
def Cs (n0:Nat) (f0:FnV) (n2:Nat) (f2:FnV) (n4:Nat) (f4:FnV) (n6:Nat) (f6:FnV) (x8:Int) (cx:List Cx):Lp JJ:=lpT (atT (afT (atT (LC n0 f0 n2 f2 n4 f4 n6 f6 x8) [false]) (cxn cx 0)) [])
def Ry (n0:Nat) (f0:FnV) (n2:Nat) (f2:FnV) (n4:Nat) (f4:FnV) (n6:Nat) (f6:FnV) (x8:Int):JJ->Lp JJ
 | (0,cx)=>Cs n0 f0 n2 f2 n4 f4 n6 f6 x8 cx
 | (_,cx)=>Cs n0 f0 n2 f2 n4 f4 n6 f6 x8 cx
def D34 (n0:Nat) (f0:FnV) (n2:Nat) (f2:FnV) (n4:Nat) (f4:FnV) (n6:Nat) (f6:FnV) (x8:Int):LD JJ S34:=⟨QD,Ry n0 f0 n2 f2 n4 f4 n6 f6 x8,Mr n0 f0 n2 f2 n4 f4 n6 f6 x8⟩
def Gx (n0:Nat) (f0:FnV) (n2:Nat) (f2:FnV) (n4:Nat) (f4:FnV) (n6:Nat) (f6:FnV) (x8:Int):S34->RT S34
 | .L0 ia0 na1 na2 ia3 ia4 fa5=>.br (decide (ia0 < i64.wrap ((↑(ap (hdV (tlV (tlV (f0 x8.toNat))))):Int) - 1))) (.ob (decide (0<=ia0/\ia0 < (↑(ap (hdV (tlV (tlV (f0 x8.toNat))))):Int))) (.ob (decide (0<=i64.wrap (ia0+1)/\i64.wrap (ia0+1) < (↑(ap (hdV (tlV (tlV (f0 x8.toNat))))):Int))) (.obt (.obt (.obt (.obt (.obc (.obt (.br (decide (0 < ia0)) (.ob (decide (0 < ia0)) (.ob (decide (0 < ia0)) (.obc (.obt (.br (decide (cP (aH (i64.wrap (2 * jv0 (atV (hdV (tlV (tlV (f0 x8.toNat)))) (i64.wrap (ia0+1)).toNat))) (i64.wrap (2 * jv0 (atV (hdV (tlV (tlV (f0 x8.toNat)))) ia0.toNat)))) (aI (i64.wrap (2 * jv1 (atV (hdV (tlV (tlV (f0 x8.toNat)))) (i64.wrap (ia0+1)).toNat))) (i64.wrap (2 * jv1 (atV (hdV (tlV (tlV (f0 x8.toNat)))) ia0.toNat)))) ia3 ia4<=0)) (.obt (.ob (decide (na2<=na2/\(na2+1) * 8<=140737488355328) && !Nat.beq 8 0) (.next (iR 0 6 [some (some 12)]) (S34.L0 (i64.wrap (ia0+1)) (na1) (na2+1) (aH (i64.wrap (2 * jv0 (atV (hdV (tlV (tlV (f0 x8.toNat)))) (i64.wrap (ia0+1)).toNat))) (i64.wrap (2 * jv0 (atV (hdV (tlV (tlV (f0 x8.toNat)))) ia0.toNat)))) (aI (i64.wrap (2 * jv1 (atV (hdV (tlV (tlV (f0 x8.toNat)))) (i64.wrap (ia0+1)).toNat))) (i64.wrap (2 * jv1 (atV (hdV (tlV (tlV (f0 x8.toNat)))) ia0.toNat)))) (bb na2 (elV tp1 fa5) fun x=>[vi ia0])) [⟨6,tp1,na2+1,bb na2 (elV tp1 fa5) fun x=>[vi ia0],gW (ah rfl _ _) (gk rfl _ rfl)⟩]))) (.next (iR 0 7 []) (S34.L0 (i64.wrap (ia0+1)) (na1) (na2) (aH (i64.wrap (2 * jv0 (atV (hdV (tlV (tlV (f0 x8.toNat)))) (i64.wrap (ia0+1)).toNat))) (i64.wrap (2 * jv0 (atV (hdV (tlV (tlV (f0 x8.toNat)))) ia0.toNat)))) (aI (i64.wrap (2 * jv1 (atV (hdV (tlV (tlV (f0 x8.toNat)))) (i64.wrap (ia0+1)).toNat))) (i64.wrap (2 * jv1 (atV (hdV (tlV (tlV (f0 x8.toNat)))) ia0.toNat)))) (elV tp1 fa5)) [⟨6,tp1,na2,elV tp1 fa5,ah rfl _ _⟩])))))) (.next (iR 0 7 []) (S34.L0 (i64.wrap (ia0+1)) (na1) (na2) (aH (i64.wrap (2 * jv0 (atV (hdV (tlV (tlV (f0 x8.toNat)))) (i64.wrap (ia0+1)).toNat))) (i64.wrap (2 * jv0 (atV (hdV (tlV (tlV (f0 x8.toNat)))) ia0.toNat)))) (aI (i64.wrap (2 * jv1 (atV (hdV (tlV (tlV (f0 x8.toNat)))) (i64.wrap (ia0+1)).toNat))) (i64.wrap (2 * jv1 (atV (hdV (tlV (tlV (f0 x8.toNat)))) ia0.toNat)))) (elV tp1 fa5)) [⟨6,tp1,na2,elV tp1 fa5,ah rfl _ _⟩])))))))))) (.ob (decide (na2<=na2)) (.ret (V.tup [V.sl na2 (elV tp1 fa5),vi 0])))
def m34 (n0:Nat) (f0:FnV) (n2:Nat) (f2:FnV) (n4:Nat) (f4:FnV) (n6:Nat) (f6:FnV) (x8:Int):RT S34:=.asm (true=true->n0<=9223372036854775807) (.obp (((∀ (i:Nat),i < n0->(sv (hdV (f0 i))).size<=(9223372036854775807:Nat))/\∀ (i:Nat),i < n6->(sv (hdV (f6 i))).size<=(9223372036854775807:Nat))/\(0:Nat)=(0:Nat)/\(2:Nat)<=(100:Nat)) (.obt (.br (F44 n0 (elV tyR f0) n2 (elV tyT f2) n4 (elV tyF f4) n6 (elV tyC f6) 2 (elV tp1 (cq [vi x8,vi (↑n0:Int)] 0 1)) != 0) (.obt (.ret (V.tup [V.sl 0 fun x=>[],vi (F44 n0 (elV tyR f0) n2 (elV tyT f2) n4 (elV tyF f4) n6 (elV tyC f6) 2 (elV tp1 (cq [vi x8,vi (↑n0:Int)] 0 1)))]))) (.ob (decide (0<=x8/\x8 < (↑n0:Int))) (.all (fun l_4932=>.asm (true=true->ap (hdV (tlV (tlV (f0 x8.toNat))))<=9223372036854775807) (.enter (iR 0 6 [some none]) (S34.L0 (0) (l_4932) (0) (0) (0) (fun i=>[])) [])))))))
theorem La (n0:Nat) (f0:FnV) (n2:Nat) (f2:FnV) (n4:Nat) (f4:FnV) (n6:Nat) (f6:FnV) (x8:Int):ep Ai u0 (D34 n0 f0 n2 f2 n4 f4 n6 f6 x8) (LC n0 f0 n2 f2 n4 f4 n6 f6 x8) (m34 n0 f0 n2 f2 n4 f4 n6 f6 x8) (Gx n0 f0 n2 f2 n4 f4 n6 f6 x8):=⟨⟨by kernel_rfl,by kernel_rfl⟩,fun s=>by cases s <;> exact ⟨by kernel_rfl,by kernel_rfl⟩⟩
def ptB (f0:FnV) (x8:Int) (k:Nat):List V:=atV (hdV (tlV (tlV (f0 x8.toNat)))) k
def dxB (f0:FnV) (x8:Int) (k:Nat):Int:=aH (i64.wrap (2 * jv0 (ptB f0 x8 (k+1)))) (i64.wrap (2 * jv0 (ptB f0 x8 k)))
def dyB (f0:FnV) (x8:Int) (k:Nat):Int:=aI (i64.wrap (2 * jv1 (ptB f0 x8 (k+1)))) (i64.wrap (2 * jv1 (ptB f0 x8 k)))
def bqB (f0:FnV) (x8:Int) (k:Nat):Bool:=decide (cP (dxB f0 x8 k) (dyB f0 x8 k) (dxB f0 x8 (k - 1)) (dyB f0 x8 (k - 1))<=0)
def bnL (q:Nat->Bool):Nat->List Int
 | 0=>[]
 | k+1=>bif decide (0 < k) && q k then bnL q k++[(k:Int)] else bnL q k
theorem mr (q:Nat->Bool):∀ k,(bnL q k).length<=k
 | 0=>Nat.le_refl _
 | k+1=>by
   have:=mr q k
   unfold bnL
   cases decide (0 < k) && q k with
   | true=>simp; omega
   | false=>simp; omega
def bnF (L:List Int):Nat->List V:=fun j=>[V.int .i64 (L.getD j 0)]
def bnR (e:Int) (L:List Int):V:=.tup [.sl (bif e != 0 then 0 else L.length) (elV tp1 (bnF L)),.int .i64 e]
theorem m7 {n k:Nat} {f:Nat->List V} {L:List Int} (hn:n=L.length) (h:∀ j,j < n->ak tp1 (f j)=[V.int .i64 (L.getD j 0)]) :
 ∀ j,j < n+1->ak tp1 (bb n (elV tp1 f) (fun _=>[vi (k:Int)]) j)=[V.int .i64 ((L++[(k:Int)]).getD j 0)]:=fun j hj=>by
 unfold bb
 by_cases hlt:j < n
 ·have hb:Nat.blt j n=true:=Nat.ble_eq_true_of_le hlt
  rw [hb]
  show ak _ (ak _ (f j))=_
  rw [bL,h j hlt]
  simp only [List.getD]
  rw [List.getElem?_append_left (by omega)]
 ·have hb:Nat.blt j n=false:=by
   cases hb:Nat.blt j n with
   | false=>rfl
   | true=>have:=Nat.le_of_ble_eq_true hb; omega
  have e:j=L.length:=by omega
  rw [hb]
  subst e
  simp [ak,bD,iv,hdV]
theorem z34 (n0:Nat) (f0:FnV) (n2:Nat) (f2:FnV) (n4:Nat) (f4:FnV) (n6:Nat) (f6:FnV) (x8:Int) (he:(F44 n0 (elV tyR f0) n2 (elV tyT f2) n4 (elV tyF f4) n6 (elV tyC f6) 2 (elV tp1 (cq [vi x8,vi (↑n0:Int)] 0 1)) != 0)=false):(0<=x8/\x8 < n0)/\oz (ap (hdV (tlV (tlV (f0 x8.toNat))))) (fun j=>ak tp2 (atV (hdV (tlV (tlV (f0 x8.toNat)))) j)) (jv3 (f0 x8.toNat)):=by
 have e0:F44 n0 (elV tyR f0) n2 (elV tyT f2) n4 (elV tyF f4) n6 (elV tyC f6) 2 (elV tp1 (cq [vi x8,vi (↑n0:Int)] 0 1))=0:=by simpa using he
 have hc:=Ml (n0:=n0) (f0:=f0) (n2:=n2) (f2:=f2) (n4:=n4) (f4:=f4) (n6:=n6) (f6:=f6) (i:=x8) (m:=n0) (fun h=>by have:=(sM h).l0; omega)
 have hz:ix1 (bA n0 (elV tyR f0) n2 (elV tyT f2) n4 (elV tyF f4) n6 (elV tyC f6)) x8 n0=0:=hc.symm.trans e0
 exact ⟨(qo hz).2,pJ hz⟩
theorem c34 (n0:Nat) (f0:FnV) (n2:Nat) (f2:FnV) (n4:Nat) (f4:FnV) (n6:Nat) (f6:FnV) (x8:Int) (h2:2<=(ap (hdV (tlV (tlV (f0 x8.toNat)))))) (h8:(ap (hdV (tlV (tlV (f0 x8.toNat)))))<=8) (l:Nat) {r:V} (hr:r=.tup [.sl (bnL (bqB f0 x8) ((ap (hdV (tlV (tlV (f0 x8.toNat))))) - 1)).length (elV tp1 (bnF (bnL (bqB f0 x8) ((ap (hdV (tlV (tlV (f0 x8.toNat))))) - 1)))),.int .i64 0]) :
 ∀ k,k<=(ap (hdV (tlV (tlV (f0 x8.toNat))))) - 1->∀ (n:Nat) (dx dy:Int) (f:Nat->List V),n=(bnL (bqB f0 x8) k).length->(∀ j,j < n->ak tp1 (f j)=[V.int .i64 ((bnL (bqB f0 x8) k).getD j 0)])->(0 < k->dx=dxB f0 x8 (k - 1)/\dy=dyB f0 x8 (k - 1)) ->
 Ev (Gx n0 f0 n2 f2 n4 f4 n6 f6 x8) (.L0 (k:Int) l n dx dy f) r:=by
 have hw:i64.wrap (((ap (hdV (tlV (tlV (f0 x8.toNat))))):Int) - 1)=(((ap (hdV (tlV (tlV (f0 x8.toNat))))) - 1:Nat):Int):=by rw [av (by omega) (by omega)]; omega
 refine bJ fun k hk ih n dx dy f hn hf hd=>?_
 have hl:=mr (bqB f0 x8) k
 refine Ev.of rfl ?_
 by_cases hlt:k < (ap (hdV (tlV (tlV (f0 x8.toNat))))) - 1
 ·have hk1:i64.wrap ((k:Int)+1)=((k+1:Nat):Int):=by rw [av (by omega) (by omega)]; omega
  have ih:=ih hlt
  refine dT (dqt (by rw [hw]; omega)) (ar (dqt (by omega)) (ar (dqt (by rw [hk1]; omega)) (evObt (evObt (evObt (evObt (evObc (evObt (aC (fun h=>?_) (fun h=>aL ?_)))))))))) 
  ·have h0:=of_decide_eq_true h
   have h0':0 < k:=by omega
   refine ar h (ar h (evObc (evObt (aC (fun hq=>evObt (ar ?_ (aL ?_))) (fun hq=>aL ?_)))))
   ·simp only [Bool.and_eq_true]; exact ⟨dqt ⟨Nat.le_refl _,by omega⟩,rfl⟩
   ·rw [hk1,Int.toNat_natCast,Int.toNat_natCast] at hq ⊢
    have hb:bqB f0 x8 k=true:=by rw [(hd h0').1,(hd h0').2] at hq; exact hq
    have e:bnL (bqB f0 x8) (k+1)=bnL (bqB f0 x8) k++[(k:Int)]:=by rw [bnL,dqt h0',hb]; rfl
    refine ih _ _ _ _ (by rw [e,hn]; simp) ?_ (fun _=>⟨rfl,rfl⟩)
    rw [e]
    exact m7 hn hf
   ·rw [hk1,Int.toNat_natCast,Int.toNat_natCast] at hq ⊢
    have hb:bqB f0 x8 k=false:=by rw [(hd h0').1,(hd h0').2] at hq; exact hq
    have e:bnL (bqB f0 x8) (k+1)=bnL (bqB f0 x8) k:=by rw [bnL,dqt h0',hb]; rfl
    refine ih _ _ _ _ (by rw [e,hn]) ?_ (fun _=>⟨rfl,rfl⟩)
    rw [e]
    exact fun j hj=>by show ak _ (ak _ (f j))=_; rw [bL]; exact hf j hj
  ·have h0:=of_decide_eq_false h
   have h0':k=0:=by omega
   subst h0'
   rw [hk1,Int.toNat_natCast,Int.toNat_natCast]
   have e:bnL (bqB f0 x8) (0+1)=[]:=by rfl
   refine ih _ _ _ _ (by rw [e,hn]; rfl) ?_ (fun _=>⟨rfl,rfl⟩)
   intro j hj
   have:n=0:=hn
   omega
 ·have e:k=(ap (hdV (tlV (tlV (f0 x8.toNat))))) - 1:=by omega
  subst e
  refine dF (dqf (by rw [hw]; omega)) (ar (dqt (Nat.le_refl _)) (evRet ?_))
  rw [hr]
  exact gT (eR hn fun i hi=>by show ck (ak _ (f i))=_; rw [hf i hi]; rfl) rfl
theorem RU (f0:FnV) (x8:Int):bqB (elV tyR f0) x8=bqB f0 x8:=rfl
theorem Qo (e:Int) {L:List Int} {m:Nat} (h:L.length<=m) (hm:m<=9223372036854775807):(bif e != 0 then 0 else L.length)<=9223372036854775807:=by
 cases e != 0 with
 | true=>exact Nat.zero_le _
 | false=>show L.length<=_; omega
theorem ET (n0:Nat) (f0:FnV) (n2:Nat) (f2:FnV) (n4:Nat) (f4:FnV) (n6:Nat) (f6:FnV) (x8:Int):(bif (F44 n0 (elV tyR f0) n2 (elV tyT f2) n4 (elV tyF f4) n6 (elV tyC f6) 2 (elV tp1 (cq [vi x8,vi (↑n0:Int)] 0 1))) != 0 then 0 else (bnL (bqB f0 x8) ((ap (hdV (tlV (tlV (f0 x8.toNat))))) - 1)).length)<=9223372036854775807:=by
 cases h:(F44 n0 (elV tyR f0) n2 (elV tyT f2) n4 (elV tyF f4) n6 (elV tyC f6) 2 (elV tp1 (cq [vi x8,vi (↑n0:Int)] 0 1))) != 0 with
 | true=>exact Nat.zero_le _
 | false =>
   have hr:=(z34 n0 f0 n2 f2 n4 f4 n6 f6 x8 h).2.eight
   have hl:=mr (bqB f0 x8) ((ap (hdV (tlV (tlV (f0 x8.toNat))))) - 1)
   show (bnL (bqB f0 x8) ((ap (hdV (tlV (tlV (f0 x8.toNat))))) - 1)).length<=_
   omega
theorem Hi (n0:Nat) (f0:FnV) (n2:Nat) (f2:FnV) (n4:Nat) (f4:FnV) (n6:Nat) (f6:FnV) (x8:Int) (hp:bc n0 f0/\bc n6 f6):evR (Ev (Gx n0 f0 n2 f2 n4 f4 n6 f6 x8)) (m34 n0 f0 n2 f2 n4 f4 n6 f6 x8) (bnR (F44 n0 (elV tyR f0) n2 (elV tyT f2) n4 (elV tyF f4) n6 (elV tyC f6) 2 (elV tp1 (cq [vi x8,vi (↑n0:Int)] 0 1))) (bnL (bqB f0 x8) ((ap (hdV (tlV (tlV (f0 x8.toNat))))) - 1))):=bt fun hn=>cD ⟨hp,rfl,by decide⟩ (evObt (aC (fun h=>evObt (evRet (by
 unfold bnR; rw [h]; exact gT (eR rfl fun i hi=>absurd hi (Nat.not_lt_zero _)) rfl))) (fun h=>by
 obtain ⟨⟨z1,z2⟩,hr⟩:=z34 n0 f0 n2 f2 n4 f4 n6 f6 x8 h
 have e0:F44 n0 (elV tyR f0) n2 (elV tyT f2) n4 (elV tyF f4) n6 (elV tyC f6) 2 (elV tp1 (cq [vi x8,vi (↑n0:Int)] 0 1))=0:=by simpa using h
 refine ar (dqt ⟨z1,z2⟩) (Cw fun l=>bt fun hl=>aG ?_)
 refine c34 n0 f0 n2 f2 n4 f4 n6 f6 x8 hr.two hr.eight l ?_ 0 (Nat.zero_le _) 0 0 0 _ rfl (fun j hj=>absurd hj (Nat.not_lt_zero _)) (fun h=>absurd h (Nat.lt_irrefl _))
 unfold bnR; rw [e0]; rfl)))
def l5 (n0:Nat) (f0:FnV) (n2:Nat) (f2:FnV) (n4:Nat) (f4:FnV) (n6:Nat) (f6:FnV) (x8:Int):Int:=F44 n0 (elV tyR f0) n2 (elV tyT f2) n4 (elV tyF f4) n6 (elV tyC f6) 2 (elV tp1 (cq [vi x8,vi (↑n0:Int)] 0 1))
def dk (n0:Nat) (f0:FnV) (n2:Nat) (f2:FnV) (n4:Nat) (f4:FnV) (n6:Nat) (f6:FnV) (x8:Int):Nat:=(bif l5 n0 f0 n2 f2 n4 f4 n6 f6 x8 != 0 then 0 else (bnL (bqB f0 x8) ((ap (hdV (tlV (tlV (f0 x8.toNat))))) - 1)).length)
def dQ (n0:Nat) (f0:FnV) (n2:Nat) (f2:FnV) (n4:Nat) (f4:FnV) (n6:Nat) (f6:FnV) (x8:Int):Nat->List V:=bnF (bnL (bqB f0 x8) ((ap (hdV (tlV (tlV (f0 x8.toNat))))) - 1))
theorem P9 (n0:Nat) (f0:FnV) (n2:Nat) (f2:FnV) (n4:Nat) (f4:FnV) (n6:Nat) (f6:FnV) (x8:Int) (hp:bc n0 (elV tyR f0)/\bc n6 (elV tyC f6)):evR (Ev (Gx n0 f0 n2 f2 n4 f4 n6 f6 x8)) (m34 n0 f0 n2 f2 n4 f4 n6 f6 x8) (.tup [.sl (dk n0 (elV tyR f0) n2 (elV tyT f2) n4 (elV tyF f4) n6 (elV tyC f6) x8) (elV tp1 (dQ n0 (elV tyR f0) n2 (elV tyT f2) n4 (elV tyF f4) n6 (elV tyC f6) x8)),.int .i64 (l5 n0 (elV tyR f0) n2 (elV tyT f2) n4 (elV tyF f4) n6 (elV tyC f6) x8)]):=by
 show evR _ _ (bnR (F44 n0 (elV tyR (elV tyR f0)) n2 (elV tyT (elV tyT f2)) n4 (elV tyF (elV tyF f4)) n6 (elV tyC (elV tyC f6)) 2 (elV tp1 (cq [vi x8,vi (↑n0:Int)] 0 1))) (bnL (bqB (elV tyR f0) x8) ((ap (hdV (tlV (tlV ((elV tyR f0) x8.toNat))))) - 1)))
 exact Hi n0 f0 n2 f2 n4 f4 n6 f6 x8 hp
def R34:List V->V
 | [.agg [.sl n0 f0,.sl n2 f2,.sl n4 f4,.sl n6 f6],.int _ x8]=>.tup [.sl (dk n0 f0 n2 f2 n4 f4 n6 f6 x8) (elV tp1 (dQ n0 f0 n2 f2 n4 f4 n6 f6 x8)),.int .i64 (l5 n0 f0 n2 f2 n4 f4 n6 f6 x8)]
 | _=>.any
def P34:List V->Prop
 | [.agg [.sl n0 f0,.sl n2 f2,.sl n4 f4,.sl n6 f6],.int _ x8]=>bc n0 f0/\bc n6 f6
 | _=>False
def Mf:List Ty:=[.agg [.sl tyR,.sl tyT,.sl tyF,.sl tyC],.int .i64]
def C34:aJ:=mkC Mf P34 R34
theorem we:∀ ds d p r,C34 ds=some (d,p,r)->d.1=d.2->p->okL 1 r:=pG fun ds _=>pp rfl rfl rfl (ET _ _ _ _ _ _ _ _ _)
theorem Dm:(vL 1 3 C34).Ok Tryz.prog 34:=Gv Cb Tryz.func34 (by kernel_rfl) fun ds hp=>rfs (La ..) (P9 _ _ _ _ _ _ _ _ _ hp)
end
end Go.Dx
namespace Go.Dx
open Go.Sx Go.Proofs
def zI:Nat->List V:=elV [.int .i64] fun _=>[]
def BY:aJ
 | [s,.sl 0 _]=>C44 [s,.sl 0 zI]
 | _=>none
theorem Jo {w0:World} {lh:List ac} {ν:Nu} {f g:Nat->List V} {a:ab} (h:vr w0 lh ν (.sl 0 f) a):vr w0 lh ν (.sl 0 g) a:=by
 simp only [vr] at h ⊢
 obtain ⟨p,c,e,h1,h2,h3,h4,_⟩:=h
 exact ⟨p,c,e,h1,h2,h3,h4,fun i hi=>absurd hi (Nat.not_lt_zero _)⟩
theorem zp:(vP BY).Ok Tryz.prog 44:=by
 refine ⟨fun B m lh w args vs K hrel hargs hsp=>?_,fun _ _ _ _ _ hk ⟨ds,d,p,r,h1,h2,h3,h4,h5⟩=>⟨ds,d,p,r,h1,h2,h3,h4,hk _ _ h5⟩,fun _ _ _ _ ⟨_,_,_,_,_,_,_,_,h⟩=>h⟩
 obtain ⟨ds,d,p,r,h1,h2,h3,h4,h5⟩:=hsp
 unfold BY at h2
 split at h2
 ·rename_i s g
  refine BU.sound B m lh w args vs K hrel hargs ⟨[s,.sl 0 zI],d,p,r,?_,h2,h3,h4,h5⟩
  simp only [vrs] at h1 ⊢
  obtain ⟨x,xs,e1,k1,y,ys,e2,k2,k3⟩:=h1
  exact ⟨x,xs,e1,k1,y,ys,e2,Jo k2,k3⟩
 ·cases h2
theorem Fm {n0:Nat} {f0:Nat->List V} {n2:Nat} {f2:Nat->List V} {n4:Nat} {f4:Nat->List V} {n6:Nat} {f6:Nat->List V} (g:Nat->List V):F44 n0 f0 n2 f2 n4 f4 n6 f6 0 g=bA n0 (elV tyR f0) n2 (elV tyT f2) n4 (elV tyF f4) n6 (elV tyC f6):=by
 unfold F44
 have ho : ∀ e,wj 0 g e=e:=fun e=>by
  unfold wj
  cases h:e == 0 with
  | true => have:e=0:=by simpa using h
            subst this; rfl
  | false=>rfl
 rw [ho]
 exact EM
end Go.Dx
namespace Go.Dx
open Go.IntKind (i64 u64 u8)
open Go.Sx Go.Proofs
noncomputable section
def ze:aX:=(34,.conL 1 3 C34 we)::Ai
theorem Ar:aW Tryz.prog eqs its ze:=.conL Dm (Cb)
def m89 (s0:ByteArray) (x1:Int) (n2:Nat) (f2:FnV) (x4:Int) (s5:ByteArray) (x6 x7 x8 x9 x10:Int):RT Empty:=.obi (.obi (.br (x1 != 1) (.ob (x1 != 1) (.ob (x1 != 1) (.ob (x1 != 1) (.obc (.obt (.ret (V.bool (F74 n2 (elV tp2 f2) x4 x6 x7)))))))) (.ret (V.kb false))))
theorem Nq (s0:ByteArray) (x1:Int) (n2:Nat) (f2:FnV) (x4:Int) (s5:ByteArray) (x6 x7 x8 x9 x10:Int):Fit noD (aZ JJ ze u0 s89 [V.agg [V.str s0,vi x1,V.sl n2 (elV tp2 f2),vi x4],V.pd [V.str s5,vi x6,vi x7,vi x8,vi x9,vi x10]]) (m89 s0 x1 n2 f2 x4 s5 x6 x7 x8 x9 x10):=⟨by kernel_rfl,by kernel_rfl⟩
def sR (x1:Int) (n2:Nat) (f2:FnV) (x4 x6 x7:Int):Bool:=bif x1 != 1 then F74 n2 (elV tp2 f2) x4 x6 x7 else false
def R89 (s0:ByteArray) (x1:Int) (n2:Nat) (f2:FnV) (x4:Int) (s5:ByteArray) (x6 x7 x8 x9 x10:Int):V:=.bool (sR x1 n2 f2 x4 x6 x7)
theorem Rx (s0:ByteArray) (x1:Int) (n2:Nat) (f2:FnV) (x4:Int) (s5:ByteArray) (x6 x7 x8 x9 x10:Int):evR noE (m89 s0 x1 n2 f2 x4 s5 x6 x7 x8 x9 x10) (R89 s0 x1 n2 f2 x4 s5 x6 x7 x8 x9 x10):=ae (ae (aC (fun h0=>ar (by first | assumption | (fail)) (ar (by first | assumption | (fail)) (ar (by first | assumption | (fail)) (evObc (evObt (evRet (by unfold R89 sR; try rw [h0]; rfl))))))) (fun h0=>evRet (by unfold R89 sR; try rw [h0]; rfl))))
def C89:aJ:=mkC [.agg tyR,.pd tyC] (fun _=>True) fun
 | [.agg [.str s0,.int _ x1,.sl n2 f2,.int _ x4],.pd [.str s5,.int _ x6,.int _ x7,.int _ x8,.int _ x9,.int _ x10]]=>R89 s0 x1 n2 f2 x4 s5 x6 x7 x8 x9 x10
 | _=>.any
theorem GG:(vP C89).Ok Tryz.prog 89:=mkE Ar Tryz.func89 (by kernel_rfl) fun ds hp=>rf0 (Nq ..) (Rx _ _ _ _ _ _ _ _ _ _ _)
end
noncomputable section
def yo:aX:=(89,.con C89)::ze
theorem Gs:aW Tryz.prog eqs its yo:=.con GG (Ar)
inductive oS where
 | L0 (ia0:Int)
def GN (n0:Nat) (f0:FnV) (s2:ByteArray) (x3 x4 x5 x6 x7:Int):oS->Env × List O × Option Ex
 | .L0 ia0=>([(8,vi ia0),(7,vi (↑n0:Int)),(6,V.sl n0 (elV tyR f0)),(4,vi 0),(0,V.sl n0 (elV tyR f0)),(1,V.fn 89 [] [V.pd [V.str s2,vi x3,vi x4,vi x5,vi x6,vi x7]])],[],none)
def Je:oS->JJ
 | .L0 ia0=>(0,[])
def DY (n0:Nat) (f0:FnV) (s2:ByteArray) (x3 x4 x5 x6 x7:Int):T (bF JJ):=aZ JJ yo u0 LM [V.sl n0 (elV tyR f0),V.fn 89 [] [V.pd [V.str s2,vi x3,vi x4,vi x5,vi x6,vi x7]]]
def xC (n0:Nat) (f0:FnV) (s2:ByteArray) (x3 x4 x5 x6 x7:Int) (cx:List Cx):Lp JJ:=lpT (atT (DY n0 f0 s2 x3 x4 x5 x6 x7) [])
def IF (n0:Nat) (f0:FnV) (s2:ByteArray) (x3 x4 x5 x6 x7:Int):JJ->Lp JJ
 | (0,cx)=>xC n0 f0 s2 x3 x4 x5 x6 x7 cx
 | (_,cx)=>xC n0 f0 s2 x3 x4 x5 x6 x7 cx
def NN (n0:Nat) (f0:FnV) (s2:ByteArray) (x3 x4 x5 x6 x7:Int):LD JJ oS:=⟨Je,IF n0 f0 s2 x3 x4 x5 x6 x7,GN n0 f0 s2 x3 x4 x5 x6 x7⟩
def xM (n0:Nat) (f0:FnV) (s2:ByteArray) (x3 x4 x5 x6 x7:Int):oS->RT oS
 | .L0 ia0=>.br (decide (ia0 < (↑n0:Int))) (.ob (decide (0<=ia0/\ia0 < (↑n0:Int))) (.obc (.obt (.br (sR (jv1 (f0 ia0.toNat)) (ap (hdV (tlV (tlV (f0 ia0.toNat))))) (fun i=>ak tp2 (atV (hdV (tlV (tlV (f0 ia0.toNat)))) i)) (jv3 (f0 ia0.toNat)) x3 x4) (.ret (vi ia0)) (.next [] (oS.L0 (i64.wrap (ia0+1))) []))))) (.ret (vi (-1)))
def CI (n0:Nat) (f0:FnV) (s2:ByteArray) (x3 x4 x5 x6 x7:Int):RT oS:=.asm (true=true->n0<=9223372036854775807) (.enter [] (oS.L0 (0)) [])
theorem Gf (n0:Nat) (f0:FnV) (s2:ByteArray) (x3 x4 x5 x6 x7:Int):ep yo u0 (NN n0 f0 s2 x3 x4 x5 x6 x7) (DY n0 f0 s2 x3 x4 x5 x6 x7) (CI n0 f0 s2 x3 x4 x5 x6 x7) (xM n0 f0 s2 x3 x4 x5 x6 x7):=⟨⟨by kernel_rfl,by kernel_rfl⟩,fun s=>by cases s <;> exact ⟨by kernel_rfl,by kernel_rfl⟩⟩
def tq (n0:Nat) (f0:FnV) (x3 x4:Int):Int  :=idx n0 fun ii=>sR (jv1 (f0 ii)) (ap (hdV (tlV (tlV (f0 ii))))) (fun i=>ak tp2 (atV (hdV (tlV (tlV (f0 ii)))) i)) (jv3 (f0 ii)) x3 x4
theorem D4 (n0:Nat) (f0:FnV) (s2:ByteArray) (x3 x4 x5 x6 x7:Int):evR (Ev (xM n0 f0 s2 x3 x4 x5 x6 x7)) (CI n0 f0 s2 x3 x4 x5 x6 x7) (.int .i64 (tq n0 f0 x3 x4)):=bt fun hn=>aG (kQ hn fun i=>rfl)
theorem JX (n0:Nat) (f0:FnV) (s2:ByteArray) (x3 x4 x5 x6 x7:Int):evR (Ev (xM n0 f0 s2 x3 x4 x5 x6 x7)) (CI n0 f0 s2 x3 x4 x5 x6 x7) (.int .i64 (tq n0 (elV tyR f0) x3 x4)):=D4 n0 f0 s2 x3 x4 x5 x6 x7
def zZ:aJ:=mkC [.sl tyR,.fn 89 [] [.pd tyC]] (fun _=>True) fun
 | [.sl n0 f0,.fn _ [] [.pd [.str s2,.int _ x3,.int _ x4,.int _ x5,.int _ x6,.int _ x7]]]=>.int .i64 (tq n0 f0 x3 x4)
 | _=>.any
theorem yY:(vP zZ).Ok Tryz.prog 129:=mkE Gs Tryz.func129 (by kernel_rfl) fun ds hp=>rfs (Gf ..) (JX _ _ _ _ _ _ _ _)
end
noncomputable section
def Eb:aX:=[(129,.con zZ),(89,.con C89),(34,.conL 1 3 C34 we),(19,.con C19),(131,.con tb),(19,.con C19),(75,.con C75),(22,.con C22),(15,.con C15),(55,.con C55),(61,.con C61),(74,.con C74),(108,.con xI),(46,.con C46),(111,.con tU),(56,.con C56),(47,.con C47),(145,.con uX),(140,.con ur),(49,.con C49),(123,.con ud),(124,.con vz),(50,.con C50),(44,.con C44),(91,.con C91),(24,.con C24),(23,.con C23),(70,.con C70),(62,.con C62),(68,.con C68),(63,.con C63),(69,.con C69),(117,.inl wg u0),(116,.inl wD u0),(115,.con vc),(114,.con vn),(73,.con C73),(147,.con vd),(64,.con C64),(66,.con C66),(113,.con sd),(65,.con C65),(67,.con C67),(53,.con C53),(122,.con rP),(72,.con C72),(45,.con C45),(90,.con C90),(119,.con rG),(121,.con rU),(99,.con C99),(148,.con rX),(149,.con su),(112,.con rY),(118,.con rQ),(120,.con sF),(51,.con C51),(133,.con sD),(103,.con sg),(106,.con sk),(100,.con sj),(150,.con rJ),(134,.con rL),(135,.con sB),(137,.con sC),(138,.con rS),(78,.con C78),(54,.con C54),(48,.con C48),(102,.con sw),(84,.con C84),(85,.con C85),(127,.con rR),(101,.con sA),(86,.con C86),(71,.con C71),(93,.con C93),(92,.con C92),(79,.con C79),(136,.con r0),(125,.con sr),(162,.con rZ),(146,.con rT),(83,.inl s83 u0)]
theorem F3:aW Tryz.prog eqs its Eb:=.con yY (.con GG (.conL Dm (.con qc (.con rm (.con qc (.con Bg (.con y5 (.con xR (.con yn (.con yZ (.con y8 (.con qC (.con xV (.con oI (.con vH (.con wC (.con oM (.con oV (.con wm (.con o8 (.con oJ (.con wk (.con BU (.con vD (.con vE (.con wp (.con wo (.con wq (.con wJ (.con vT (.con wG (.inl Tryz.func117 (by kernel_rfl) (by kernel_rfl) (by kernel_rfl) (.inl Tryz.func116 (by kernel_rfl) (by kernel_rfl) (by kernel_rfl) (.con oG (.con oF (.con wY (.con o0 (.con wW (.con xx (.con mT (.con tR (.con uO (.con tW (.con mI (.con vw (.con uA (.con yU (.con mC (.con mf (.con uc (.con mz (.con lW (.con mj (.con mH (.con mF (.con tP (.con mN (.con lL (.con lV (.con mX (.con mn (.con mu (.con lG (.con lJ (.con mJ (.con uD (.con tS (.con vl (.con my (.con tQ (.con uw (.con mP (.con mw (.con uU (.con uZ (.con vt (.con ub (.con vm (.con mD (.con lE (.con lD (.con oZ (.inl Tryz.func83 (by kernel_rfl) (by kernel_rfl) (by kernel_rfl) (.nil))))))))))))))))))))))))))))))))))))))))))))))))))))))))))))))))))))))))))))))))))))
def KX (n0:Nat) (f0:FnV) (s2:ByteArray) (x3 x4 x5 x6 x7:Int):RT Empty:=.obc (.obt (.ret (V.bool (decide (0<=tq n0 (elV tyR f0) x3 x4)))))
theorem II (n0:Nat) (f0:FnV) (s2:ByteArray) (x3 x4 x5 x6 x7:Int):Fit noD (aZ JJ Eb u0 s90 [V.sl n0 (elV tyR f0),V.fn 89 [] [V.pd [V.str s2,vi x3,vi x4,vi x5,vi x6,vi x7]]]) (KX n0 f0 s2 x3 x4 x5 x6 x7):=⟨by kernel_rfl,by kernel_rfl⟩
def nk (n0:Nat) (f0:FnV) (x3 x4:Int):Bool:=decide (0<=tq n0 (elV tyR f0) x3 x4)
def J5 (n0:Nat) (f0:FnV) (s2:ByteArray) (x3 x4 x5 x6 x7:Int):V:=.bool (nk n0 f0 x3 x4)
theorem NF (n0:Nat) (f0:FnV) (s2:ByteArray) (x3 x4 x5 x6 x7:Int):evR noE (KX n0 f0 s2 x3 x4 x5 x6 x7) (J5 n0 f0 s2 x3 x4 x5 x6 x7):=evObc (evObt (evRet (by unfold J5 nk; rfl)))
def J9:aJ:=mkC [.sl tyR,.fn 89 [] [.pd tyC]] (fun _=>True) fun
 | [.sl n0 f0,.fn _ [] [.pd [.str s2,.int _ x3,.int _ x4,.int _ x5,.int _ x6,.int _ x7]]]=>J5 n0 f0 s2 x3 x4 x5 x6 x7
 | _=>.any
theorem G1:(vP J9).Ok Tryz.prog 90:=mkE F3 Tryz.func90 (by kernel_rfl) fun ds hp=>rf0 (II ..) (NF _ _ _ _ _ _ _ _)
end
end Go.Dx
namespace Go.Dx
theorem LY {a b:Bool} (h:(a && b)=true):a=true:=by cases a <;> simp_all
theorem ON {a b:Bool} (h:(a && b)=true):b=true:=by cases a <;> simp_all
theorem GS {a b:Bool} (h:(a && b)=false) (q:b=true):a=false:=by cases a <;> simp_all
theorem Kl {ts:List Ty} (h:ts.all be=true) (n:Nat) {f:Nat->List V} (hf:∀ i,ak ts (f i)=f i):u9 ts n f:=fun i _=>by
 have h1:=fT h (f i)
 have h2:=jO h (f i)
 rw [hf i] at h1 h2 ⊢
 exact ⟨h1,h2⟩
end Go.Dx
namespace Go.Dx
open Go.IntKind (i64 u64 u8)
open Go.Sx Go.Proofs
noncomputable section
def jU:aX:=[(90,.con J9),(129,.con zZ),(89,.con C89),(34,.conL 1 3 C34 we),(19,.con C19),(131,.con tb),(19,.con C19),(75,.con C75),(22,.con C22),(15,.con C15),(55,.con C55),(61,.con C61),(74,.con C74),(108,.con xI),(46,.con C46),(111,.con tU),(56,.con C56),(47,.con C47),(145,.con uX),(140,.con ur),(49,.con C49),(123,.con ud),(124,.con vz),(50,.con C50),(44,.con BY),(91,.con C91),(24,.con C24),(23,.con C23),(70,.con C70),(62,.con C62),(68,.con C68),(63,.con C63),(69,.con C69),(117,.inl wg u0),(116,.inl wD u0),(115,.con vc),(114,.con vn),(73,.con C73),(147,.con vd),(64,.con C64),(66,.con C66),(113,.con sd),(65,.con C65),(67,.con C67),(53,.con C53),(122,.con rP),(72,.con C72),(45,.con C45),(119,.con rG),(121,.con rU),(99,.con C99),(148,.con rX),(149,.con su),(112,.con rY),(118,.con rQ),(120,.con sF),(51,.con C51),(133,.con sD),(103,.con sg),(106,.con sk),(100,.con sj),(150,.con rJ),(134,.con rL),(135,.con sB),(137,.con sC),(138,.con rS),(78,.con C78),(54,.con C54),(48,.con C48),(102,.con sw),(84,.con C84),(85,.con C85),(127,.con rR),(101,.con sA),(86,.con C86),(71,.con C71),(93,.con C93),(92,.con C92),(79,.con C79),(136,.con r0),(125,.con sr),(162,.con rZ),(146,.con rT),(83,.inl s83 u0)]
theorem uH:aW Tryz.prog eqs its jU:=.con G1 (.con yY (.con GG (.conL Dm (.con qc (.con rm (.con qc (.con Bg (.con y5 (.con xR (.con yn (.con yZ (.con y8 (.con qC (.con xV (.con oI (.con vH (.con wC (.con oM (.con oV (.con wm (.con o8 (.con oJ (.con wk (.con zp (.con vD (.con vE (.con wp (.con wo (.con wq (.con wJ (.con vT (.con wG (.inl Tryz.func117 (by kernel_rfl) (by kernel_rfl) (by kernel_rfl) (.inl Tryz.func116 (by kernel_rfl) (by kernel_rfl) (by kernel_rfl) (.con oG (.con oF (.con wY (.con o0 (.con wW (.con xx (.con mT (.con tR (.con uO (.con tW (.con mI (.con vw (.con uA (.con mC (.con mf (.con uc (.con mz (.con lW (.con mj (.con mH (.con mF (.con tP (.con mN (.con lL (.con lV (.con mX (.con mn (.con mu (.con lG (.con lJ (.con mJ (.con uD (.con tS (.con vl (.con my (.con tQ (.con uw (.con mP (.con mw (.con uU (.con uZ (.con vt (.con ub (.con vm (.con mD (.con lE (.con lD (.con oZ (.inl Tryz.func83 (by kernel_rfl) (by kernel_rfl) (by kernel_rfl) (.nil))))))))))))))))))))))))))))))))))))))))))))))))))))))))))))))))))))))))))))))))))))
attribute [local irreducible] F44 dD cG dI aN aM F75 nk
inductive S37 where
 | L0 (ia0:Int) (na1:Nat) (fa2:Nat->List V)
def N3 (n0:Nat) (f0:FnV) (n2:Nat) (f2:FnV) (n4:Nat) (f4:FnV) (n6:Nat) (f6:FnV):S37->Env × List O × Option Ex
 | .L0 ia0 na1 fa2=>([(17,vi ia0),(16,vi (↑n6:Int)),(15,V.sl n6 (elV tyC f6)),(5,V.gs 0 na1),(1,V.pl 1 0)],[O.gl 1 na1 (elV tp1 fa2) 3,O.cells [V.sl n0 (elV tyR f0),V.sl n2 (elV tyT f2),V.sl n4 (elV tyF f4),V.sl n6 (elV tyC f6)] 27],none)
def QQ:S37->JJ
 | .L0 ia0 na1 fa2=>(0,[])
def KT (n0:Nat) (f0:FnV) (n2:Nat) (f2:FnV) (n4:Nat) (f4:FnV) (n6:Nat) (f6:FnV):T (bF JJ):=tA JJ 1 3 jU u0 s37 [scV n0 f0 n2 f2 n4 f4 n6 f6]
def Dc (n0:Nat) (f0:FnV) (n2:Nat) (f2:FnV) (n4:Nat) (f4:FnV) (n6:Nat) (f6:FnV) (cx:List Cx):Lp JJ:=lpT (atT (KT n0 f0 n2 f2 n4 f4 n6 f6) [false])
def Px (n0:Nat) (f0:FnV) (n2:Nat) (f2:FnV) (n4:Nat) (f4:FnV) (n6:Nat) (f6:FnV):JJ->Lp JJ
 | (0,cx)=>Dc n0 f0 n2 f2 n4 f4 n6 f6 cx
 | (_,cx)=>Dc n0 f0 n2 f2 n4 f4 n6 f6 cx
def D37 (n0:Nat) (f0:FnV) (n2:Nat) (f2:FnV) (n4:Nat) (f4:FnV) (n6:Nat) (f6:FnV):LD JJ S37:=⟨QQ,Px n0 f0 n2 f2 n4 f4 n6 f6,N3 n0 f0 n2 f2 n4 f4 n6 f6⟩
def Fz (n0:Nat) (f0:FnV) (n2:Nat) (f2:FnV) (n4:Nat) (f4:FnV) (n6:Nat) (f6:FnV):S37->RT S37
 | .L0 ia0 na1 fa2=>.br (decide (ia0 < (↑n6:Int))) (.ob (decide (0<=ia0/\ia0 < (↑n6:Int))) (.obc (.obt (.br (nk n0 (elV tyR f0) (jv1 (f6 ia0.toNat)) (jv2 (f6 ia0.toNat))) (.obt (.ob (decide (na1<=na1/\(na1+1) * 8<=140737488355328) && !Nat.beq 8 0) (.next [some (some 4),some (some 1)] (S37.L0 (i64.wrap (ia0+1)) (na1+1) (bb na1 (elV tp1 fa2) fun x=>[vi ia0])) [⟨0,tp1,na1+1,bb na1 (elV tp1 fa2) fun x=>[vi ia0],gW (ah rfl _ _) (gk rfl _ rfl)⟩]))) (.next [some (some 0),some (some 1)] (S37.L0 (i64.wrap (ia0+1)) (na1) (elV tp1 fa2)) [⟨0,tp1,na1,elV tp1 fa2,ah rfl _ _⟩]))))) (.ob (decide (na1<=na1)) (.ret (V.tup [V.sl na1 (elV tp1 fa2),vi 0])))
def m37 (n0:Nat) (f0:FnV) (n2:Nat) (f2:FnV) (n4:Nat) (f4:FnV) (n6:Nat) (f6:FnV):RT S37:=.obp (((∀ (i:Nat),i < n0->(sv (hdV (f0 i))).size<=(9223372036854775807:Nat))/\∀ (i:Nat),i < n6->(sv (hdV (f6 i))).size<=(9223372036854775807:Nat))/\(0:Nat)=(0:Nat)/\(0:Nat)<=(100:Nat)) (.obt (.br ((F44 n0 (elV tyR f0) n2 (elV tyT f2) n4 (elV tyF f4) n6 (elV tyC f6) 0 fun a=>[vi (jv0 [])]) != 0) (.obt (.ret (V.tup [V.sl 0 fun x=>[],vi (F44 n0 (elV tyR f0) n2 (elV tyT f2) n4 (elV tyF f4) n6 (elV tyC f6) 0 fun a=>[vi (jv0 [])])]))) (.asm (true=true->n6<=9223372036854775807) (.enter [some none,some (some 0)] (S37.L0 (0) (0) (fun i=>[])) []))))
theorem N6 (n0:Nat) (f0:FnV) (n2:Nat) (f2:FnV) (n4:Nat) (f4:FnV) (n6:Nat) (f6:FnV):ep jU u0 (D37 n0 f0 n2 f2 n4 f4 n6 f6) (KT n0 f0 n2 f2 n4 f4 n6 f6) (m37 n0 f0 n2 f2 n4 f4 n6 f6) (Fz n0 f0 n2 f2 n4 f4 n6 f6):=⟨⟨by kernel_rfl,by kernel_rfl⟩,fun s=>by cases s <;> exact ⟨by kernel_rfl,by kernel_rfl⟩⟩
def stI (q:Nat->Bool):Nat->List Int
 | 0=>[]
 | k+1=>bif q k then stI q k++[(k:Int)] else stI q k
theorem ms (q:Nat->Bool):∀ k,(stI q k).length<=k
 | 0=>Nat.le_refl _
 | k+1=>by
   have:=ms q k
   unfold stI
   cases q k with
   | true=>simp; omega
   | false=>simp; omega
theorem tj {p q:Nat->Bool}:∀ k,(∀ i,i < k->p i=q i)->stI p k=stI q k
 | 0,_=>rfl
 | k+1,h=>by unfold stI; rw [tj k fun i hi=>h i (by omega),h k (by omega)]
theorem EV {n0:Nat} {f0:Nat->List V} {n2:Nat} {f2:Nat->List V} {n4:Nat} {f4:Nat->List V} {n6:Nat} {f6:Nat->List V} (he:bA n0 (elV tyR f0) n2 (elV tyT f2) n4 (elV tyF f4) n6 (elV tyC f6)=0):n6<=24:=(sM he).l6
def q37 (n0:Nat) (f0 f6:Nat->List V) (i:Nat):Bool:=nk n0 (elV tyR f0) (jv1 (f6 i)) (jv2 (f6 i))
theorem c37 (n0:Nat) (f0:FnV) (n2:Nat) (f2:FnV) (n4:Nat) (f4:FnV) (n6:Nat) (f6:FnV) (h24:n6<=24) {r:V} (hr:r=.tup [.sl (stI (q37 n0 f0 f6) n6).length (elV tp1 (bnF (stI (q37 n0 f0 f6) n6))),.int .i64 0]) :
 ∀ k,k<=n6->∀ (n:Nat) (f:Nat->List V),n=(stI (q37 n0 f0 f6) k).length->(∀ j,j < n->ak tp1 (f j)=[V.int .i64 ((stI (q37 n0 f0 f6) k).getD j 0)]) ->
 Ev (Fz n0 f0 n2 f2 n4 f4 n6 f6) (.L0 (k:Int) n f) r:=by
 refine bJ fun k hk ih n f hn hf=>?_
 have hl:=ms (q37 n0 f0 f6) k
 refine Ev.of rfl ?_
 by_cases hlt:k < n6
 ·have hk1:i64.wrap ((k:Int)+1)=((k+1:Nat):Int):=by rw [av (by omega) (by omega)]; omega
  have ih:=ih hlt
  refine dT (dqt (by omega)) (ar (dqt (by omega)) (evObc (evObt (aC (fun hq=>evObt (ar ?_ (aL ?_))) (fun hq=>aL ?_)))))
  ·simp only [Bool.and_eq_true]; exact ⟨dqt ⟨Nat.le_refl _,by omega⟩,rfl⟩
  ·rw [hk1]; rw [Int.toNat_natCast] at hq
   have e:stI (q37 n0 f0 f6) (k+1)=stI (q37 n0 f0 f6) k++[(k:Int)]:=by rw [stI,show q37 n0 f0 f6 k=true from hq]; rfl
   refine ih _ _ (by rw [e,hn]; simp) ?_
   rw [e]
   exact m7 hn hf
  ·rw [hk1]; rw [Int.toNat_natCast] at hq
   have e:stI (q37 n0 f0 f6) (k+1)=stI (q37 n0 f0 f6) k:=by rw [stI,show q37 n0 f0 f6 k=false from hq]; rfl
   refine ih _ _ (by rw [e,hn]) ?_
   rw [e]
   exact fun j hj=>by show ak _ (ak _ (f j))=_; rw [bL]; exact hf j hj
 ·have e:k=n6:=by omega
  refine dF (dqf (by omega)) (ar (dqt (Nat.le_refl _)) (evRet ?_))
  rw [hr,← e]
  exact gT (eR hn fun i hi=>by show ck (ak _ (f i))=_; rw [hf i hi]; rfl) rfl
theorem z37 (n0:Nat) (f0:FnV) (n2:Nat) (f2:FnV) (n4:Nat) (f4:FnV) (n6:Nat) (f6:FnV) (he:((F44 n0 (elV tyR f0) n2 (elV tyT f2) n4 (elV tyF f4) n6 (elV tyC f6) 0 fun a=>[vi (jv0 [])]) != 0)=false):n6<=24:=by
 have e0:(F44 n0 (elV tyR f0) n2 (elV tyT f2) n4 (elV tyF f4) n6 (elV tyC f6) 0 fun a=>[vi (jv0 [])])=0:=by simpa using he
 rw [Fm] at e0
 exact EV e0
theorem Ca (n0:Nat) (f0:FnV) (n2:Nat) (f2:FnV) (n4:Nat) (f4:FnV) (n6:Nat) (f6:FnV):(bif (F44 n0 (elV tyR f0) n2 (elV tyT f2) n4 (elV tyF f4) n6 (elV tyC f6) 0 fun a=>[vi (jv0 [])]) != 0 then 0 else (stI (q37 n0 f0 f6) n6).length)<=9223372036854775807:=by
 cases h:(F44 n0 (elV tyR f0) n2 (elV tyT f2) n4 (elV tyF f4) n6 (elV tyC f6) 0 fun a=>[vi (jv0 [])]) != 0 with
 | true=>exact Nat.zero_le _
 | false =>
   have:=z37 n0 f0 n2 f2 n4 f4 n6 f6 h
   have hl:=ms (q37 n0 f0 f6) n6
   show (stI (q37 n0 f0 f6) n6).length<=_
   omega
theorem JI (n0:Nat) (f0:FnV) (n2:Nat) (f2:FnV) (n4:Nat) (f4:FnV) (n6:Nat) (f6:FnV) (hp:bc n0 f0/\bc n6 f6):evR (Ev (Fz n0 f0 n2 f2 n4 f4 n6 f6)) (m37 n0 f0 n2 f2 n4 f4 n6 f6) (bnR (F44 n0 (elV tyR f0) n2 (elV tyT f2) n4 (elV tyF f4) n6 (elV tyC f6) 0 fun a=>[vi (jv0 [])]) (stI (q37 n0 f0 f6) n6)):=cD ⟨hp,rfl,by decide⟩ (evObt (aC (fun h=>evObt (evRet (by
 unfold bnR; rw [h]; exact gT (eR rfl fun i hi=>absurd hi (Nat.not_lt_zero _)) rfl))) (fun h=>by
 have z1:=z37 n0 f0 n2 f2 n4 f4 n6 f6 h
 have e0:(F44 n0 (elV tyR f0) n2 (elV tyT f2) n4 (elV tyF f4) n6 (elV tyC f6) 0 fun a=>[vi (jv0 [])])=0:=by simpa using h
 refine bt fun hl=>aG ?_
 refine c37 n0 f0 n2 f2 n4 f4 n6 f6 z1 ?_ 0 (Nat.zero_le _) 0 _ rfl (fun j hj=>absurd hj (Nat.not_lt_zero _))
 unfold bnR; rw [e0]; rfl)))
def lS (n0:Nat) (f0:FnV) (n2:Nat) (f2:FnV) (n4:Nat) (f4:FnV) (n6:Nat) (f6:FnV):Int:=F44 n0 (elV tyR f0) n2 (elV tyT f2) n4 (elV tyF f4) n6 (elV tyC f6) 0 fun a=>[vi (jv0 [])]
def cY (n0:Nat) (f0:FnV) (n2:Nat) (f2:FnV) (n4:Nat) (f4:FnV) (n6:Nat) (f6:FnV):Nat:=(bif lS n0 f0 n2 f2 n4 f4 n6 f6 != 0 then 0 else (stI (q37 n0 f0 f6) n6).length)
def dB (n0:Nat) (f0:FnV) (n2:Nat) (f2:FnV) (n4:Nat) (f4:FnV) (n6:Nat) (f6:FnV):Nat->List V:=bnF (stI (q37 n0 f0 f6) n6)
theorem O6 (n0:Nat) (f0:FnV) (n2:Nat) (f2:FnV) (n4:Nat) (f4:FnV) (n6:Nat) (f6:FnV) (hp:bc n0 (elV tyR f0)/\bc n6 (elV tyC f6)):evR (Ev (Fz n0 f0 n2 f2 n4 f4 n6 f6)) (m37 n0 f0 n2 f2 n4 f4 n6 f6) (.tup [.sl (cY n0 (elV tyR f0) n2 (elV tyT f2) n4 (elV tyF f4) n6 (elV tyC f6)) (elV tp1 (dB n0 (elV tyR f0) n2 (elV tyT f2) n4 (elV tyF f4) n6 (elV tyC f6))),.int .i64 (lS n0 (elV tyR f0) n2 (elV tyT f2) n4 (elV tyF f4) n6 (elV tyC f6))]):=by
 show evR _ _ (bnR (F44 n0 (elV tyR (elV tyR f0)) n2 (elV tyT (elV tyT f2)) n4 (elV tyF (elV tyF f4)) n6 (elV tyC (elV tyC f6)) 0 fun a=>[vi (jv0 [])]) (stI (q37 n0 (elV tyR f0) (elV tyC f6)) n6))
 exact JI n0 f0 n2 f2 n4 f4 n6 f6 hp
def R37:List V->V
 | [.agg [.sl n0 f0,.sl n2 f2,.sl n4 f4,.sl n6 f6]]=>.tup [.sl (cY n0 f0 n2 f2 n4 f4 n6 f6) (elV tp1 (dB n0 f0 n2 f2 n4 f4 n6 f6)),.int .i64 (lS n0 f0 n2 f2 n4 f4 n6 f6)]
 | _=>.any
def P37:List V->Prop
 | [.agg [.sl n0 f0,.sl n2 f2,.sl n4 f4,.sl n6 f6]]=>bc n0 f0/\bc n6 f6
 | _=>False
def OB:List Ty:=[.agg [.sl tyR,.sl tyT,.sl tyF,.sl tyC]]
def C37:aJ:=mkC OB P37 R37
theorem Kn:∀ ds d p r,C37 ds=some (d,p,r)->d.1=d.2->p->okL 1 r:=pG fun ds _=>pp rfl rfl rfl (Ca _ _ _ _ _ _ _ _)
theorem Pk:(vL 1 3 C37).Ok Tryz.prog 37:=Gv uH Tryz.func37 (by kernel_rfl) fun ds hp=>rfs (N6 ..) (O6 _ _ _ _ _ _ _ _ hp)
inductive S38 where
 | L0 (ia0:Int) (na1:Nat) (fa2:Nat->List V)
 | L1 (ib0:Int) (bb1:Bool) (ib2:Int) (nb3:Nat) (fb4:Nat->List V)
def GZ (n0:Nat) (f0:FnV) (n2:Nat) (f2:FnV) (n4:Nat) (f4:FnV) (n6:Nat) (f6:FnV):S38->Env × List O × Option Ex
 | .L0 ia0 na1 fa2=>([(6,vi ia0),(5,V.gs 0 na1),(1,V.pl 1 0)],[O.gl 1 na1 (elV tp1 fa2) 3,O.cells [V.sl n0 (elV tyR f0),V.sl n2 (elV tyT f2),V.sl n4 (elV tyF f4),V.sl n6 (elV tyC f6)] 27],none)
 | .L1 ib0 bb1 ib2 nb3 fb4=>([(8,vi ib0),(7,V.bool bb1),(6,vi ib2),(5,V.gs 0 nb3),(1,V.pl 1 0)],[O.gl 1 nb3 (elV tp1 fb4) 3,O.cells [V.sl n0 (elV tyR f0),V.sl n2 (elV tyT f2),V.sl n4 (elV tyF f4),V.sl n6 (elV tyC f6)] 27],none)
def OV:S38->JJ
 | .L0 ia0 na1 fa2=>(0,[])
 | .L1 ib0 bb1 ib2 nb3 fb4=>(1,[])
def Lb (n0:Nat) (f0:FnV) (n2:Nat) (f2:FnV) (n4:Nat) (f4:FnV) (n6:Nat) (f6:FnV):T (bF JJ):=tA JJ 1 3 jU u0 s38 [scV n0 f0 n2 f2 n4 f4 n6 f6]
def yA (n0:Nat) (f0:FnV) (n2:Nat) (f2:FnV) (n4:Nat) (f4:FnV) (n6:Nat) (f6:FnV) (cx:List Cx):Lp JJ:=lpT (atT (Lb n0 f0 n2 f2 n4 f4 n6 f6) [false])
def Hz (n0:Nat) (f0:FnV) (n2:Nat) (f2:FnV) (n4:Nat) (f4:FnV) (n6:Nat) (f6:FnV) (cx:List Cx):Lp JJ:=lpT (atT (rdP jU u0 (0,[]) (yA n0 f0 n2 f2 n4 f4 n6 f6 []) (GZ n0 f0 n2 f2 n4 f4 n6 f6 (.L0 (0:Int) 0 (fun _=>[])))) [true])
def Qz (n0:Nat) (f0:FnV) (n2:Nat) (f2:FnV) (n4:Nat) (f4:FnV) (n6:Nat) (f6:FnV):JJ->Lp JJ
 | (0,cx)=>yA n0 f0 n2 f2 n4 f4 n6 f6 cx
 | (1,cx)=>Hz n0 f0 n2 f2 n4 f4 n6 f6 cx
 | (_,cx)=>yA n0 f0 n2 f2 n4 f4 n6 f6 cx
def D38 (n0:Nat) (f0:FnV) (n2:Nat) (f2:FnV) (n4:Nat) (f4:FnV) (n6:Nat) (f6:FnV):LD JJ S38:=⟨OV,Qz n0 f0 n2 f2 n4 f4 n6 f6,GZ n0 f0 n2 f2 n4 f4 n6 f6⟩
def BF (n0:Nat) (f0:FnV) (n2:Nat) (f2:FnV) (n4:Nat) (f4:FnV) (n6:Nat) (f6:FnV):S38->RT S38
 | .L0 ia0 na1 fa2=>.asm (true=true->n6<=9223372036854775807) (.br (decide (ia0 < (↑n6:Int))) (.enter [some (some 0),some (some 1)] (S38.L1 (0) (false) (ia0) (na1) (elV tp1 fa2)) [⟨0,tp1,na1,elV tp1 fa2,ah rfl _ _⟩]) (.ob (decide (na1<=na1)) (.ret (V.tup [V.sl na1 (elV tp1 fa2),vi 0]))))
 | .L1 ib0 bb1 ib2 nb3 fb4=>.asm (true=true->n0<=9223372036854775807) (.br (decide (ib0 < (↑n0:Int))) (.obi (.obi (.obi (.obj (!bb1) (decide (0<=ib0/\ib0 < (↑n0:Int))) (.obi (.obi (.obi (.obi (.obi (.obi (.obi (.obj (!bb1 && jv1 (f0 ib0.toNat) != 1) (decide (0<=ib0/\ib0 < (↑n0:Int))) (.obi (.obi (.obi (.obi (.obj (!bb1 && jv1 (f0 ib0.toNat) != 1) (decide (0<=ib2/\ib2 < (↑n6:Int))) (.obi (.obi (.obi (.obi (.obi (.obj (!bb1 && jv1 (f0 ib0.toNat) != 1) (decide (0<=ib2/\ib2 < (↑n6:Int))) (.obi (.obi (.br (!bb1 && jv1 (f0 ib0.toNat) != 1) (.ob (!bb1 && jv1 (f0 ib0.toNat) != 1) (.ob (!bb1 && jv1 (f0 ib0.toNat) != 1) (.ob (!bb1 && jv1 (f0 ib0.toNat) != 1) (.obc (.obt (.obi (.next [some (some 0),some (some 1)] (S38.L1 (i64.wrap (ib0+1)) (bif bb1 then true else F75 (ap (hdV (tlV (tlV (f0 ib0.toNat))))) (fun i=>ak tp2 (atV (hdV (tlV (tlV (f0 ib0.toNat)))) i)) (jv3 (f0 ib0.toNat)) (jv1 (f6 ib2.toNat)) (jv2 (f6 ib2.toNat))) (ib2) (nb3) (elV tp1 fb4)) [⟨0,tp1,nb3,elV tp1 fb4,ah rfl _ _⟩]))))))) (.obi (.br (jv1 (f0 ib0.toNat) != 1) (.obi (.brx (bb1) (.next [some (some 0),some (some 1)] (S38.L1 (i64.wrap (ib0+1)) (true) (ib2) (nb3) (elV tp1 fb4)) [⟨0,tp1,nb3,elV tp1 fb4,ah rfl _ _⟩]))) (.obi (.next [some (some 0),some (some 1)] (S38.L1 (i64.wrap (ib0+1)) (bif bb1 then true else false) (ib2) (nb3) (elV tp1 fb4)) [⟨0,tp1,nb3,elV tp1 fb4,ah rfl _ _⟩])))))))))))))))))))))))))))))) (.br (bb1) (.obt (.ob (decide (nb3<=nb3/\(nb3+1) * 8<=140737488355328) && !Nat.beq 8 0) (.next [some (some 3),some (some 1)] (S38.L0 (i64.wrap (ib2+1)) (nb3+1) (bb nb3 (elV tp1 fb4) fun x=>[vi ib2])) [⟨0,tp1,nb3+1,bb nb3 (elV tp1 fb4) fun x=>[vi ib2],gW (ah rfl _ _) (gk rfl _ rfl)⟩]))) (.next [some (some 0),some (some 1)] (S38.L0 (i64.wrap (ib2+1)) (nb3) (elV tp1 fb4)) [⟨0,tp1,nb3,elV tp1 fb4,ah rfl _ _⟩])))
def m38 (n0:Nat) (f0:FnV) (n2:Nat) (f2:FnV) (n4:Nat) (f4:FnV) (n6:Nat) (f6:FnV):RT S38:=.obp ((∀ (i:Nat),i < n0->(sv (hdV (f0 i))).size<=(9223372036854775807:Nat))/\∀ (i:Nat),i < n6->(sv (hdV (f6 i))).size<=(9223372036854775807:Nat)) (.obt (.br (cG n0 (elV tyR f0) n2 (elV tyT f2) n4 (elV tyF f4) n6 (elV tyC f6) != 0) (.obt (.ret (V.tup [V.sl 0 fun x=>[],vi (cG n0 (elV tyR f0) n2 (elV tyT f2) n4 (elV tyF f4) n6 (elV tyC f6))]))) (.enter [some none,some (some 0)] (S38.L0 (0) (0) (fun i=>[])) [])))
theorem MB (n0:Nat) (f0:FnV) (n2:Nat) (f2:FnV) (n4:Nat) (f4:FnV) (n6:Nat) (f6:FnV):ep jU u0 (D38 n0 f0 n2 f2 n4 f4 n6 f6) (Lb n0 f0 n2 f2 n4 f4 n6 f6) (m38 n0 f0 n2 f2 n4 f4 n6 f6) (BF n0 f0 n2 f2 n4 f4 n6 f6):=⟨⟨by kernel_rfl,by kernel_rfl⟩,fun s=>by cases s <;> exact ⟨by kernel_rfl,by kernel_rfl⟩⟩
def w38 (f0 f6:Nat->List V) (i j:Nat):Bool:=(jv1 (f0 j) != 1) && F75 (ap (hdV (tlV (tlV (f0 j))))) (fun i=>ak tp2 (atV (hdV (tlV (tlV (f0 j)))) i)) (jv3 (f0 j)) (jv1 (f6 i)) (jv2 (f6 i))
def q38 (n0:Nat) (f0 f6:Nat->List V) (i:Nat):Bool:=exB n0 (w38 f0 f6 i)
theorem wQ {n:Nat} {p:Nat->Bool}:exB (n+1) p=(exB n p || p n):=by
 cases h:exB n p with
 | true =>
   obtain ⟨i,hi,hp⟩:=uo.1 h
   rw [Bool.true_or]; exact bz i (by omega) hp
 | false =>
   rw [Bool.false_or]
   cases hn:p n with
   | true=>exact bz n (by omega) hn
   | false =>
     refine bG fun i hi=>?_
     rcases Nat.lt_or_ge i n with h1 | h1
     ·cases hp:p i with
      | false=>rfl
      | true=>rw [bz i h1 hp] at h; cases h
     ·rw [show i=n from by omega]; exact hn
theorem i38 (n0:Nat) (f0:FnV) (n2:Nat) (f2:FnV) (n4:Nat) (f4:FnV) (n6:Nat) (f6:FnV) {r:V} (i:Nat) (hi:i < n6) (n:Nat) (L:List Int) (hn:n=L.length) (h24:n<=24) (hi24:i<=24)
 (ih:∀ (n':Nat) (f':Nat->List V),n'=(bif q38 n0 f0 f6 i then L++[(i:Int)] else L).length->(∀ j,j < n'->ak tp1 (f' j)=[V.int .i64 ((bif q38 n0 f0 f6 i then L++[(i:Int)] else L).getD j 0)])->Ev (BF n0 f0 n2 f2 n4 f4 n6 f6) (.L0 ((i+1:Nat):Int) n' f') r) :
 ∀ k,k<=n0->∀ (f:Nat->List V),(∀ j,j < n->ak tp1 (f j)=[V.int .i64 (L.getD j 0)])->Ev (BF n0 f0 n2 f2 n4 f4 n6 f6) (.L1 (k:Int) (exB k (w38 f0 f6 i)) (i:Int) n f) r:=by
 refine bJ fun k hk ih2 f hf=>?_
 have hi1:i64.wrap ((i:Int)+1)=((i+1:Nat):Int):=by rw [av (by omega) (by omega)]; omega
 have hf':∀ j,j < n->ak tp1 (elV tp1 f j)=[V.int .i64 (L.getD j 0)]:=fun j hj=>by show ak _ (ak _ (f j))=_; rw [bL]; exact hf j hj
 refine Ev.of rfl (bt fun hm=>?_)
 by_cases hlt:k < n0
 ·have hk1:i64.wrap ((k:Int)+1)=((k+1:Nat):Int):=by rw [av (by omega) (by omega)]; omega
  have ih2:=ih2 hlt
  have hs:exB (k+1) (w38 f0 f6 i)=(exB k (w38 f0 f6 i) || w38 f0 f6 i k):=wQ
  refine dT (dqt (by omega)) (ae (ae (ae (ef (fun _=>dqt (by omega)) (ae (ae (ae (ae (ae (ae (ae (ef (fun _=>dqt (by omega)) (ae (ae (ae (ae (ef (fun _=>dqt (by omega)) (ae (ae (ae (ae (ae (ef (fun _=>dqt (by omega)) (ae (ae (aC (fun h=>ar h (ar h (ar h (evObc (evObt (ae (aL ?_))))))) (fun h=>ae (aC (fun h2=>ae (Oh (tnT (GS h h2)) (aL ?_))) (fun h2=>ae (aL ?_))))))))))))))))))))))))))))))
  ·rw [hk1]
   have hb:=tnF (LY h)
   have hv:=ON h
   rw [hb,cond_false]
   rw [hb,Bool.false_or] at hs
   rw [Int.toNat_natCast,Int.toNat_natCast]
   rw [Int.toNat_natCast] at hv
   have e:=ih2 _ hf'
   rw [hs] at e
   unfold w38 at e
   rw [hv,Bool.true_and] at e
   exact e
  ·rw [hk1]
   have hb:=tnT (GS h h2)
   have e:=ih2 _ hf'
   rw [hs,hb,Bool.true_or] at e
   exact e
  ·rw [hk1]
   rw [Int.toNat_natCast] at h2
   have e:=ih2 _ hf'
   rw [hs] at e
   unfold w38 at e
   rw [h2,Bool.false_and,Bool.or_false] at e
   cases hb:exB k (w38 f0 f6 i) with
   | true=>unfold w38 at hb; rw [hb] at e; exact e
   | false=>unfold w38 at hb; rw [hb] at e; exact e
 ·have e:k=n0:=by omega
  subst e
  refine dF (dqf (by omega)) (aC (fun hq=>evObt (ar ?_ (aL ?_))) (fun hq=>aL ?_))
  ·simp only [Bool.and_eq_true]; exact ⟨dqt ⟨Nat.le_refl _,by omega⟩,rfl⟩
  ·rw [hi1]
   rw [show q38 k f0 f6 i=true from hq,cond_true] at ih
   exact ih _ _ (by rw [hn]; simp) (m7 hn hf)
  ·rw [hi1]
   rw [show q38 k f0 f6 i=false from hq,cond_false] at ih
   exact ih _ _ hn hf'
theorem c38 (n0:Nat) (f0:FnV) (n2:Nat) (f2:FnV) (n4:Nat) (f4:FnV) (n6:Nat) (f6:FnV) (h24:n6<=24) {r:V} (hr:r=.tup [.sl (stI (q38 n0 f0 f6) n6).length (elV tp1 (bnF (stI (q38 n0 f0 f6) n6))),.int .i64 0]) :
 ∀ k,k<=n6->∀ (n:Nat) (f:Nat->List V),n=(stI (q38 n0 f0 f6) k).length->(∀ j,j < n->ak tp1 (f j)=[V.int .i64 ((stI (q38 n0 f0 f6) k).getD j 0)]) ->
 Ev (BF n0 f0 n2 f2 n4 f4 n6 f6) (.L0 (k:Int) n f) r:=by
 refine bJ fun k hk ih n f hn hf=>?_
 have hl:=ms (q38 n0 f0 f6) k
 refine Ev.of rfl (bt fun hm=>?_)
 by_cases hlt:k < n6
 ·have ih:=ih hlt
  refine dT (dqt (by omega)) (aG ?_)
  refine i38 n0 f0 n2 f2 n4 f4 n6 f6 k hlt n (stI (q38 n0 f0 f6) k) hn (by omega) (by omega) ih 0 (Nat.zero_le _) _ fun j hj=>?_
  show ak _ (ak _ (f j))=_
  rw [bL]
  exact hf j hj
 ·have e:k=n6:=by omega
  refine dF (dqf (by omega)) (ar (dqt (Nat.le_refl _)) (evRet ?_))
  rw [hr,← e]
  exact gT (eR hn fun i hi=>by show ck (ak _ (f i))=_; rw [hf i hi]; rfl) rfl
theorem z38 (n0:Nat) (f0:FnV) (n2:Nat) (f2:FnV) (n4:Nat) (f4:FnV) (n6:Nat) (f6:FnV) (he:((cG n0 (elV tyR f0) n2 (elV tyT f2) n4 (elV tyF f4) n6 (elV tyC f6)) != 0)=false):n6<=24:=by
 have e0:(cG n0 (elV tyR f0) n2 (elV tyT f2) n4 (elV tyF f4) n6 (elV tyC f6))=0:=by simpa using he
 have e0:bA n0 (elV tyR (elV tyR f0)) n2 (elV tyT (elV tyT f2)) n4 (elV tyF (elV tyF f4)) n6 (elV tyC (elV tyC f6))=0:=by unfold cG at e0; exact e0
 exact EV e0
theorem Cd (n0:Nat) (f0:FnV) (n2:Nat) (f2:FnV) (n4:Nat) (f4:FnV) (n6:Nat) (f6:FnV):(bif (cG n0 (elV tyR f0) n2 (elV tyT f2) n4 (elV tyF f4) n6 (elV tyC f6)) != 0 then 0 else (stI (q38 n0 f0 f6) n6).length)<=9223372036854775807:=by
 cases h:(cG n0 (elV tyR f0) n2 (elV tyT f2) n4 (elV tyF f4) n6 (elV tyC f6)) != 0 with
 | true=>exact Nat.zero_le _
 | false =>
   have:=z38 n0 f0 n2 f2 n4 f4 n6 f6 h
   have hl:=ms (q38 n0 f0 f6) n6
   show (stI (q38 n0 f0 f6) n6).length<=_
   omega
theorem Hp (n0:Nat) (f0:FnV) (n2:Nat) (f2:FnV) (n4:Nat) (f4:FnV) (n6:Nat) (f6:FnV) (hp:bc n0 f0/\bc n6 f6):evR (Ev (BF n0 f0 n2 f2 n4 f4 n6 f6)) (m38 n0 f0 n2 f2 n4 f4 n6 f6) (bnR (cG n0 (elV tyR f0) n2 (elV tyT f2) n4 (elV tyF f4) n6 (elV tyC f6)) (stI (q38 n0 f0 f6) n6)):=cD hp (evObt (aC (fun h=>evObt (evRet (by
 unfold bnR; rw [h]; exact gT (eR rfl fun i hi=>absurd hi (Nat.not_lt_zero _)) rfl))) (fun h=>by
 have z1:=z38 n0 f0 n2 f2 n4 f4 n6 f6 h
 have e0:(cG n0 (elV tyR f0) n2 (elV tyT f2) n4 (elV tyF f4) n6 (elV tyC f6))=0:=by simpa using h
 refine aG ?_
 refine c38 n0 f0 n2 f2 n4 f4 n6 f6 z1 ?_ 0 (Nat.zero_le _) 0 _ rfl (fun j hj=>absurd hj (Nat.not_lt_zero _))
 unfold bnR; rw [e0]; rfl)))
def mY (n0:Nat) (f0:FnV) (n2:Nat) (f2:FnV) (n4:Nat) (f4:FnV) (n6:Nat) (f6:FnV):Int:=cG n0 (elV tyR f0) n2 (elV tyT f2) n4 (elV tyF f4) n6 (elV tyC f6)
def de (n0:Nat) (f0:FnV) (n2:Nat) (f2:FnV) (n4:Nat) (f4:FnV) (n6:Nat) (f6:FnV):Nat:=(bif mY n0 f0 n2 f2 n4 f4 n6 f6 != 0 then 0 else (stI (q38 n0 f0 f6) n6).length)
def dA (n0:Nat) (f0:FnV) (n2:Nat) (f2:FnV) (n4:Nat) (f4:FnV) (n6:Nat) (f6:FnV):Nat->List V:=bnF (stI (q38 n0 f0 f6) n6)
theorem PE (n0:Nat) (f0:FnV) (n2:Nat) (f2:FnV) (n4:Nat) (f4:FnV) (n6:Nat) (f6:FnV) (hp:bc n0 (elV tyR f0)/\bc n6 (elV tyC f6)):evR (Ev (BF n0 f0 n2 f2 n4 f4 n6 f6)) (m38 n0 f0 n2 f2 n4 f4 n6 f6) (.tup [.sl (de n0 (elV tyR f0) n2 (elV tyT f2) n4 (elV tyF f4) n6 (elV tyC f6)) (elV tp1 (dA n0 (elV tyR f0) n2 (elV tyT f2) n4 (elV tyF f4) n6 (elV tyC f6))),.int .i64 (mY n0 (elV tyR f0) n2 (elV tyT f2) n4 (elV tyF f4) n6 (elV tyC f6))]):=by
 show evR _ _ (bnR (cG n0 (elV tyR (elV tyR f0)) n2 (elV tyT (elV tyT f2)) n4 (elV tyF (elV tyF f4)) n6 (elV tyC (elV tyC f6))) (stI (q38 n0 (elV tyR f0) (elV tyC f6)) n6))
 exact Hp n0 f0 n2 f2 n4 f4 n6 f6 hp
def R38:List V->V
 | [.agg [.sl n0 f0,.sl n2 f2,.sl n4 f4,.sl n6 f6]]=>.tup [.sl (de n0 f0 n2 f2 n4 f4 n6 f6) (elV tp1 (dA n0 f0 n2 f2 n4 f4 n6 f6)),.int .i64 (mY n0 f0 n2 f2 n4 f4 n6 f6)]
 | _=>.any
def P38:List V->Prop
 | [.agg [.sl n0 f0,.sl n2 f2,.sl n4 f4,.sl n6 f6]]=>bc n0 f0/\bc n6 f6
 | _=>False
def NH:List Ty:=[.agg [.sl tyR,.sl tyT,.sl tyF,.sl tyC]]
def C38:aJ:=mkC NH P38 R38
theorem NX:∀ ds d p r,C38 ds=some (d,p,r)->d.1=d.2->p->okL 1 r:=pG fun ds _=>pp rfl rfl rfl (Cd _ _ _ _ _ _ _ _)
theorem O3:(vL 1 3 C38).Ok Tryz.prog 38:=Gv uH Tryz.func38 (by kernel_rfl) fun ds hp=>rfs (MB ..) (PE _ _ _ _ _ _ _ _ hp)
inductive S39 where
 | L0 (ia0:Int) (na1:Nat) (fa2:Nat->List V)
def KR (n0:Nat) (f0:FnV) (n2:Nat) (f2:FnV) (n4:Nat) (f4:FnV) (n6:Nat) (f6:FnV) (x8:Int):S39->Env × List O × Option Ex
 | .L0 ia0 na1 fa2=>([(9,vi ia0),(8,V.sl (ap (hdV (tlV (tlV (f0 x8.toNat))))) fun i=>ak tp2 (atV (hdV (tlV (tlV (f0 x8.toNat)))) i)),(7,V.gs 0 na1)],[O.gl 1 na1 (elV tp1 fa2) 3],none)
def Pa:S39->JJ
 | .L0 ia0 na1 fa2=>(0,[])
def OG (n0:Nat) (f0:FnV) (n2:Nat) (f2:FnV) (n4:Nat) (f4:FnV) (n6:Nat) (f6:FnV) (x8:Int):T (bF JJ):=tA JJ 1 3 jU u0 s39 [scV n0 f0 n2 f2 n4 f4 n6 f6,vi x8]
def E2 (n0:Nat) (f0:FnV) (n2:Nat) (f2:FnV) (n4:Nat) (f4:FnV) (n6:Nat) (f6:FnV) (x8:Int) (cx:List Cx):Lp JJ:=lpT (atT (OG n0 f0 n2 f2 n4 f4 n6 f6 x8) [false])
def QU (n0:Nat) (f0:FnV) (n2:Nat) (f2:FnV) (n4:Nat) (f4:FnV) (n6:Nat) (f6:FnV) (x8:Int):JJ->Lp JJ
 | (0,cx)=>E2 n0 f0 n2 f2 n4 f4 n6 f6 x8 cx
 | (_,cx)=>E2 n0 f0 n2 f2 n4 f4 n6 f6 x8 cx
def D39 (n0:Nat) (f0:FnV) (n2:Nat) (f2:FnV) (n4:Nat) (f4:FnV) (n6:Nat) (f6:FnV) (x8:Int):LD JJ S39:=⟨Pa,QU n0 f0 n2 f2 n4 f4 n6 f6 x8,KR n0 f0 n2 f2 n4 f4 n6 f6 x8⟩
def Fg (n0:Nat) (f0:FnV) (n2:Nat) (f2:FnV) (n4:Nat) (f4:FnV) (n6:Nat) (f6:FnV) (x8:Int):S39->RT S39
 | .L0 ia0 na1 fa2=>.asm (true=true->ap (hdV (tlV (tlV (f0 x8.toNat))))<=9223372036854775807) (.br (decide (i64.wrap (ia0+1) < (↑(ap (hdV (tlV (tlV (f0 x8.toNat))))):Int))) (.ob (decide (0<=i64.wrap (ia0 - 1)/\i64.wrap (ia0 - 1) < (↑(ap (hdV (tlV (tlV (f0 x8.toNat))))):Int))) (.obt (.ob (decide (0<=i64.wrap (ia0 - 1)/\i64.wrap (ia0 - 1) < (↑(ap (hdV (tlV (tlV (f0 x8.toNat))))):Int))) (.obt (.ob (decide (0<=ia0/\ia0 < (↑(ap (hdV (tlV (tlV (f0 x8.toNat))))):Int))) (.obt (.ob (decide (0<=ia0/\ia0 < (↑(ap (hdV (tlV (tlV (f0 x8.toNat))))):Int))) (.obt (.ob (decide (0<=i64.wrap (ia0+1)/\i64.wrap (ia0+1) < (↑(ap (hdV (tlV (tlV (f0 x8.toNat))))):Int))) (.obt (.ob (decide (0<=i64.wrap (ia0+1)/\i64.wrap (ia0+1) < (↑(ap (hdV (tlV (tlV (f0 x8.toNat))))):Int))) (.obt (.obc (.obt (.obc (.obt (.obc (.obt (.br (decide (dI (aN (jv0 (atV (hdV (tlV (tlV (f0 x8.toNat)))) ia0.toNat)) (jv0 (atV (hdV (tlV (tlV (f0 x8.toNat)))) (i64.wrap (ia0 - 1)).toNat))) (aM (jv1 (atV (hdV (tlV (tlV (f0 x8.toNat)))) ia0.toNat)) (jv1 (atV (hdV (tlV (tlV (f0 x8.toNat)))) (i64.wrap (ia0 - 1)).toNat))) (aN (jv0 (atV (hdV (tlV (tlV (f0 x8.toNat)))) (i64.wrap (ia0+1)).toNat)) (jv0 (atV (hdV (tlV (tlV (f0 x8.toNat)))) ia0.toNat))) (aM (jv1 (atV (hdV (tlV (tlV (f0 x8.toNat)))) (i64.wrap (ia0+1)).toNat)) (jv1 (atV (hdV (tlV (tlV (f0 x8.toNat)))) ia0.toNat)))<=0)) (.obt (.ob (decide (na1<=na1/\(na1+1) * 8<=140737488355328) && !Nat.beq 8 0) (.next [some (some 5)] (S39.L0 (i64.wrap (ia0+1)) (na1+1) (bb na1 (elV tp1 fa2) fun x=>[vi ia0])) [⟨0,tp1,na1+1,bb na1 (elV tp1 fa2) fun x=>[vi ia0],gW (ah rfl _ _) (gk rfl _ rfl)⟩]))) (.next [some (some 0)] (S39.L0 (i64.wrap (ia0+1)) (na1) (elV tp1 fa2)) [⟨0,tp1,na1,elV tp1 fa2,ah rfl _ _⟩])))))))))))))))))))) (.ob (decide (na1<=na1)) (.ret (V.tup [V.sl na1 (elV tp1 fa2),vi 0]))))
def m39 (n0:Nat) (f0:FnV) (n2:Nat) (f2:FnV) (n4:Nat) (f4:FnV) (n6:Nat) (f6:FnV) (x8:Int):RT S39:=.asm (true=true->n0<=9223372036854775807) (.obp ((∀ (i:Nat),i < n0->(sv (hdV (f0 i))).size<=(9223372036854775807:Nat))/\∀ (i:Nat),i < n6->(sv (hdV (f6 i))).size<=(9223372036854775807:Nat)) (.obt (.br (dD n0 (elV tyR f0) n2 (elV tyT f2) n4 (elV tyF f4) n6 (elV tyC f6) x8 (↑n0:Int) != 0) (.obt (.ret (V.tup [V.sl 0 fun x=>[],vi (dD n0 (elV tyR f0) n2 (elV tyT f2) n4 (elV tyF f4) n6 (elV tyC f6) x8 (↑n0:Int))]))) (.ob (decide (0<=x8/\x8 < (↑n0:Int))) (.enter [some none] (S39.L0 (1) (0) (fun i=>[])) [])))))
theorem Lq (n0:Nat) (f0:FnV) (n2:Nat) (f2:FnV) (n4:Nat) (f4:FnV) (n6:Nat) (f6:FnV) (x8:Int):ep jU u0 (D39 n0 f0 n2 f2 n4 f4 n6 f6 x8) (OG n0 f0 n2 f2 n4 f4 n6 f6 x8) (m39 n0 f0 n2 f2 n4 f4 n6 f6 x8) (Fg n0 f0 n2 f2 n4 f4 n6 f6 x8):=⟨⟨by kernel_rfl,by kernel_rfl⟩,fun s=>by cases s <;> exact ⟨by kernel_rfl,by kernel_rfl⟩⟩
def xr (f0:FnV) (x8:Int) (k:Nat):Int:=jv0 (ptB f0 x8 k)
def yr (f0:FnV) (x8:Int) (k:Nat):Int:=jv1 (ptB f0 x8 k)
def bqR (f0:FnV) (x8:Int) (k:Nat):Bool:=decide (dI (aN (xr f0 x8 k) (xr f0 x8 (k - 1))) (aM (yr f0 x8 k) (yr f0 x8 (k - 1))) (aN (xr f0 x8 (k+1)) (xr f0 x8 k)) (aM (yr f0 x8 (k+1)) (yr f0 x8 k))<=0)
theorem z39 (n0:Nat) (f0:FnV) (n2:Nat) (f2:FnV) (n4:Nat) (f4:FnV) (n6:Nat) (f6:FnV) (x8:Int) (he:((dD n0 (elV tyR f0) n2 (elV tyT f2) n4 (elV tyF f4) n6 (elV tyC f6) x8 (↑n0:Int)) != 0)=false):(0<=x8/\x8 < n0)/\oz (ap (hdV (tlV (tlV (f0 x8.toNat))))) (fun j=>ak tp2 (atV (hdV (tlV (tlV (f0 x8.toNat)))) j)) (jv3 (f0 x8.toNat)):=by
 have e0:(dD n0 (elV tyR f0) n2 (elV tyT f2) n4 (elV tyF f4) n6 (elV tyC f6) x8 (↑n0:Int))=0:=by simpa using he
 rw [Hc] at e0
 exact ⟨(qo e0).2,pJ e0⟩
theorem c39 (n0:Nat) (f0:FnV) (n2:Nat) (f2:FnV) (n4:Nat) (f4:FnV) (n6:Nat) (f6:FnV) (x8:Int) (h2:2<=(ap (hdV (tlV (tlV (f0 x8.toNat)))))) (h8:(ap (hdV (tlV (tlV (f0 x8.toNat)))))<=8) {r:V} (hr:r=.tup [.sl (bnL (bqR f0 x8) ((ap (hdV (tlV (tlV (f0 x8.toNat))))) - 1)).length (elV tp1 (bnF (bnL (bqR f0 x8) ((ap (hdV (tlV (tlV (f0 x8.toNat))))) - 1)))),.int .i64 0]) :
 ∀ k,k<=(ap (hdV (tlV (tlV (f0 x8.toNat))))) - 1->1<=k->∀ (n:Nat) (f:Nat->List V),n=(bnL (bqR f0 x8) k).length->(∀ j,j < n->ak tp1 (f j)=[V.int .i64 ((bnL (bqR f0 x8) k).getD j 0)]) ->
 Ev (Fg n0 f0 n2 f2 n4 f4 n6 f6 x8) (.L0 (k:Int) n f) r:=by
 refine bJ fun k hk ih h1 n f hn hf=>?_
 have hl:=mr (bqR f0 x8) k
 refine Ev.of rfl (bt fun hm=>?_)
 have hk1:i64.wrap ((k:Int)+1)=((k+1:Nat):Int):=by rw [av (by omega) (by omega)]; omega
 have hk0:i64.wrap ((k:Int) - 1)=((k - 1:Nat):Int):=by rw [av (by omega) (by omega)]; omega
 by_cases hlt:k < (ap (hdV (tlV (tlV (f0 x8.toNat))))) - 1
 ·have ih:=ih hlt (by omega)
  rw [hk1,hk0]
  refine dT (dqt (by omega)) (ar (dqt (by omega)) (evObt (ar (dqt (by omega)) (evObt (ar (dqt (by omega)) (evObt (ar (dqt (by omega)) (evObt (ar (dqt (by omega)) (evObt (ar (dqt (by omega)) (evObt (evObc (evObt (evObc (evObt (evObc (evObt (aC (fun hq=>evObt (ar ?_ (aL ?_))) (fun hq=>aL ?_))))))))))))))))))))
  ·simp only [Bool.and_eq_true]; exact ⟨dqt ⟨Nat.le_refl _,by omega⟩,rfl⟩
  ·rw [Int.toNat_natCast,Int.toNat_natCast,Int.toNat_natCast] at hq
   have hb:bqR f0 x8 k=true:=hq
   have e:bnL (bqR f0 x8) (k+1)=bnL (bqR f0 x8) k++[(k:Int)]:=by rw [bnL,dqt (show 0 < k from h1),hb]; rfl
   refine ih _ _ (by rw [e,hn]; simp) ?_
   rw [e]
   exact m7 hn hf
  ·rw [Int.toNat_natCast,Int.toNat_natCast,Int.toNat_natCast] at hq
   have hb:bqR f0 x8 k=false:=hq
   have e:bnL (bqR f0 x8) (k+1)=bnL (bqR f0 x8) k:=by rw [bnL,dqt (show 0 < k from h1),hb]; rfl
   refine ih _ _ (by rw [e,hn]) ?_
   rw [e]
   exact fun j hj=>by show ak _ (ak _ (f j))=_; rw [bL]; exact hf j hj
 ·have e:k=(ap (hdV (tlV (tlV (f0 x8.toNat))))) - 1:=by omega
  rw [hk1]
  refine dF (dqf (by omega)) (ar (dqt (Nat.le_refl _)) (evRet ?_))
  rw [hr,← e]
  exact gT (eR hn fun i hi=>by show ck (ak _ (f i))=_; rw [hf i hi]; rfl) rfl
theorem CD (n0:Nat) (f0:FnV) (n2:Nat) (f2:FnV) (n4:Nat) (f4:FnV) (n6:Nat) (f6:FnV) (x8:Int):(bif (dD n0 (elV tyR f0) n2 (elV tyT f2) n4 (elV tyF f4) n6 (elV tyC f6) x8 (↑n0:Int)) != 0 then 0 else (bnL (bqR f0 x8) ((ap (hdV (tlV (tlV (f0 x8.toNat))))) - 1)).length)<=9223372036854775807:=by
 cases h:(dD n0 (elV tyR f0) n2 (elV tyT f2) n4 (elV tyF f4) n6 (elV tyC f6) x8 (↑n0:Int)) != 0 with
 | true=>exact Nat.zero_le _
 | false =>
   have hr:=(z39 n0 f0 n2 f2 n4 f4 n6 f6 x8 h).2.eight
   have hl:=mr (bqR f0 x8) ((ap (hdV (tlV (tlV (f0 x8.toNat))))) - 1)
   show (bnL (bqR f0 x8) ((ap (hdV (tlV (tlV (f0 x8.toNat))))) - 1)).length<=_
   omega
theorem JT (n0:Nat) (f0:FnV) (n2:Nat) (f2:FnV) (n4:Nat) (f4:FnV) (n6:Nat) (f6:FnV) (x8:Int) (hp:bc n0 f0/\bc n6 f6):evR (Ev (Fg n0 f0 n2 f2 n4 f4 n6 f6 x8)) (m39 n0 f0 n2 f2 n4 f4 n6 f6 x8) (bnR (dD n0 (elV tyR f0) n2 (elV tyT f2) n4 (elV tyF f4) n6 (elV tyC f6) x8 (↑n0:Int)) (bnL (bqR f0 x8) ((ap (hdV (tlV (tlV (f0 x8.toNat))))) - 1))):=bt fun hn=>cD hp (evObt (aC (fun h=>evObt (evRet (by
 unfold bnR; rw [h]; exact gT (eR rfl fun i hi=>absurd hi (Nat.not_lt_zero _)) rfl))) (fun h=>by
 obtain ⟨⟨z1,z2⟩,hr⟩:=z39 n0 f0 n2 f2 n4 f4 n6 f6 x8 h
 have e0:(dD n0 (elV tyR f0) n2 (elV tyT f2) n4 (elV tyF f4) n6 (elV tyC f6) x8 (↑n0:Int))=0:=by simpa using h
 refine ar (dqt ⟨z1,z2⟩) (aG ?_)
 refine c39 n0 f0 n2 f2 n4 f4 n6 f6 x8 hr.two hr.eight ?_ 1 (by have:=hr.two; omega) (Nat.le_refl _) 0 _ rfl (fun j hj=>absurd hj (Nat.not_lt_zero _))
 unfold bnR; rw [e0]; rfl)))
def ml (n0:Nat) (f0:FnV) (n2:Nat) (f2:FnV) (n4:Nat) (f4:FnV) (n6:Nat) (f6:FnV) (x8:Int):Int:=dD n0 (elV tyR f0) n2 (elV tyT f2) n4 (elV tyF f4) n6 (elV tyC f6) x8 (↑n0:Int)
def dw (n0:Nat) (f0:FnV) (n2:Nat) (f2:FnV) (n4:Nat) (f4:FnV) (n6:Nat) (f6:FnV) (x8:Int):Nat:=(bif ml n0 f0 n2 f2 n4 f4 n6 f6 x8 != 0 then 0 else (bnL (bqR f0 x8) ((ap (hdV (tlV (tlV (f0 x8.toNat))))) - 1)).length)
def dS (n0:Nat) (f0:FnV) (n2:Nat) (f2:FnV) (n4:Nat) (f4:FnV) (n6:Nat) (f6:FnV) (x8:Int):Nat->List V:=bnF (bnL (bqR f0 x8) ((ap (hdV (tlV (tlV (f0 x8.toNat))))) - 1))
theorem QW (n0:Nat) (f0:FnV) (n2:Nat) (f2:FnV) (n4:Nat) (f4:FnV) (n6:Nat) (f6:FnV) (x8:Int) (hp:bc n0 (elV tyR f0)/\bc n6 (elV tyC f6)):evR (Ev (Fg n0 f0 n2 f2 n4 f4 n6 f6 x8)) (m39 n0 f0 n2 f2 n4 f4 n6 f6 x8) (.tup [.sl (dw n0 (elV tyR f0) n2 (elV tyT f2) n4 (elV tyF f4) n6 (elV tyC f6) x8) (elV tp1 (dS n0 (elV tyR f0) n2 (elV tyT f2) n4 (elV tyF f4) n6 (elV tyC f6) x8)),.int .i64 (ml n0 (elV tyR f0) n2 (elV tyT f2) n4 (elV tyF f4) n6 (elV tyC f6) x8)]):=by
 show evR _ _ (bnR (dD n0 (elV tyR (elV tyR f0)) n2 (elV tyT (elV tyT f2)) n4 (elV tyF (elV tyF f4)) n6 (elV tyC (elV tyC f6)) x8 (↑n0:Int)) (bnL (bqR (elV tyR f0) x8) ((ap (hdV (tlV (tlV ((elV tyR f0) x8.toNat))))) - 1)))
 exact JT n0 f0 n2 f2 n4 f4 n6 f6 x8 hp
def R39:List V->V
 | [.agg [.sl n0 f0,.sl n2 f2,.sl n4 f4,.sl n6 f6],.int _ x8]=>.tup [.sl (dw n0 f0 n2 f2 n4 f4 n6 f6 x8) (elV tp1 (dS n0 f0 n2 f2 n4 f4 n6 f6 x8)),.int .i64 (ml n0 f0 n2 f2 n4 f4 n6 f6 x8)]
 | _=>.any
def P39:List V->Prop
 | [.agg [.sl n0 f0,.sl n2 f2,.sl n4 f4,.sl n6 f6],.int _ x8]=>bc n0 f0/\bc n6 f6
 | _=>False
def NW:List Ty:=[.agg [.sl tyR,.sl tyT,.sl tyF,.sl tyC],.int .i64]
def C39:aJ:=mkC NW P39 R39
theorem Ou:∀ ds d p r,C39 ds=some (d,p,r)->d.1=d.2->p->okL 1 r:=pG fun ds _=>pp rfl rfl rfl (CD _ _ _ _ _ _ _ _ _)
theorem P7:(vL 1 3 C39).Ok Tryz.prog 39:=Gv uH Tryz.func39 (by kernel_rfl) fun ds hp=>rfs (Lq ..) (QW _ _ _ _ _ _ _ _ _ hp)
end
end Go.Dx
namespace Go.Dx
open Go.IntKind (i64 u64 u8)
open Go.Sx Go.Proofs
noncomputable section
def DW:aX:=[(34,.conL 1 3 C34 we),(19,.con C19),(131,.con tb),(19,.con C19),(75,.con C75),(22,.con C22),(15,.con C15),(55,.con C55),(61,.con C61),(74,.con C74),(108,.con xI),(46,.con C46),(111,.con tU),(56,.con C56),(47,.con C47),(145,.con uX),(140,.con ur),(49,.con C49),(123,.con ud),(124,.con vz),(50,.con C50),(44,.con BY),(91,.con C91),(24,.con C24),(23,.con C23),(70,.con C70),(62,.con C62),(68,.con C68),(63,.con C63),(69,.con C69),(117,.inl wg u0),(116,.inl wD u0),(115,.con vc),(114,.con vn),(73,.con C73),(147,.con vd),(64,.con C64),(66,.con C66),(113,.con sd),(65,.con C65),(67,.con C67),(53,.con C53),(122,.con rP),(72,.con C72),(45,.con C45),(90,.con C90),(119,.con rG),(121,.con rU),(99,.con C99),(129,.con xN),(148,.con rX),(149,.con su),(112,.con rY),(118,.con rQ),(120,.con sF),(51,.con C51),(133,.con sD),(103,.con sg),(106,.con sk),(100,.con sj),(150,.con rJ),(134,.con rL),(135,.con sB),(137,.con sC),(138,.con rS),(78,.con C78),(54,.con C54),(48,.con C48),(102,.con sw),(84,.con C84),(85,.con C85),(127,.con rR),(101,.con sA),(86,.con C86),(71,.con C71),(93,.con C93),(92,.con C92),(79,.con C79),(136,.con r0),(125,.con sr),(162,.con rZ),(146,.con rT),(83,.inl s83 u0)]
theorem HZ:aW Tryz.prog eqs its DW:=.conL Dm (.con qc (.con rm (.con qc (.con Bg (.con y5 (.con xR (.con yn (.con yZ (.con y8 (.con qC (.con xV (.con oI (.con vH (.con wC (.con oM (.con oV (.con wm (.con o8 (.con oJ (.con wk (.con zp (.con vD (.con vE (.con wp (.con wo (.con wq (.con wJ (.con vT (.con wG (.inl Tryz.func117 (by kernel_rfl) (by kernel_rfl) (by kernel_rfl) (.inl Tryz.func116 (by kernel_rfl) (by kernel_rfl) (by kernel_rfl) (.con oG (.con oF (.con wY (.con o0 (.con wW (.con xx (.con mT (.con tR (.con uO (.con tW (.con mI (.con vw (.con uA (.con yU (.con mC (.con mf (.con uc (.con th (.con mz (.con lW (.con mj (.con mH (.con mF (.con tP (.con mN (.con lL (.con lV (.con mX (.con mn (.con mu (.con lG (.con lJ (.con mJ (.con uD (.con tS (.con vl (.con my (.con tQ (.con uw (.con mP (.con mw (.con uU (.con uZ (.con vt (.con ub (.con vm (.con mD (.con lE (.con lD (.con oZ (.inl Tryz.func83 (by kernel_rfl) (by kernel_rfl) (by kernel_rfl) (.nil)))))))))))))))))))))))))))))))))))))))))))))))))))))))))))))))))))))))))))))))))))
inductive S40 where
 | L0 (ia0:Int)
def OL (n0:Nat) (f0:FnV) (n2:Nat) (f2:FnV):S40->Env × List O × Option Ex
 | .L0 ia0=>([(5,vi ia0),(10,V.kb false),(9,vi (↑n2:Int)),(8,V.sl n2 (elV tp1 f2)),(7,vi (↑n0:Int)),(6,V.sl n0 (elV tp1 f0)),(4,V.kb false),(0,V.sl n0 (elV tp1 f0)),(1,V.sl n2 (elV tp1 f2))],[],none)
def QB:S40->JJ
 | .L0 ia0=>(0,[])
def MN (n0:Nat) (f0:FnV) (n2:Nat) (f2:FnV):T (bF JJ):=aZ JJ DW u0 s40 [V.sl n0 (elV tp1 f0),V.sl n2 (elV tp1 f2)]
def Ey (n0:Nat) (f0:FnV) (n2:Nat) (f2:FnV) (cx:List Cx):Lp JJ:=lpT (atT (MN n0 f0 n2 f2) [false])
def Q8 (n0:Nat) (f0:FnV) (n2:Nat) (f2:FnV):JJ->Lp JJ
 | (0,cx)=>Ey n0 f0 n2 f2 cx
 | (_,cx)=>Ey n0 f0 n2 f2 cx
def D40 (n0:Nat) (f0:FnV) (n2:Nat) (f2:FnV):LD JJ S40:=⟨QB,Q8 n0 f0 n2 f2,OL n0 f0 n2 f2⟩
def Fj (n0:Nat) (f0:FnV) (n2:Nat) (f2:FnV):S40->RT S40
 | .L0 ia0=>.asm (true=true->n0<=9223372036854775807) (.br (decide (ia0 < (↑n0:Int))) (.ob (decide (0<=ia0/\ia0 < (↑n0:Int))) (.ob (decide (0<=ia0/\ia0 < (↑n2:Int))) (.br (jv0 (f0 ia0.toNat) != jv0 (f2 ia0.toNat)) (.ret (V.kb false)) (.next [] (S40.L0 (i64.wrap (ia0+1))) [])))) (.ret (V.kb true)))
def m40 (n0:Nat) (f0:FnV) (n2:Nat) (f2:FnV):RT S40:=.asm (true=true->n0<=9223372036854775807) (.asm (true=true->n2<=9223372036854775807) (.br ((↑n0:Int) != (↑n2:Int)) (.ret (V.kb false)) (.enter [] (S40.L0 (0)) [])))
theorem Le (n0:Nat) (f0:FnV) (n2:Nat) (f2:FnV):ep DW u0 (D40 n0 f0 n2 f2) (MN n0 f0 n2 f2) (m40 n0 f0 n2 f2) (Fj n0 f0 n2 f2):=⟨⟨by kernel_rfl,by kernel_rfl⟩,fun s=>by cases s <;> exact ⟨by kernel_rfl,by kernel_rfl⟩⟩
def p40 (f0 f2:Nat->List V) (i:Nat):Bool:=jv0 (f0 i) != jv0 (f2 i)
def F40 (n0:Nat) (f0:FnV) (n2:Nat) (f2:FnV):Bool:=bif (n0:Int) != (n2:Int) then false else !exB n0 (p40 f0 f2)
theorem c40 (n0:Nat) (f0:FnV) (n2:Nat) (f2:FnV) (hn:n0<=9223372036854775807) (he:n0=n2):∀ k:Nat,k<=n0->(∀ j,j < k->p40 f0 f2 j=false)->Ev (Fj n0 f0 n2 f2) (.L0 (k:Int)) (.bool (!exB n0 (p40 f0 f2))):=by
 refine bJ fun k hk ih hj=>Ev.of rfl (bH fun _=>aC (fun h=>?_) (fun h=>?_))
 ·have h:=of_decide_eq_true h
  refine ar (dqt (by omega)) (ar (dqt (by omega)) (aC (fun hb=>?_) (fun hb=>aL ?_)))
  ·simp only [Int.toNat_natCast] at hb
   rw [bz (p:=p40 f0 f2) k (by omega) hb]
   exact evRet rfl
  ·simp only [Int.toNat_natCast] at hb
   rw [show i64.wrap ((k:Int)+1)=((k+1:Nat):Int) by rw [av (by omega) (by omega)]; rfl]
   refine ih (by omega) (fun j h3=>?_)
   by_cases e:j=k
   ·subst e; exact hb
   ·exact hj j (by omega)
 ·have h:=of_decide_eq_false h
  rw [show exB n0 (p40 f0 f2)=false from bG fun j hh=>hj j (by omega)]
  exact evRet rfl
theorem Jc (n0 : Nat) (f0 : FnV) (n2 : Nat) (f2:FnV):evR (Ev (Fj n0 f0 n2 f2)) (m40 n0 f0 n2 f2) (.bool (F40 n0 f0 n2 f2)):=by
 refine bH fun hn=>bH fun _=>aC (fun h=>?_) (fun h=>aG ?_)
 ·unfold F40; rw [h]; exact evRet rfl
 ·unfold F40; rw [h, cond_false]
  exact c40 n0 f0 n2 f2 (hn rfl) (by have:(n0:Int)=n2:=by simpa using h
                                     omega) 0 (Nat.zero_le _) (fun j hj=>absurd hj (Nat.not_lt_zero _))
theorem Pj (n0:Nat) (f0:FnV) (n2:Nat) (f2:FnV):evR (Ev (Fj n0 f0 n2 f2)) (m40 n0 f0 n2 f2) (.bool (F40 n0 (elV tp1 f0) n2 (elV tp1 f2))):=Jc n0 f0 n2 f2
def C40:aJ:=mkC [.sl tp1,.sl tp1] (fun _=>True) fun
 | [.sl n0 f0,.sl n2 f2]=>.bool (F40 n0 f0 n2 f2)
 | _=>.any
theorem Rw:(vP C40).Ok Tryz.prog 40:=mkE HZ Tryz.func40 (by kernel_rfl) fun ds hp=>rfs (Le ..) (Pj _ _ _ _)
end
end Go.Dx
namespace Go.Dx
open Go.Sx Go.Proofs
def kp (x y:Int):Value:=.agg #[.int .i64 x,.int .i64 y]
theorem ER:Tryz.prog.underlying 152=some (.map 72 73):=by kernel_rfl
def Raw (G:List (Nat × Value)) (sl:List ab):Prop:=∀ p ∈ G,sl.getD p.1 .any=.raw p.2
def wH (G:List (Nat × Value)) (d:Option Nat):Prop:=∀ p ∈ G,d ≠ some p.1
def Ii (G:List (Nat × Value)) (d:Option Nat):Bool:=G.all fun p=>match d with
 | some d=>!Nat.beq d p.1
 | none=>true
theorem bh {G:List (Nat × Value)} {d:Option Nat} (h:Ii G d=true):wH G d:=fun p hp e=>by
 subst e
 have:=List.all_eq_true.1 h p hp
 simp at this
theorem Raw.put {G:List (Nat × Value)} {sl:List ab} (h:Raw G sl) {d:Option Nat} (hd:wH G d) (v:ab):Raw G (cA sl d v):=fun p hp=>by
 rw [ny (hd p hp)]; exact h p hp
theorem Raw.set {G:List (Nat × Value)} {sl:List ab} (h:Raw G sl) {d:Nat} {x v:ab} (hx:sl.getD d .any=x) (hr:∀ u,x ≠ .raw u):Raw G (sl.set d v):=fun p hp=>by
 have:p.1 ≠ d:=fun e=>by have:=h p hp; rw [e,hx] at this; exact hr _ this
 simp only [List.getD,List.getElem?_set]
 rw [if_neg (fun e=>this e.symm)]
 exact h p hp
def qq:List (Nat × Value)->Nat->Option Value
 | [],_=>none
 | p::l,s=>cond (Nat.beq s p.1) (some p.2) (qq l s)
theorem oe {sl:List ab} {s:Nat} {v:Value}:∀ {G:List (Nat × Value)},Raw G sl->qq G s=some v->sl.getD s .any=.raw v
 | [],_,h=>by cases h
 | p :: l,hr,h=>by
   simp only [qq] at h
   cases hb:Nat.beq s p.1 with
   | true =>
     rw [hb] at h
     cases h
     have:=Nat.eq_of_beq_eq_true hb
     rw [this]; exact hr p (List.mem_cons_self ..)
   | false=>rw [hb] at h; exact oe (fun q hq=>hr q (List.mem_cons_of_mem _ hq)) h
def mvG (G:List (Nat × Value)) (o:SOp):List (Nat × Value) :=
 match o.guard,o.op,o.dst with
 | none,.mov (.t s),some d=>match qq G s with
   | some v=>(d,v)::G
   | none=>G
 | _,_,_=>G
def gU:List (Nat × Value)->List SOp->List (Nat × Value)
 | G,[]=>G
 | G,o::l=>gU (mvG G o) l
def okG:List (Nat × Value)->List SOp->Bool
 | _,[]=>true
 | G,o::l=>Ii G o.dst && okG (mvG G o) l
theorem j7 (G:List (Nat × Value)) (o:SOp):mvG G o=G ∨ ∃ s d v,o.guard=none/\o.op=.mov (.t s)/\o.dst=some d/\qq G s=some v/\mvG G o=(d,v)::G:=by
 unfold mvG
 split
 ·rename_i s d hg ho hd
  cases hf:qq G s with
  | none=>exact .inl rfl
  | some v=>exact .inr ⟨s,d,v,hg,ho,hd,hf,rfl⟩
 ·exact .inl rfl
theorem Raw.cons {G:List (Nat × Value)} {sl:List ab} (h:Raw G sl) {d:Nat} {v:Value} (hd:wH G (some d)) (hl:d < sl.length):Raw ((d,v)::G) (cA sl (some d) (.raw v)):=fun p hp=>by
 rcases List.mem_cons.1 hp with rfl | hp
 ·simp only [cA,List.getD,List.getElem?_set_self hl,Option.getD_some]
 ·exact h.put hd (.raw v) p hp
theorem dW (sl:List ab) (d:Option Nat) (v:ab):(cA sl d v).length=sl.length:=by cases d <;> simp [cA]
section
variable {P:Program} {S:FuncId->bf} {w0:World}
theorem ls (hS:∀ f,(S f).Ok P f):∀ (xs:List SOp) (G:List (Nat × Value)) (sl:List ab) (lh:List ac) (K:List ab->List ac->Prop),(∀ o ∈ xs,∀ d,o.dst=some d->d < sl.length)->okG G xs=true->Raw G sl->cM w0 S xs sl lh K->cM w0 S xs sl lh (fun s l=>K s l/\Raw (gU G xs) s)
 | [],G,sl,lh,K,_,_,hr,h=>⟨h,hr⟩
 | o :: rest,G,sl,lh,K,hd,hk,hr,h=>by
   simp only [okG,Bool.and_eq_true] at hk
   have ho:=bh hk.1
   have hdr:∀ s:List ab,s.length=sl.length->∀ o ∈ rest,∀ d,o.dst=some d->d < s.length:=fun s hs x hx d hxd=>by rw [hs]; exact hd x (List.mem_cons_of_mem _ hx) d hxd
   rcases j7 G o with e | ⟨s,d,v,hg,hop,hdst,hf,e⟩
   ·have ih:=fun s l (hl:s.length=sl.length) hr h=>ls hS rest G s l K (hdr s hl) (by rw [← e]; exact hk.2) hr h
    simp only [gU,e]
    simp only [cM] at h ⊢
    split
    ·rename_i hg
     rw [hg] at h
     exact cW hS (fun v l h=>ih _ _ (dW ..) (hr.put ho v) h) h
    ·rename_i d want hg
     rw [hg] at h
     dsimp only at h
     split at h
     ·rename_i b hb
      refine ⟨fun e=>cW hS (fun v l h=>ih _ _ (by rw [dW]; simp) ((hr.set hb (by simp)).put ho v) h) (h.1 e),fun e=>ih _ _ (by rw [dW]; simp) ((hr.set hb (by simp)).put ho _) (h.2 e)⟩
     ·rename_i vs hb
      exact ih _ _ (by rw [dW]; simp) ((hr.set hb (by simp)).put ho _) h
     ·rename_i hb
      exact ih _ _ (dW ..) (hr.put ho _) h
     ·exact h.elim
   ·simp only [gU,e]
    simp only [cM,hg,hop,vcI,hdst,arg] at h ⊢
    rw [hdst] at ho
    rw [oe hr hf] at h ⊢
    exact ls hS rest ((d,v)::G) _ lh K (hdr _ (dW ..)) (by rw [← e]; exact hk.2) (hr.cons ho (hd o (List.mem_cons_self ..) d hdst)) h
theorem gI (hS:∀ f,(S f).Ok P f) {Ws:List (List Nat)} {n0:Nat} {K:List ab->List ac->Prop}:∀ (ds:List DOp) (G:List (Nat × Value)) (i:Nat) (sl:List ab) (lh:List ac),(∀ d ∈ ds,∀ x,d.o.dst=some x->x < sl.length)->okG G (ds.map (·.o))=true->Raw G sl->d9 w0 S Ws n0 K ds i sl lh->d9 w0 S Ws n0 (fun s l=>K s l/\Raw (gU G (ds.map (·.o))) s) ds i sl lh
 | [],G,_,sl,lh,_,_,hr,h=>⟨h,hr⟩
 | d::rest,G,i,sl,lh,hd,hk,hr,h=>by
   simp only [List.map_cons,okG,Bool.and_eq_true] at hk
   have ho:=bh hk.1
   have hdr:∀ s:List ab,s.length=sl.length->∀ o ∈ rest,∀ x,o.o.dst=some x->x < s.length:=fun s hs y hy x hx=>by rw [hs]; exact hd y (List.mem_cons_of_mem _ hy) x hx
   simp only [d9,List.map_cons,gU] at h ⊢
   unfold vcM at h ⊢
   rcases j7 G d.o with e | ⟨s,t,v,hg,hop,hdst,hf,e⟩
   ·rw [e] at hk ⊢
    refine fO hS (fun x he=>?_) h
    cases x with
    | run v l=>exact gI hS rest G (i+1) _ _ (hdr _ (dW ..)) hk.2 (hr.put ho v) he
    | skip=>exact gI hS rest G (i+1) _ _ (hdr _ (dW ..)) hk.2 (hr.put ho _) he
   ·rw [e] at hk ⊢
    unfold jq at h ⊢
    simp only [hg,hop,vcI,e9,arg,hdst] at h ⊢
    rw [hdst] at ho
    rw [oe hr hf] at h ⊢
    exact ⟨h.1,gI hS rest ((t,v)::G) (i+1) _ _ (hdr _ (dW ..)) hk.2 (hr.cons ho (hd d (List.mem_cons_self ..) t hdst)) h.2⟩
end
section
variable {B:bm} {N:Nat} {e:Env} {h:List O} {G:List (Nat × Value)} {a:Act} {w:World}
section
variable {ct:aX} (hT:aW Tryz.prog eqs its ct) {F:Fence} {n:Nat} {ops:Array Oper} {Q:Exit->Act->World->Prop} {rest:List Nat}
include hT
omit hT in
theorem rz:∀ {xs:List SOp},bQ N xs=true->∀ o ∈ xs,∀ d,o.dst=some d->d < N
 | [],_,o,ho,_,_=>by cases ho
 | x::l,h,o,ho,d,hd=>by
   obtain ⟨h1,h2⟩:=DH h
   rcases List.mem_cons.1 ho with rfl | ho
   ·exact h1 d hd
   ·exact rz h2 o ho d hd
end
end
theorem co {F:Fence} {n:Nat} {P:Program} {ops:Array Oper} {Q:Exit->Act->World->Prop} {rest:List Nat} {k:Nat} {o:Oper} {a:Act} {w w':World} {v:Value} (hF:Go.Sx.Open F) (ho:ops[k]? = some o) (hg:o.guard=none) (hr:(o.semAt F.round a.eval).run P w=.ok (.value v) w') (h:wpOpsIn F n P ops Q rest (a.put o.dst v) w'):wpOpsIn F n P ops Q (k::rest) a w:=by
 simp only [wpOpsIn,ho]
 rw [if_pos (by simp [Region.wanted,hg])]
 refine ⟨fun f _=>hF.fn f,?_⟩
 rw [hr]; exact h
noncomputable def ft:Code->Code | .seq a _=>a | _=>.skip
noncomputable def dh:Code->Code | .seq _ b=>b | _=>.skip
noncomputable def pm:Code->Code | .block _ c=>c | .loop c=>c | .cond _ a _=>a | _=>.skip
noncomputable def fI:Code->Array Oper | .region _ ops _=>ops | _=>#[]
noncomputable def c41:Code:=Tryz.f41.body.getD .skip
noncomputable def jo0:Array Oper:=fI (ft c41)
noncomputable def jA:Code:=ft (dh c41)
noncomputable def jo1:Array Oper:=fI (ft jA)
noncomputable def jo2:Array Oper:=fI (ft (dh jA))
noncomputable def jo3:Array Oper:=fI (ft (pm (dh (dh jA))))
noncomputable def jB:Code:=dh (dh c41)
noncomputable def jo4:Array Oper:=fI (ft jB)
noncomputable def jL1:Code:=ft (dh jB)
noncomputable def jo5:Array Oper:=fI (ft jL1)
noncomputable def jK0:Code:=pm (pm (dh jL1))
noncomputable def jo6:Array Oper:=fI (ft jK0)
noncomputable def jb1:Code:=pm (ft (dh (dh jK0)))
noncomputable def BB:Array Oper:=fI (dh (dh (dh jK0)))
noncomputable def jo7:Array Oper:=fI (ft jb1)
noncomputable def jo8:Array Oper:=fI (ft (dh jb1))
noncomputable def jK2:Code:=pm (pm (dh (dh jb1)))
noncomputable def jo9:Array Oper:=fI (ft jK2)
noncomputable def jb3:Code:=pm (ft (dh (dh jK2)))
noncomputable def rW:Array Oper:=fI (dh (dh (dh jK2)))
noncomputable def Et:Array Oper:=fI (ft jb3)
noncomputable def jL:Array Oper:=fI (ft (dh jb3))
noncomputable def CW:Array Oper:=fI (ft (dh (dh jb3)))
noncomputable def jy:Array Oper:=fI (pm (dh (dh (dh jb3))))
noncomputable def jC:Code:=dh (dh jB)
noncomputable def wN:Array Oper:=fI (ft jC)
noncomputable def jL2:Code:=ft (dh jC)
noncomputable def lz:Array Oper:=fI (ft jL2)
noncomputable def jK4:Code:=pm (pm (dh jL2))
noncomputable def ni:Array Oper:=fI (ft jK4)
noncomputable def jb5:Code:=pm (dh (dh jK4))
noncomputable def fY:Array Oper:=fI (ft jb5)
noncomputable def hJ:Array Oper:=fI (ft (dh jb5))
noncomputable def en:Array Oper:=fI (pm (dh (dh jb5)))
noncomputable def jD:Code:=dh (dh jC)
noncomputable def kt:Array Oper:=fI (ft jD)
noncomputable def ip:Array Oper:=fI (ft (dh jD))
noncomputable def Dy:Code:=.seq (.region 9 jo9 false) (.seq (.cond (.tmp 32) .skip (.exit 2)) (.seq (.block 3 (.seq (.region 10 Et false) (.seq (.region 11 jL false) (.seq (.region 12 CW false) (.cond (.tmp 50) (.region 13 jy true) .skip))))) (.region 14 rW false)))
noncomputable def A2:Code:=.seq (.region 6 jo6 false) (.seq (.cond (.tmp 24) .skip (.exit 0)) (.seq (.block 1 (.seq (.region 7 jo7 false) (.seq (.region 8 jo8 false) (.block 2 (.loop Dy))))) (.region 15 BB false)))
noncomputable def D3:Code:=.seq (.region 18 ni false) (.seq (.cond (.tmp 62) .skip (.exit 4)) (.block 5 (.seq (.region 19 fY false) (.seq (.region 20 hJ false) (.cond (.tmp 68) (.region 21 en false) .skip)))))
theorem vF:Tryz.f41.body=some (.seq (.region 0 jo0 false) (.seq (.seq (.region 1 jo1 false) (.seq (.region 2 jo2 false) (.cond (.tmp 17) (.seq (.region 3 jo3 false) .ret) .skip)))
 (.seq (.region 4 jo4 false) (.seq (.seq (.region 5 jo5 false) (.block 0 (.loop A2))) (.seq (.region 16 wN false) (.seq (.seq (.region 17 lz false) (.block 4 (.loop D3))) (.seq (.region 22 kt false) (.seq (.region 23 ip false) .ret)))))))):=by kernel_rfl
noncomputable def gO:Array Oper:=jy.extract 0 6
noncomputable def Bj:Nat->List (List Bool)
 | 0=>[[]]
 | n+1=>(Bj n).map (false::·)++(Bj n).map (true::·)
theorem v6:∀ l:List Bool,l ∈ Bj l.length
 | []=>by simp [Bj]
 | b::l=>by
   have:=v6 l
   cases b <;> simp [Bj,this]
noncomputable def Cv (l:List Bool):Bool:=(Region.ready .any jy (l++[false]).toArray == (if l.all id then [6] else Region.ready .any gO l.toArray)) && (l.all id == (Region.ready .any gO l.toArray == [])) && (Region.ready .any jy (l++[true]).toArray == [] || !l.all id)
theorem JS:(Bj 6).all Cv=true:=by kernel_rfl
theorem Fp:(List.range 6).all (fun i=>match jy[i]?,gO[i]? with | some a,some b=>a.guard.isNone && b.guard.isNone | _,_=>false)=true:=by kernel_rfl
theorem EO {i:Nat} (hi:i < 6):jy[i]? = gO[i]? := by
 unfold gO
 rw [Array.getElem?_extract]
 simp
 omega
def Ic (R:Act->World->Prop):Exit->Act->World->Prop
 | .normal,a,w=>R a w
 | _,_,_=>False
section
variable {F:Fence} {n:Nat} {P:Program} {Q:Exit->Act->World->Prop}
theorem Dr {R:Act->World->Prop} {o:Oper} {a:Act} {w:World} {K:Act->World->Prop} (hh:o.wpIn F n P a w K (Ic R)):o.wpIn F n P a w K Q:=by
 unfold Oper.wpIn at *
 refine ⟨hh.1,?_⟩
 have hh:=hh.2
 generalize (o.semAt F.round a.eval).run P w=r at *
 cases r with
 | ok x w' =>
   cases x <;> simp only [Oper.uponIn] at hh ⊢
   all_goals first
    | exact ⟨hh.1,CallsIn.mono hh.2 (fun e w'' he=>by cases e <;> first | exact he | exact he.elim | (obtain ⟨_,_,he⟩:=he; exact he.elim))⟩
    | exact hh
    | exact ⟨hh.1,RoundIn.mono hh.2 (fun e w'' he=>by cases e <;> first | exact he | exact he.elim | (obtain ⟨_,_,he⟩:=he; exact he.elim))⟩
 | halt x w'=>cases x <;> simp only [Oper.uponIn] at hh ⊢ <;> exact hh.elim
theorem oC {o:Oper} (hg:o.guard=none) (f:Nat->Option Bool):Region.wanted o f=true:=by simp [Region.wanted,hg]
theorem N4:∀ (fuel:Nat) (l:List Bool) (a:Act) (w:World),l.length=6->wpAnyIn F n P .any gO (Ic fun a w=>wpOpIn F n P jy Q 6 (fun a w=>Q .normal a w) a w) fuel l.toArray a w->wpAnyIn F n P .any jy Q (fuel+1) (l++[false]).toArray a w:=by
 have hrd:∀ l:List Bool,l.length=6->Cv l=true:=fun l hl=>by
  have:=List.all_eq_true.1 JS l (by rw [← hl]; exact v6 l)
  exact this
 have last:∀ (l:List Bool) (a:Act) (w:World) (fuel:Nat),l.length=6->l.all id=true->wpOpIn F n P jy Q 6 (fun a w=>Q .normal a w) a w->wpAnyIn F n P .any jy Q (fuel+1) (l++[false]).toArray a w:=fun l a w fuel hl hall h=>by
  have hk:=hrd l hl
  simp only [Cv,Bool.and_eq_true,Bool.or_eq_true,beq_iff_eq,hall,if_true,Bool.not_true] at hk
  have e6:Region.ready .any jy (l++[false]).toArray=[6]:=hk.1.1
  have e7:Region.ready .any jy (l++[true]).toArray=[]:=by simpa using hk.2
  refine ⟨fun he=>(by rw [e6] at he; cases he),fun i hi=>?_⟩
  rw [e6] at hi
  obtain rfl:i=6:=by simpa using hi
  refine wpOpIn_mono (fun a w hq=>?_) h
  have es:((l++[false]).toArray.setIfInBounds 6 true)=(l++[true]).toArray:=by
   apply Array.toList_inj.1
   simp [Array.toList_setIfInBounds,List.set_append,hl]
  rw [es]
  cases fuel with
  | zero=>exact ⟨e7,hq⟩
  | succ fuel=>exact ⟨fun _=>hq,fun i hi=>(by rw [e7] at hi; cases hi)⟩
 intro fuel
 induction fuel with
 | zero =>
   intro l a w hl h
   have hk:=hrd l hl
   simp only [Cv,Bool.and_eq_true,beq_iff_eq] at hk
   have hall:l.all id=true:=by rw [hk.1.2]; simpa using h.1
   exact last l a w 0 hl hall h.2
 | succ fuel ih =>
   intro l a w hl h
   have hk:=hrd l hl
   simp only [Cv,Bool.and_eq_true,beq_iff_eq] at hk
   by_cases hall:l.all id=true
   ·have h0:Region.ready .any gO l.toArray=[]:=by have:=hk.1.2; rw [hall] at this; simpa using this.symm
    exact last l a w _ hl hall (h.1 h0)
   ·have e1:Region.ready .any jy (l++[false]).toArray=Region.ready .any gO l.toArray:=by have:=hk.1.1; rw [if_neg hall] at this; exact this
    have h0:Region.ready .any gO l.toArray ≠ []:=fun e=>hall (by rw [hk.1.2,e]; rfl)
    refine ⟨fun he=>by rw [e1] at he; exact (h0 he).elim,fun i hi=>?_⟩
    rw [e1] at hi
    have h6:i < 6:=by
     obtain ⟨_,o,ho,_⟩:=mem_ready.1 hi
     have:=(Array.getElem?_eq_some_iff.1 ho).1
     have hs:gO.size<=6:=by unfold gO; simp; omega
     omega
    have hw:=h.2 i hi
    have hg:=List.all_eq_true.1 Fp i (List.mem_range.2 h6)
    unfold wpOpIn at hw ⊢
    rw [EO h6] at hg ⊢
    cases hoi:gO[i]? with
    | none=>rw [hoi] at hg; simp at hg
    | some o =>
      rw [hoi] at hg hw
      simp only [Bool.and_self,Option.isNone_iff_eq_none] at hg hw ⊢
      rw [if_pos (oC hg _)] at hw ⊢
      refine Oper.wpIn_mono (fun a w hq=>?_) (Dr hw)
      have es:((l++[false]).toArray.setIfInBounds i true)=(l.set i true++[false]).toArray:=by
       apply Array.toList_inj.1
       simp [Array.toList_setIfInBounds,List.set_append,hl,h6]
      rw [es]
      refine ih (l.set i true) a w (by simpa using hl) ?_
      have es2:l.toArray.setIfInBounds i true=(l.set i true).toArray:=by
       apply Array.toList_inj.1; simp
      rw [← es2]; exact hq
end
theorem xX {P:Program} {S:FuncId->bf} {F:Fence} {n:Nat} {B:bm} {eqs:List TypeId} {ops:Array Oper} {ds:List DOp} (hF:Go.Sx.Open F) (hS:∀ f,(S f).Ok P f) (hE:∀ t ∈ eqs,cm P t) (hc:eD P eqs ops=some ds) {K:List ab->List ac->Prop} {Q:Exit->Act->World->Prop} {sl:List ab} {lh:List ac} {m:ao} {a:Act} {w:World}
 (hs:gb B m sl lh a w) (h:jT B.w0 S ds sl lh K) (hQ:∀ sl' lh' m' a' w',gb B m' sl' lh' a' w'->Ext lh m lh' m'->K sl' lh'->Q .normal a' w'):P.follows .mixedOrders=true/\wpAnyIn F n P .any ops Q ops.size (Array.replicate ops.size false) a { w with drawn:=w.drawn+1 }:=by
 unfold eD at hc
 split at hc
 ·cases hc
 ·rename_i xs hxs
  split at hc
  ·rename_i hcond
   cases hc
   simp only [Bool.and_eq_true,beq_iff_eq] at hcond
   obtain ⟨⟨⟨⟨h1,h2⟩,h3⟩,h4⟩,h5⟩:=hcond
   obtain ⟨hw,ht⟩:=h
   have hw':Bm (fF ops xs (bM xs 0) xs 0) (gN B.w0 lh sl lh.length (fF ops xs (bM xs 0) xs 0)):=fun i d hd=>by
    refine ⟨fun hnw=>?_,?_⟩
    ·unfold wOf
     rw [kj,hd]
     have:=List.all_eq_true.1 h5 d (List.mem_of_getElem? hd)
     simp [hnw] at this
     simp [this,o9]
    ·have:=jW (ds:=fF ops xs (bM xs 0) xs 0) (fF ops xs (bM xs 0) xs 0) 0 (fun j=>by simp) hw i d (by simpa using hd)
     simpa using this
   generalize gN B.w0 lh sl lh.length (fF ops xs (bM xs 0) xs 0)=Ws at hw ht hw'
   refine ⟨h1,?_⟩
   have hcl:fk ops (Array.replicate ops.size false):=fun k o hk=>by
    simp [Array.getElem?_replicate] at hk
    split at hk <;> simp at hk
   have hany:=jf hS hw' h2 h4 (fF ops xs (bM xs 0) xs 0) 0 _ sl _ (fun j=>by simp) h3 hcl ht
   rw [← h4]
   have hext:Ext lh m (lh++List.replicate (news (fF ops xs (bM xs 0) xs 0)) .dead) m:=⟨ao.le_refl m,fun k hk=>⟨by rw [List.getElem?_append_left (List.getElem?_eq_some_iff.1 hk).1]; exact hk,rfl⟩⟩
   rw [h4] at hany ⊢
   exact kU hF hS hE hxs (rh ops xs (bM xs 0) xs 0) hQ _ _ sl _ m a _ ⟨hs.1,hs.2.1,(hs.2.2.deads _).drew _⟩ hext hany
  ·cases hc
section
variable {ct:aX} (hT:aW Tryz.prog eqs its ct) {F:Fence} {n:Nat} {ops:Array Oper} {Q:Exit->Act->World->Prop}
variable {B:bm} {N:Nat} {e:Env} {h:List O} {G:List (Nat × Value)} {a:Act} {w:World}
include hT
omit hT in
theorem wi:∀ {ds:List DOp},pU N ds=true->∀ o ∈ ds,∀ d,o.o.dst=some d->d < N
 | [],_,o,ho,_,_=>by cases ho
 | x::l,h,o,ho,d,hd=>by
   obtain ⟨h1,h2⟩:=z8 h
   rcases List.mem_cons.1 ho with rfl | ho
   ·exact h1 d hd
   ·exact wi h2 o ho d hd
end
end Go.Dx
