/- Part 5 of a proof. No conditions. -/
import Derived.Test.YtefgedeiipggkaaGreatDoorLx4
import Derived.Lib.ConvBytes
import Derived.Lib.Walk
import Derived.WalkKit
import Derived.IntWalk
set_option maxRecDepth 100000
set_option linter.unusedVariables false
set_option linter.unusedSimpArgs false
namespace Go.Dx
open Go.IntKind (i64 u64 u8)
open Go.Sx Go.Proofs
variable (H:Nat) (G:be) (T:Nat) (O:be) (n4:Nat) (f4:be) (n6:Nat) (f6:be) (n8:Nat) (f8:be) (Y x9:Int)
noncomputable section
def ED:bm:=(107,.con C24)::(50,.con C23)::v7
theorem He:aZ Tryz.prog Bs C3 ED:=.con avO (.con atW (GC))
inductive Y9 where|L0 (_ _:Int)
def aqC:Y9->bS×List Ax×Option Ex
 |.L0 Pt Qf=>([(8,A Pt),(7,A Qf),(6,A (nt H (D bd G) T (D bq O) n4 (D bu f4) n6 (D aV f6))),(5,A (nD H (D bd G) T (D bq O) n4 (D bu f4) n6 (D aV f6))),(14,A (jX H (D bd G) T (D bq O) n4 (D bu f4) n6 (D aV f6))),(13,A (nt H (D bd G) T (D bq O) n4 (D bu f4) n6 (D aV f6))),(12,A (nD H (D bd G) T (D bq O) n4 (D bu f4) n6 (D aV f6))),(9,V.tup [A (nD H (D bd G) T (D bq O) n4 (D bu f4) n6 (D aV f6)),A (nt H (D bd G) T (D bq O) n4 (D bu f4) n6 (D aV f6)),A (jX H (D bd G) T (D bq O) n4 (D bu f4) n6 (D aV f6))]),(11,V.tup [A (nD H (D bd G) T (D bq O) n4 (D bu f4) n6 (D aV f6)),A (nt H (D bd G) T (D bq O) n4 (D bu f4) n6 (D aV f6)),A (jX H (D bd G) T (D bq O) n4 (D bu f4) n6 (D aV f6))]),(10,Ca H G T O n4 f4 n6 f6),(4,A 0),(2,V.pl 0 0),(0,Ca H G T O n4 f4 n6 f6),(1,V.sl n8 (D L f8))],[Ax.cells [V.sl H (D bd G),V.sl T (D bq O),V.sl n4 (D bu f4),V.sl n6 (D aV f6)] 31],none)
def avD:Y9->JJ
 |.L0 ..=>(0,[])
def aom:Bh (cq JJ):=aQ JJ ED u0 aq7 [Ca H G T O n4 f4 n6 f6,V.sl n8 (D L f8)]
def crT (cx:List Cx):Lp JJ:=eX (eJ (aom H G T O n4 f4 n6 f6 n8 f8) [])
def axC:JJ->Lp JJ
 |(0,cx)=>crT H G T O n4 f4 n6 f6 n8 f8 cx|(_,cx)=>crT H G T O n4 f4 n6 f6 n8 f8 cx
def D44:LD JJ Y9:=⟨avD,axC H G T O n4 f4 n6 f6 n8 f8,aqC H G T O n4 f4 n6 f6 n8 f8⟩
def LR (H:Nat) (G:be) (T:Nat) (O:be) (n4:Nat) (f4:be) (n6:Nat) (f6:be) (n8:Nat) (f8:be):Y9->RT Y9
 |.L0 Pt Qf=>.am n8 (.ii (.br (bif decide (Pt<(n8:Int)) then Qf==0 else false) (.ob (decide (0<=Pt/\Pt<(n8:Int))) (.ob (decide (0<=E (Pt+1)/\E (Pt+1)<(n8:Int))) (.cb (.br (bW (av (f8 Pt.toNat)) 0 (E (av (f8 (E (Pt+1)).toNat)-1))) (.next DX (Y9.L0 (E (Pt+2)) 4) []) (.next DX (Y9.L0 (E (Pt+2)) Qf) []))))) (.ret (A Qf))))
def Ou:RT Y9:=dm (n8,f8) (.obp ((aD H G)/\aD n6 f6) (.obt (.enter DX (Y9.L0 0 (jX H (D bd G) T (D bq O) n4 (D bu f4) n6 (D aV f6))) [])))
theorem asz:dZ ED u0 (D44 H G T O n4 f4 n6 f6 n8 f8) (aom H G T O n4 f4 n6 f6 n8 f8) (Ou H G T O n4 f4 n6 f6 n8 f8) (LR H G T O n4 f4 n6 f6 n8 f8):=⟨bD,λs=>by cases s<;>exact bD⟩
def Tj (k:Nat):Bool:=bW (av (f8 (2*k))) 0 (E (av (f8 (2*k+1))-1))
def YW (e:Int):Int:=bif e==0 then(bif gS (n8 / 2) (Tj f8) then 4 else 0) else e
def MC:Int:=YW n8 f8 (jX H (D bd G) T (D bq O) n4 (D bu f4) n6 (D aV f6))
theorem acW (i e:Int) (he:(e==0)=false):Ev (LR H G T O n4 f4 n6 f6 n8 f8) (.L0 i e) (A e):=Ev.of rfl (D3 λ_=>B1 (B1 (cW (by rw[he];cases decide (i<(n8:Int))<;>rfl) (B5 rfl))))
theorem ary (hm:n8 % 2=0) (hn:n8<=100):∀ k:Nat,k<=n8 / 2->(∀ j,j<k->Tj f8 j=false)->Ev (LR H G T O n4 f4 n6 f6 n8 f8) (.L0 ((2*k:Nat):Int) 0) (A (bif gS (n8 / 2) (Tj f8) then 4 else 0)):=by
 refine dB λk hk ih hj=>Ev.of rfl (D3 λ_=>B1 (B1 (C2 (λh=>?_) (λh=>?_))))
 ·have Q7:2*k<n8:=by
   by_cases hh:((2*k:Nat):Int)<(n8:Int)
   ·omega
   ·rw[eQ hh]at h;cases h
  have w1:E (((2*k:Nat):Int)+1)=((2*k+1:Nat):Int):=by rw[C8 K K];omega
  have w2:E (((2*k:Nat):Int)+2)=((2*(k+1):Nat):Int):=by rw[C8 K K];omega
  refine aF (BX K) (aF (BX (by rw[w1];omega)) (ao (ac (C2 (λhb=>aL ?_) (λhb=>aL ?_)))))
  ·rw[w1]at hb;simp only[De]at hb;rw[cV (p:=Tj f8) k K hb,cond_true];exact acW H G T O n4 f4 n6 f6 n8 f8 _ 4 rfl
  ·rw[w1]at hb
   simp only[De]at hb;rw[w2];refine ih K (λj h3=>?_);by_cases e:j=k
   ·subst e;exact hb
   ·exact hj j K
 ·have e:k=n8 / 2:=by
   by_cases hh:((2*k:Nat):Int)<(n8:Int)
   ·rw[BX hh]at h;cases h
   ·omega
  rw[show gS (n8 / 2) (Tj f8)=false from c8 λj h=>hj j K];exact B5 rfl
theorem aoT (hm:n8 % 2=0) (hn:n8<=100) (e:Int):Ev (LR H G T O n4 f4 n6 f6 n8 f8) (.L0 0 e) (A (YW n8 f8 e)):=by
 unfold YW;cases he:e==0 with
 |false=>exact acW H G T O n4 f4 n6 f6 n8 f8 0 e he
 |true=>have:e=0:=EM he;subst this;exact ary H G T O n4 f4 n6 f6 n8 f8 hm hn 0 K (λj h=>by omega)
theorem akg (hp:(aD H G/\aD n6 f6)/\n8 % 2=0/\n8<=100):aT (Ev (LR H G T O n4 f4 n6 f6 n8 f8)) (Ou H G T O n4 f4 n6 f6 n8 f8) (A (MC H G T O n4 f4 n6 f6 n8 f8)):=aI hp.1 (ac (aH (aoT H G T O n4 f4 n6 f6 n8 f8 hp.2.1 hp.2.2 _)))
theorem ava (hp:(aD H (D bd G)/\aD n6 (D aV f6))/\n8 % 2=0/\n8<=100):aT (Ev (LR H G T O n4 f4 n6 f6 n8 f8)) (Ou H G T O n4 f4 n6 f6 n8 f8) (A (MC H (D bd G) T (D bq O) n4 (D bu f4) n6 (D aV f6) n8 (D L f8))):=akg H G T O n4 f4 n6 f6 n8 f8 hp
def C44:aE:=bP [.agg [.sl bd,.sl bq,.sl bu,.sl aV],.sl L] (λ
 |[.agg [.sl H G,.sl T O,.sl n4 f4,.sl n6 f6],.sl n8 f8]=>(aD H G/\aD n6 f6)/\n8 % 2=0/\n8<=100|_=>False) λ
 |[.agg [.sl H G,.sl T O,.sl n4 f4,.sl n6 f6],.sl n8 f8]=>A (MC H G T O n4 f4 n6 f6 n8 f8)|_=>.any
theorem axJ:b9 C44 98:=aU He λ_ hp=>kr (asz ..) (ava _ _ _ _ _ _ _ _ _ _ hp)
def m91:RT Empty:=.obp ((aD H G)/\aD n6 f6) (.obt (.ret (A (gN H (D bd G) T (D bq O) n4 (D bu f4) n6 (D aV f6)))))
theorem apB:cY cZ (aQ JJ ED u0 avk [Ca H G T O n4 f4 n6 f6]) (m91 H G T O n4 f4 n6 f6):=bD
def sX:Int:=gN H (D bd G) T (D bq O) n4 (D bu f4) n6 (D aV f6)
def Ma:V:=A (sX H G T O n4 f4 n6 f6)
theorem ax4 (hp:aD H G/\aD n6 f6):aT cM (m91 H G T O n4 f4 n6 f6) (Ma H G T O n4 f4 n6 f6):=aI (by first|assumption|(exact hp)) (ac (B5 (by unfold Ma sX;rfl)))
def C91:aE:=bP [.agg [.sl bd,.sl bq,.sl bu,.sl aV]] (λ
 |[.agg [.sl H G,.sl T O,.sl n4 f4,.sl n6 f6]]=>aD H G/\aD n6 f6|_=>False) λ
 |[.agg [.sl H G,.sl T O,.sl n4 f4,.sl n6 f6]]=>Ma H G T O n4 f4 n6 f6|_=>.any
theorem av9:b9 C91 171:=aU He λ_ hp=>da (apB ..) (ax4 _ _ _ _ _ _ _ _ hp)
def T7:bm:=(98,.con C44)::(171,.con C91)::ED
theorem fd9:aZ Tryz.prog Bs C3 T7:=.con axJ (.con av9 (He))
def m50:RT Empty:=.obp ((aD H G)/\aD n6 f6) (.obt (.iv (.ii (.obi (.br (bif sX H (D bd G) T (D bq O) n4 (D bu f4) n6 (D aV f6)==0 then bif decide (Y<0) then true else decide (x9<=Y) else false) (.ret (A 4)) (.ret (A (sX H (D bd G) T (D bq O) n4 (D bu f4) n6 (D aV f6)))))))))
theorem asM:cY cZ (aQ JJ T7 u0 avJ [Ca H G T O n4 f4 n6 f6,A Y,A x9]) (m50 H G T O n4 f4 n6 f6 Y x9):=bD
def jj:Int:=bif bif sX H (D bd G) T (D bq O) n4 (D bu f4) n6 (D aV f6)==0 then bif decide (Y<0) then true else decide (x9<=Y) else false then 4 else sX H (D bd G) T (D bq O) n4 (D bu f4) n6 (D aV f6)
def Kh:V:=A (jj H G T O n4 f4 n6 f6 Y x9)
theorem avL (hp:aD H G/\aD n6 f6):aT cM (m50 H G T O n4 f4 n6 f6 Y x9) (Kh H G T O n4 f4 n6 f6 Y x9):=aI (by first|assumption|(exact hp)) (ac (B1 (B1 (B1 (B1 (B1 (B1 (B1 (C2 (λh0=>B5 (by unfold Kh jj;try rw[h0];rfl)) (λh0=>B5 (by unfold Kh jj;try rw[h0];rfl)))))))))))
def C50:aE:=bP [.agg [.sl bd,.sl bq,.sl bu,.sl aV],tI,tI] (λ
 |[.agg [.sl H G,.sl T O,.sl n4 f4,.sl n6 f6],.int _ Y,.int _ x9]=>aD H G/\aD n6 f6|_=>False) λ
 |[.agg [.sl H G,.sl T O,.sl n4 f4,.sl n6 f6],.int _ Y,.int _ x9]=>Kh H G T O n4 f4 n6 f6 Y x9|_=>.any
theorem azf:b9 C50 117:=aU fd9 λ_ hp=>da (asM ..) (avL _ _ _ _ _ _ _ _ _ _ hp)
end
end Go.Dx
namespace Go.Dx
open Go.IntKind (i64 u64 u8)
open Go.Sx Go.Proofs
noncomputable section
attribute [local irreducible] MC jj sX
end
end Go.Dx
namespace Go.Proofs
open Go.RowKit Go.Dx
def Bg (b:Int) (i:Int):Bool:=bif !(bif decide (97<=b) then decide (b<=122) else false) then(bif i==0 then true else bif !(bif decide (48<=b) then decide (b<=57) else false) then b !=45 else false) else false
def kD (s:ByteArray):Bool:=dw s.size (λi=>!Bg ((s.data.toList.getD i 0).toNat:Int) i)&&decide (0<s.size/\s.size<=24)
theorem O0 {p:Prop} (h:p):Hid p:=h
theorem hmm (w:World) (e:TypeId) (s:ByteArray):Below w.heap.size w (Lib.bytesWorld w e s):=by refine⟨rfl,rfl,rfl,?_,λb hb=>Lib.bytesWorld_at_old w e s b hb⟩;rw[Lib.bytesWorld_size];omega
theorem pX (x k:Nat):Bg (x:Int) (k:Int)=true↔¬ (97<=x/\x<=122)/\(k=0∨¬ (48<=x/\x<=57)/\x≠45):=by
 have key:∀(p1 p2 p3 p4 p5 p6:Bool),(bif !(bif p1 then p2 else false) then(bif p3 then true else bif !(bif p4 then p5 else false) then p6 else false) else false)=true↔¬(p1=true/\p2=true)/\(p3=true∨¬(p4=true/\p5=true)/\p6=true):=by decide
 unfold Bg;rw[key];simp only[E0,Ek,bne_iff_ne,ne_eq];omega
theorem i24 {s:ByteArray} {k x:Nat} (hk:k<s.size) (hx:(s.data.toList.getD k 0).toNat=x) (h:¬(97<=x/\x<=122)/\(k=0∨¬(48<=x/\x<=57)/\x≠45)):kD s=false:=by unfold kD;rw[gn k hk (by rw[hx,(pX x k).2 h];rfl)];rfl
theorem hpR {s:ByteArray} {k x:Nat} (S4:∀ j:Nat,j<k->Bg ((s.data.toList.getD j 0).toNat:Int) j=false) (hx:(s.data.toList.getD k 0).toNat=x) (h:¬ (¬ (97<=x/\x<=122)/\(k=0∨¬ (48<=x/\x<=57)/\x≠45))):∀ j:Nat,j<k+1->Bg ((s.data.toList.getD j 0).toNat:Int) j=false:=λj hj=>by
 by_cases e:j=k
 ·subst e
  rw[hx];cases hb:Bg (x:Int) j with
  |false=>rfl|true=>exact(h ((pX x j).1 hb)).elim
 ·exact S4 j K
theorem hsc {s:ByteArray} (S4:∀j:Nat,j<s.size->Bg ((s.data.toList.getD j 0).toNat:Int) j=false):kD s=decide (0<s.size/\s.size<=24):=by unfold kD;rw[fO λi hi=>by rw[S4 i hi];rfl];rfl
theorem acG (s:ByteArray):s.toList=[]↔s.size=0:=by rw[ByteArray.toList_eq];obtain⟨⟨l⟩⟩:=s;show l=[]↔l.length=0;exact List.length_eq_zero_iff.symm
set_option maxHeartbeats 4000000 in
theorem Tryz.name_calls (s:ByteArray) (w:World) (hs:s.size<=9223372036854775807):Calls Tryz.prog 131 #[.string s] w λe w'=>e=.returned (.bool (kD s))/\Below w.heap.size w w':=by
 have hB:∀t,t<s.size->(Lib.bytesWorld w 5 s).cell? ⟨w.heap.size,t,none⟩=some (.int .u8 (s.data.toList.getD t 0).toNat):=λt ht=>Lib.bytesWorld_cell w 5 s t ht;have hbel:=hmm w 5 s
 go_enter Tryz.func131,Tryz.ntmps131
 go_wp2
 rw[Lib.run_convert_string_bytes w 9 221 5 s (u:=.string) bw bw bw];simp only[Result.andThen];rw[Oper.upon_value];obtain⟨W1,hW1⟩:∃W1,W1=Lib.bytesWorld w 5 s:=⟨_,rfl⟩;rw[← hW1]at hB hbel ⊢;have S64:=O0 hW1;have HB:=O0 hB;clear hW1 hB
 go_wp2
 go_loop [9] (λi=>∃k:Nat,k<=s.size/\i=.int .i64 k/\Hid (∀j:Nat,j<k->Bg ((s.data.toList.getD j 0).toNat:Int) j=false)) (λi=>s.size-(intOf i).toNat)
 case atStart=>exact⟨0,Da _,rfl,λj hj=>absurd hj (HG _)⟩
 case round=>
  obtain⟨k,hk,rfl,S4⟩:=hrel;by_cases hkn:k<s.size
  ·have Td:=HB.out k hkn
   generalize hx:(s.data.toList.getD k 0).toNat=x at Td;have Hx:=O0 hx;clear hx
   go_wp2
   all_goals first
    | (go_ret
       have hb:=i24 hkn Hx (by clear HB S4 Hx Td S64 hbel;try simp only[G6,Bool.not_eq_false',decide_eq_false_iff_not,E0,Ek,bne_iff_ne,ne_eq,L9,bne_eq_false_iff_eq]at *;omega);rw[hb];exact⟨rfl,hbel⟩)
    |exact⟨⟨k+1,K,by first|rfl|(congr 1;omega),hpR S4 Hx (by clear HB S4 Hx Td S64 hbel;try simp only[G6,Bool.not_eq_false',decide_eq_false_iff_not,E0,Ek,bne_iff_ne,ne_eq,L9,bne_eq_false_iff_eq]at *;omega)⟩,by simp[intOf];omega⟩|skip
   trace_state
  ·obtain rfl:k=s.size:=by omega
   have he:=hsc S4
   go_wp2
   ·go_ret
    rename_i h _;rw[(acG s).1 h];exact⟨rfl,hbel⟩
   ·go_ret
    rename_i h _;refine⟨?_,hbel⟩;have h0:s.size≠0:=λe=>h ((acG s).2 e);have e1:s.toList.isEmpty=false:=by cases hl:s.toList with|nil=>exact(h hl).elim|cons a l=>rfl
    have e2:decide (0<s.size)=true:=JQ K;have e3:decide ((s.size:Int)<=24)=decide (s.size<=24):=decide_eq_decide.2 K;rw[e2];show Ending.returned (.bool (!s.toList.isEmpty&&decide ((s.size:Int)<=24)))=_;rw[e1,e3];rfl
end Go.Proofs
namespace Go.Dx
open Go.Sx Go.Proofs
noncomputable section
def RV:aE:=bP [.str] (λ
 |[.str s]=>s.size<=9223372036854775807|_=>False) λ
 |[.str s]=>.bool (kD s)|_=>.any
theorem amt:(vP RV).Ok Tryz.prog 131:=by refine⟨λB m lh w args vs At hrel hargs S4=>?_,λ_ _ _ _ _ hk ⟨ds,d,p,r,M,N,h3,h4,h5⟩=>⟨ds,d,p,r,M,N,h3,h4,hk _ _ h5⟩,λ_ _ _ _ ⟨_,_,_,_,_,_,_,_,h⟩=>h⟩;obtain⟨ds,d,p,r,M,N,⟨Sq,h3⟩,h4,h5⟩:=S4;simp only[RV,bP,DJ,Prod.mk.injEq]at N;obtain⟨rfl,rfl,rfl⟩:=N;have Sk:=(kv [.str] ds [] [] rfl Sq).1;simp only[bO,dF]at Sk;obtain⟨e1,e2,e3⟩:=Sk;rw[e2,e3]at e1;generalize sv (aA ds)=s at e1;subst e1;simp only[lR,SL]at h3 h4 h5;simp only[bI,vr]at M;obtain⟨_,_,rfl,rfl,rfl⟩:=M;simp only[aC,C5]at hargs;obtain⟨_,_,rfl,rfl,rfl⟩:=hargs;refine⟨⟨_,Tryz.func131,by kernel_rfl,by kernel_rfl⟩,(Tryz.name_calls s w h3).mono λe w' ⟨he,hb⟩=>?_⟩;exact⟨_,_,m,lh,he,by simp only[dq,C5],jx.refl _ _,bh.below hrel hb,h5⟩
end
end Go.Dx
namespace Go.Dx
open Go.IntKind (i64 u64 u8)
open Go.Sx Go.Proofs
variable (H:Nat) (G:be) (S:Int) (s0:ByteArray) (n1:Nat) (f1:be) (R:Int) (T:Nat) (O:be) (W:Int) (s2:ByteArray) (n3:Nat) (f3:be) (U:Int) (n4:Nat) (f4:be) (Q:Int) (n5:Nat) (q:be) (x5 x6:Int) (n7:Nat) (f7:be) (Z Y x9 Ps Pr Px Q8:Int) (RG:Nat) (Tw:be) (ZK:Nat) (Tx:be)
noncomputable section
def ul:bm:=(117,.con C50)::(131,.con RV)::T7
theorem oY:aZ Tryz.prog Bs C3 ul:=.con azf (.con amt (fd9))
def acV:RT Empty:=.ii (.obi (.ret (V.bool (bif decide (R<=S) then decide (S<=W) else false))))
theorem id5:cY cZ (aQ JJ ul u0 aja [A S,A R,A W]) (acV S R W):=bD
def aw:Bool:=bif decide (R<=S) then decide (S<=W) else false
def P7:V:=.bool (aw S R W)
theorem afy:aT cM (acV S R W) (P7 S R W):=B1 (B1 (B1 (B5 (by unfold P7 aw;rfl))))
def N1:aE:=bP cI (λ_=>True) λ|[.int _ S,.int _ R,.int _ W]=>P7 S R W|_=>.any
theorem hbn:b9 N1 82:=aU oY λ_ hp=>da (id5 ..) (afy _ _ _)
def hd1:RT Empty:=.iv (.iv (.obi (.ret (V.bool (bif bif decide (W<=S) then decide (S<=R) else false then decide (R<=U) else false)))))
theorem x11:cY cZ (aQ JJ ul u0 ame [V.agg [A S,A R],A W,A U]) (hd1 S R W U):=bD
def gg:Bool:=bif bif decide (W<=S) then decide (S<=R) else false then decide (R<=U) else false
def Pn:V:=.bool (gg S R W U)
theorem amM:aT cM (hd1 S R W U) (Pn S R W U):=B1 (B1 (B1 (B1 (B1 (B1 (B1 (B1 (B1 (B5 (by unfold Pn gg;rfl))))))))))
def abo:aE:=bP [.agg aM,tI,tI] (λ_=>True) λ|[.agg [.int _ S,.int _ R],.int _ W,.int _ U]=>Pn S R W U|_=>.any
theorem agS:b9 abo 83:=aU oY λ_ hp=>da (x11 ..) (amM _ _ _ _)
def abV:RT Empty:=.ii (.obi (.ret (V.bool (bif decide (R<=S) then decide (S<=W) else false))))
theorem ny5:cY cZ (aQ JJ ul u0 fb2 [A S,A R,A W]) (abV S R W):=bD
def gH:Bool:=bif decide (R<=S) then decide (S<=W) else false
def OM:V:=.bool (gH S R W)
theorem aej:aT cM (abV S R W) (OM S R W):=B1 (B1 (B1 (B5 (by unfold OM gH;rfl))))
def ad0:aE:=bP cI (λ_=>True) λ|[.int _ S,.int _ R,.int _ W]=>OM S R W|_=>.any
theorem ahh:b9 ad0 44:=aU oY λ_ hp=>da (ny5 ..) (aej _ _ _)
def aaa:RT Empty:=.ii (.obi (.ret (V.bool (bif decide (R<=S) then decide (S<=W) else false))))
theorem okQ:cY cZ (aQ JJ ul u0 amk [A S,A R,A W]) (aaa S R W):=bD
def bF:Bool:=bif decide (R<=S) then decide (S<=W) else false
def M8:V:=.bool (bF S R W)
theorem akL:aT cM (aaa S R W) (M8 S R W):=B1 (B1 (B1 (B5 (by unfold M8 bF;rfl))))
def abi:aE:=bP cI (λ_=>True) λ|[.int _ S,.int _ R,.int _ W]=>M8 S R W|_=>.any
theorem amK:b9 abi 47:=aU oY λ_ hp=>da (okQ ..) (akL _ _ _)
def abf:RT Empty:=.ii (.obi (.ret (V.bool (bif decide (R<=S) then decide (S<=W) else false))))
theorem no4:cY cZ (aQ JJ ul u0 agL [A S,A R,A W]) (abf S R W):=bD
def aG:Bool:=bif decide (R<=S) then decide (S<=W) else false
def Qp:V:=.bool (aG S R W)
theorem ahv:aT cM (abf S R W) (Qp S R W):=B1 (B1 (B1 (B5 (by unfold Qp aG;rfl))))
def aak:aE:=bP cI (λ_=>True) λ|[.int _ S,.int _ R,.int _ W]=>Qp S R W|_=>.any
theorem ajo:b9 aak 166:=aU oY λ_ hp=>da (no4 ..) (ahv _ _ _)
def adl:RT Empty:=dm (n1,f1,n3,f3,n5,q,Z,Y) (.ret (V.str s0))
theorem iy7:cY cZ (aQ JJ ul u0 aj7 [V.agg [V.str s0,V.sl n1 (D L f1),V.sl n3 (D L f3),V.sl n5 (D [Ty.sl L] q),A Z,A Y]]) (adl s0 n1 f1 n3 f3 n5 q Z Y):=bD
def QP:V:=dm (n1,f1,n3,f3,n5,q,Z,Y) (.str (s0))
theorem agr:aT cM (adl s0 n1 f1 n3 f3 n5 q Z Y) (QP s0 n1 f1 n3 f3 n5 q Z Y):=B5 (by unfold QP ; rfl)
def adC:aE:=bP [.agg ap] (λ_=>True) λ|[.agg [.str s0,.sl n1 f1,.sl n3 f3,.sl n5 q,.int _ Z,.int _ Y]]=>QP s0 n1 f1 n3 f3 n5 q Z Y|_=>.any
theorem ajl:b9 adC 77:=aU oY λ_ hp=>da (iy7 ..) (agr _ _ _ _ _ _ _ _ _)
def acn:RT Empty:=dm (R,W,U,Q,x5,x6,Z,Y,x9,Ps,Pr,Px,Q8) (.ret (V.str s0))
theorem sl2:cY cZ (aQ JJ ul u0 ain [V.agg [V.str s0,A R,A W,A U,A Q,A x5,A x6,A Z,A Y,A x9,A Ps,A Pr,A Px,A Q8]]) (acn s0 R W U Q x5 x6 Z Y x9 Ps Pr Px Q8):=bD
def N8:V:=dm (R,W,U,Q,x5,x6,Z,Y,x9,Ps,Pr,Px,Q8) (.str (s0))
theorem amo:aT cM (acn s0 R W U Q x5 x6 Z Y x9 Ps Pr Px Q8) (N8 s0 R W U Q x5 x6 Z Y x9 Ps Pr Px Q8):=B5 (by unfold N8 ; rfl)
def abH:aE:=bP [.agg B4] (λ_=>True) λ|[.agg [.str s0,.int _ R,.int _ W,.int _ U,.int _ Q,.int _ x5,.int _ x6,.int _ Z,.int _ Y,.int _ x9,.int _ Ps,.int _ Pr,.int _ Px,.int _ Q8]]=>N8 s0 R W U Q x5 x6 Z Y x9 Ps Pr Px Q8|_=>.any
theorem akx:b9 abH 80:=aU oY λ_ hp=>da (sl2 ..) (amo _ _ _ _ _ _ _ _ _ _ _ _ _ _)
def ad5:RT Empty:=.ob (decide (R≠0)) (.br (decide (S.tmod R<0)) (.ob (decide (R≠0)) (.ret (A (E (E (S.tdiv R)-1))))) (.ob (decide (R≠0)) (.ret (A (E (S.tdiv R))))))
theorem ih7:cY cZ (aQ JJ ul u0 alr [A S,A R]) (ad5 S R):=bD
def dU:Int:=bif decide (S.tmod R<0) then E (E (S.tdiv R)-1) else E (S.tdiv R)
def Ki:V:=A (dU S R)
theorem ahY (hp:R≠0):aT cM (ad5 S R) (Ki S R):=aF (by first|assumption|(simp[hp])) (C2 (λh0=>aF (by first|assumption|(simp[hp])) (B5 (by unfold Ki dU;try rw[h0];rfl))) (λh0=>aF (by first|assumption|(simp[hp])) (B5 (by unfold Ki dU;try rw[h0];rfl))))
def aaW:aE:=bP aM (λ
 |[.int _ S,.int _ R]=>R≠0|_=>False) λ
 |[.int _ S,.int _ R]=>Ki S R|_=>.any
theorem afq:b9 aaW 115:=aU oY λ_ hp=>da (ih7 ..) (ahY _ _ hp)
def aa9:RT Empty:=.ob (decide (R≠0)) (.ob (decide (R≠0)) (.br (decide (S.tmod R<0)) (.ret (A (E (E (S.tdiv R)-1)))) (.ret (A (E (S.tdiv R))))))
theorem x25:cY cZ (aQ JJ ul u0 afA [A S,A R]) (aa9 S R):=bD
def fQ:Int:=bif decide (S.tmod R<0) then E (E (S.tdiv R)-1) else E (S.tdiv R)
def E4:V:=A (fQ S R)
theorem akG (hp:R≠0):aT cM (aa9 S R) (E4 S R):=aF (by first|assumption|(simp[hp])) (aF (by first|assumption|(simp[hp])) (C2 (λh0=>B5 (by unfold E4 fQ;try rw[h0];rfl)) (λh0=>B5 (by unfold E4 fQ;try rw[h0];rfl))))
def acx:aE:=bP aM (λ
 |[.int _ S,.int _ R]=>R≠0|_=>False) λ
 |[.int _ S,.int _ R]=>E4 S R|_=>.any
theorem hc3:b9 acx 96:=aU oY λ_ hp=>da (x25 ..) (akG _ _ hp)
def ybi:RT Empty:=.ob (decide (R≠0)) (.ob (decide (R≠0)) (.br (decide (S.tmod R<0)) (.ret (A (E (E (S.tdiv R)-1)))) (.ret (A (E (S.tdiv R))))))
theorem io9:cY cZ (aQ JJ ul u0 afP [V.agg [A S,A R]]) (ybi S R):=bD
def dO:Int:=bif decide (S.tmod R<0) then E (E (S.tdiv R)-1) else E (S.tdiv R)
def Ka:V:=A (dO S R)
theorem aeK (hp:R≠0):aT cM (ybi S R) (Ka S R):=aF (by first|assumption|(simp[hp])) (aF (by first|assumption|(simp[hp])) (C2 (λh0=>B5 (by unfold Ka dO;try rw[h0];rfl)) (λh0=>B5 (by unfold Ka dO;try rw[h0];rfl))))
def abk:aE:=bP [.agg aM] (λ
 |[.agg [.int _ S,.int _ R]]=>R≠0|_=>False) λ
 |[.agg [.int _ S,.int _ R]]=>Ka S R|_=>.any
theorem ba1:b9 abk 29:=aU oY λ_ hp=>da (io9 ..) (aeK _ _ hp)
def aag:RT Empty:=.ob (decide (R≠0)) (.br (decide (S.tmod R<0)) (.ob (decide (R≠0)) (.ret (A (E (E (S.tdiv R)-1))))) (.ob (decide (R≠0)) (.ret (A (E (S.tdiv R))))))
theorem iz9:cY cZ (aQ JJ ul u0 amI [A S,A R]) (aag S R):=bD
def fm:Int:=bif decide (S.tmod R<0) then E (E (S.tdiv R)-1) else E (S.tdiv R)
def JE:V:=A (fm S R)
theorem amu (hp:R≠0):aT cM (aag S R) (JE S R):=aF (by first|assumption|(simp[hp])) (C2 (λh0=>aF (by first|assumption|(simp[hp])) (B5 (by unfold JE fm;try rw[h0];rfl))) (λh0=>aF (by first|assumption|(simp[hp])) (B5 (by unfold JE fm;try rw[h0];rfl))))
def acR:aE:=bP aM (λ
 |[.int _ S,.int _ R]=>R≠0|_=>False) λ
 |[.int _ S,.int _ R]=>JE S R|_=>.any
theorem ah6:b9 acR 39:=aU oY λ_ hp=>da (iz9 ..) (amu _ _ hp)
def tK:bm:=(82,.con N1)::(83,.con abo)::(44,.con ad0)::(47,.con abi)::(166,.con aak)::(77,.con adC)::(80,.con abH)::(115,.con aaW)::(96,.con acx)::(29,.con abk)::(39,.con acR)::ul
theorem q9:aZ Tryz.prog Bs C3 tK:=.con hbn (.con agS (.con ahh (.con amK (.con ajo (.con ajl (.con akx (.con afq (.con hc3 (.con ba1 (.con ah6 (oY)))))))))))
def aac:RT Empty:=.obp (nz R) (.obt (.ret (A (E (0-dU (E (0-S)) R)))))
theorem x18:cY cZ (aQ JJ tK u0 ahN [A S,A R]) (aac S R):=bD
def eP:Int:=E (0-dU (E (0-S)) R)
def SP:V:=A (eP S R)
theorem al3 (hp:R≠0):aT cM (aac S R) (SP S R):=aI (by first|assumption|(exact hp)) (ac (B5 (by unfold SP eP;rfl)))
def adk:aE:=bP aM (λ
 |[.int _ S,.int _ R]=>R≠0|_=>False) λ
 |[.int _ S,.int _ R]=>SP S R|_=>.any
theorem afI:b9 adk 116:=aU q9 λ_ hp=>da (x18 ..) (al3 _ _ hp)
def acS:RT Empty:=.obp (nz R) (.obt (.ret (A (E (0-fQ (E (0-S)) R)))))
theorem id2:cY cZ (aQ JJ tK u0 agj [A S,A R]) (acS S R):=bD
def ir:Int:=E (0-fQ (E (0-S)) R)
def JL:V:=A (ir S R)
theorem agT (hp:R≠0):aT cM (acS S R) (JL S R):=aI (by first|assumption|(exact hp)) (ac (B5 (by unfold JL ir;rfl)))
def acf:aE:=bP aM (λ
 |[.int _ S,.int _ R]=>R≠0|_=>False) λ
 |[.int _ S,.int _ R]=>JL S R|_=>.any
theorem ha1:b9 acf 97:=aU q9 λ_ hp=>da (id2 ..) (agT _ _ hp)
def he1:RT Empty:=.obp (nz R) (.obt (.ret (A (E (0-dO (E (0-S)) R)))))
theorem id0:cY cZ (aQ JJ tK u0 aiF [V.agg [A S,A R]]) (he1 S R):=bD
def eC:Int:=E (0-dO (E (0-S)) R)
def I7:V:=A (eC S R)
theorem ak6 (hp:R≠0):aT cM (he1 S R) (I7 S R):=aI (by first|assumption|(exact hp)) (ac (B5 (by unfold I7 eC;rfl)))
def abz:aE:=bP [.agg aM] (λ
 |[.agg [.int _ S,.int _ R]]=>R≠0|_=>False) λ
 |[.agg [.int _ S,.int _ R]]=>I7 S R|_=>.any
theorem ayv:b9 abz 31:=aU q9 λ_ hp=>da (id0 ..) (ak6 _ _ hp)
def aae:RT Empty:=.obp (nz R) (.obt (.ret (A (E (0-fm (E (0-S)) R)))))
theorem onL:cY cZ (aQ JJ tK u0 aj8 [A S,A R]) (aae S R):=bD
def gG:Int:=E (0-fm (E (0-S)) R)
def Sv:V:=A (gG S R)
theorem afO (hp:R≠0):aT cM (aae S R) (Sv S R):=aI (by first|assumption|(exact hp)) (ac (B5 (by unfold Sv gG;rfl)))
def aa4:aE:=bP aM (λ
 |[.int _ S,.int _ R]=>R≠0|_=>False) λ
 |[.int _ S,.int _ R]=>Sv S R|_=>.any
theorem agF:b9 aa4 41:=aU q9 λ_ hp=>da (onL ..) (afO _ _ hp)
def hd':RT Empty:=.obi (.br (decide (S<=R)) (.ob (decide (S<=R)) (.ob (decide (S<=R)) (.ob (decide (S<=R)) (.cb (.obi (.br (aG S W U) (.ob (aG S W U) (.ob (aG S W U) (.ob (aG S W U) (.cb (.ret (V.bool (aG R W U))))))) (.ret (V.kb false)))))))) (.ret (V.kb false)))
theorem in0:cY cZ (aQ JJ tK u0 amg [V.agg [A S,A R],A W,A U]) (hd' S R W U):=bD
def fw:Bool:=bif decide (S<=R) then bif aG S W U then aG R W U else false else false
def Ej:V:=.bool (fw S R W U)
theorem ajC:aT cM (hd' S R W U) (Ej S R W U):=B1 (C2 (λh0=>aF (by first|assumption|(fail)) (aF (by first|assumption|(fail)) (aF (by first|assumption|(fail)) (ao (ac (B1 (C2 (λM=>aF (by first|assumption|(fail)) (aF (by first|assumption|(fail)) (aF (by first|assumption|(fail)) (ao (ac (B5 (by unfold Ej fw;try rw[h0];try rw[M];rfl))))))) (λM=>B5 (by unfold Ej fw;try rw[h0];try rw[M];rfl))))))))) (λh0=>B5 (by unfold Ej fw;try rw[h0];rfl)))
def adh:aE:=bP [.agg aM,tI,tI] (λ_=>True) λ|[.agg [.int _ S,.int _ R],.int _ W,.int _ U]=>Ej S R W U|_=>.any
theorem aeE:b9 adh 205:=aU q9 λ_ hp=>da (in0 ..) (ajC _ _ _ _)
def ad4:RT Empty:=.cb (.ret (V.bool !aw S R W))
theorem yaC:cY cZ (aQ JJ tK u0 axc [A S,V.pd [A R],V.pd [A W]]) (ad4 S R W):=bD
def sT:Bool:=!aw S R W
def Qe:V:=.bool (sT S R W)
theorem ago:aT cM (ad4 S R W) (Qe S R W):=ao (ac (B5 (by unfold Qe sT;rfl)))
def adK:aE:=bP [tI,.pd L,.pd L] (λ_=>True) λ|[.int _ S,.pd [.int _ R],.pd [.int _ W]]=>Qe S R W|_=>.any
theorem alO:b9 adK 177:=aU q9 λ_ hp=>da (yaC ..) (ago _ _ _)
theorem AJ (n:Nat) (p:Nat->Bool):dw (n+1) p=bif dw n p then p n else false:=by
 cases h:dw n p with
 |false=>
   cases N:dw (n+1) p with
   |false=>rfl|true=>rw[fO λi hi=>dA N i K]at h;cases h
 |true=>
   cases h3:p n with
   |false=>rw[gn n K h3];rfl
   |true=>rw[fO λi hi=>by
      by_cases e:i=n
      ·subst e;exact h3
      ·exact dA h i K];rfl
theorem AY {Q1:Type} {Nx:Q1->V->Prop} {r:V} {x:RT Q1} {c:Bool} {i n:Nat} (h:i<n) (hn:n<=9223372036854775807) (hc:c=true->((i:Int)==0)=false) (hx:aT Nx x r):aT Nx (.obj c (decide (0<=E ((i:Int)-1)/\E ((i:Int)-1)<(n:Int))) x) r:=⟨λhb=>by
 have h0:(i:Int)≠0:=by have:=hc hb;simpa using this
 exact BX (by rw[C8 K K];omega),hx⟩
def Uh (i:Nat):Bool:=bif(i:Int)==0 then true else decide (av (G (E ((i:Int)-1)).toNat)<av (G (i:Int).toNat))
def rng (i:Nat):Bool:=aG (av (G (i:Int).toNat)) (-5000) 5000
inductive vo where|L0 (_:Int)
def ov0:vo->bS×List Ax×Option Ex
 |.L0 Pt=>([(3,A Pt),(2,V.kb false),(0,V.sl H (D L G))],[],none)
def aij:vo->JJ
 |.L0 _=>(0,[])
def c66:Bh (cq JJ):=aQ JJ tK u0 aiP [V.sl H (D L G)]
def S66 (cx:List Cx):Lp JJ:=eX (eJ (c66 H G) [])
def afk:JJ->Lp JJ
 |(0,cx)=>S66 H G cx|(_,cx)=>S66 H G cx
def aoV:LD JJ vo:=⟨aij,afk H G,ov0 H G⟩
def B6:vo->RT vo
 |.L0 Pt=>.am H (.br (decide (Pt<(H:Int))) (.ob (dI (E (Pt-1)) H) (.ob (dI Pt H) (.br (decide (av (G Pt.toNat)<=av (G (E (Pt-1)).toNat))) (.ret (V.kb false)) (.next [] (vo.L0 (E (Pt+1))) [])))) (.ret (V.kb true)))
def ME:RT vo:=dm (H,G) (.enter [] (vo.L0 1) [])
theorem nm8:dZ tK u0 (aoV H G) (c66 H G) (ME H G) (B6 H G):=⟨bD,λs=>by cases s<;>exact bD⟩
def Ds:Bool:=dw H (Uh G)
theorem hsv:aT (Ev (B6 H G)) (ME H G) (.bool (Ds H G)):=by
 have key:=dB (n:=H) (P:=λi=>1<=i->(∀ j,j<i->Uh G j=true)->Ev (B6 H G) (.L0 i) (.bool (Ds H G))) λi hi ih M hj=>by
  refine Ev.of rfl (bC λhn=>C2 (λh=>?_) (λh=>B5 ?_))
  ·have Q7:i<H:=by have:=DU h;omega
   have h0:((i:Int)==0)=false:=by simp;omega
   refine aF (BX (by rw[C8 K K];omega)) (aF (BX K) (C2 (λhb=>B5 ?_) (λhb=>aL ?_)))
   ·have hr:Uh G i=false:=by unfold Uh;rw[h0];exact eQ (by have:=DU hb;omega)
    simp only[dq];unfold Ds;rw[gn i Q7 hr]
   ·have hr:Uh G i=true:=by unfold Uh;rw[h0];exact BX (by have:=Dp hb;omega)
    rw[kE Q7 hn];refine ih Q7 K λj N=>?_;by_cases e:j=i
    ·subst e;exact hr
    ·exact hj j K
  ·have:i=H:=by have:=Dp h;omega
   subst this;simp only[dq];unfold Ds;rw[fO hj]
 by_cases h0:H=0
 ·subst h0;exact aH (Ev.of rfl (bC λ_=>cW rfl (B5 rfl)))
 ·exact aH (key 1 K K λj hj=>by
   have:j=0:=by omega
   subst this;rfl)
theorem afM:aT (Ev (B6 H G)) (ME H G) (.bool (Ds H (D L G))):=hsv H G
def aaZ:aE:=bP [.sl L] (λ_=>True) λ|[.sl H G]=>.bool (Ds H G)|_=>.any
theorem agE:b9 aaZ 135:=aU q9 λ_ hp=>kr (nm8 ..) (afM _ _)
inductive vU where|L0 (_:Int)
def nw3:vU->bS×List Ax×Option Ex
 |.L0 Pt=>([(3,A Pt),(21,V.kb false),(17,V.bool (bif bif decide ((↑s0.size:Int)<1) then true else decide (24<(↑s0.size:Int)) then true else decide ((↑(s0.data.1.getD 0 0).toNat:Int)<97))),(16,V.bool (bif bif decide ((↑s0.size:Int)<1) then true else decide (24<(↑s0.size:Int)) then true else decide ((↑(s0.data.1.getD 0 0).toNat:Int)<97))),(12,V.bool (bif decide ((↑s0.size:Int)<1) then true else decide (24<(↑s0.size:Int)))),(11,V.bool (bif decide ((↑s0.size:Int)<1) then true else decide (24<(↑s0.size:Int)))),(7,V.bool (decide ((↑s0.size:Int)<1))),(6,V.bool (decide ((↑s0.size:Int)<1))),(5,A (↑s0.size:Int)),(4,V.str s0),(2,V.kb false),(0,V.str s0)],[],none)
def aef:vU->JJ
 |.L0 _=>(0,[])
def fx2:Bh (cq JJ):=aQ JJ tK u0 ajM [V.str s0]
def R49 (cx:List Cx):Lp JJ:=eX (eJ (fx2 s0) [false])
def akC:JJ->Lp JJ
 |(0,cx)=>R49 s0 cx|(_,cx)=>R49 s0 cx
def aqc:LD JJ vU:=⟨aef,akC s0,nw3 s0⟩
def G3:vU->RT vU
 |.L0 Pt=>.br (decide (Pt<(↑s0.size:Int))) (.ob (decide (0<=Pt/\Pt<(↑s0.size:Int))) (.ii (.obj (decide (97<=(↑(s0.data.1.getD Pt.toNat 0).toNat:Int))) (decide (0<=Pt/\Pt<(↑s0.size:Int))) (.iv (.obj (!bif decide (97<=(↑(s0.data.1.getD Pt.toNat 0).toNat:Int)) then decide ((↑(s0.data.1.getD Pt.toNat 0).toNat:Int)<=122) else false) (decide (0<=Pt/\Pt<(↑s0.size:Int))) (.iv (.obj ((!bif decide (97<=(↑(s0.data.1.getD Pt.toNat 0).toNat:Int)) then decide ((↑(s0.data.1.getD Pt.toNat 0).toNat:Int)<=122) else false)&&decide (48<=(↑(s0.data.1.getD Pt.toNat 0).toNat:Int))) (decide (0<=Pt/\Pt<(↑s0.size:Int))) (.iv (.ii (.obj (!bif bif decide (97<=(↑(s0.data.1.getD Pt.toNat 0).toNat:Int)) then decide ((↑(s0.data.1.getD Pt.toNat 0).toNat:Int)<=122) else false then true else bif decide (48<=(↑(s0.data.1.getD Pt.toNat 0).toNat:Int)) then decide ((↑(s0.data.1.getD Pt.toNat 0).toNat:Int)<=57) else false) (decide (0<=Pt/\Pt<(↑s0.size:Int))) (.ii (.br (!bif bif bif decide (97<=(↑(s0.data.1.getD Pt.toNat 0).toNat:Int)) then decide ((↑(s0.data.1.getD Pt.toNat 0).toNat:Int)<=122) else false then true else bif decide (48<=(↑(s0.data.1.getD Pt.toNat 0).toNat:Int)) then decide ((↑(s0.data.1.getD Pt.toNat 0).toNat:Int)<=57) else false then true else(↑(s0.data.1.getD Pt.toNat 0).toNat:Int)==45) (.ret (V.kb false)) (.next [] (vU.L0 (E (Pt+1))) []))))))))))))) (.ret (V.kb true))
def Qg:RT vU:=.iv (.obj (!bif decide ((↑s0.size:Int)<1) then true else decide (24<(↑s0.size:Int))) (decide ((0:Int)<=0/\0<(↑s0.size:Int))) (.ii (.obi (.obj (!bif bif decide ((↑s0.size:Int)<1) then true else decide (24<(↑s0.size:Int)) then true else decide ((↑(s0.data.1.getD 0 0).toNat:Int)<97)) (decide ((0:Int)<=0/\0<(↑s0.size:Int))) (.ii (.br (bif bif bif decide ((↑s0.size:Int)<1) then true else decide (24<(↑s0.size:Int)) then true else decide ((↑(s0.data.1.getD 0 0).toNat:Int)<97) then true else decide (122<(↑(s0.data.1.getD 0 0).toNat:Int))) (.ret (V.kb false)) (.enter [] (vU.L0 0) [])))))))
theorem x28:dZ tK u0 (aqc s0) (fx2 s0) (Qg s0) (G3 s0):=⟨bD,λs=>by cases s<;>exact bD⟩
def Ak:Bool:=bif bif bif decide ((↑s0.size:Int)<1) then true else decide (24<(↑s0.size:Int)) then true else decide ((↑(s0.data.1.getD 0 0).toNat:Int)<97) then true else decide (122<(↑(s0.data.1.getD 0 0).toNat:Int))
def ot (ii:Nat):Bool:=!bif bif bif decide (97<=(↑(s0.data.1.getD ii 0).toNat:Int)) then decide ((↑(s0.data.1.getD ii 0).toNat:Int)<=122) else false then true else bif decide (48<=(↑(s0.data.1.getD ii 0).toNat:Int)) then decide ((↑(s0.data.1.getD ii 0).toNat:Int)<=57) else false then true else(↑(s0.data.1.getD ii 0).toNat:Int)==45
def mt:Bool:=bif Ak s0 then false else dw s0.size λi=>!ot s0 i
theorem axX {c:Bool} {n:Nat} (h:(!bif decide ((n:Int)<1) then true else c)=true):decide ((0:Int)<=0/\0<(n:Int))=true:=by
 cases hs:decide ((n:Int)<1) with
 |true=>rw[hs]at h;cases h|false=>exact BX ⟨K,by have:=Dp hs;omega⟩
theorem auX {c d:Bool} {n:Nat} (h:(!bif bif decide ((n:Int)<1) then true else c then true else d)=true):decide ((0:Int)<=0/\0<(n:Int))=true:=by
 cases hs:decide ((n:Int)<1) with
 |true=>rw[hs]at h;cases h|false=>exact BX ⟨K,by have:=Dp hs;omega⟩
theorem ag9 (hp:s0.size<=9223372036854775807):aT (Ev (G3 s0)) (Qg s0) (.bool (mt s0)):=by
 unfold Qg
 repeat (first|refine B1 ?_|refine DY axX ?_|refine DY auX ?_)
 refine C2 (λh=>B5 ?_) (λh=>aH ?_)
 ·unfold mt;rw[show Ak s0=true from h];rfl
 ·unfold mt;rw[show Ak s0=false from h,cond_false]
  refine ku hp (ot s0) (P:=λi=>Ev (G3 s0) (.L0 i) (.bool (dw s0.size λi=>!ot s0 i))) (λi Q7 hj next=>Ev.of rfl (dt Q7 (cX Q7 (by
   repeat (first|refine B1 ?_|refine qz Q7 ?_)
   refine C2 (λhb=>B5 ?_) (λhb=>aL (next hb));simp only[dq];rw[gn i Q7 (by rw[show ot s0 i=true from hb];rfl)]))))
   (λhj=>Ev.of rfl (dl (B5 ?_)))
  simp only[dq];rw[fO λi hi=>by rw[hj i hi];rfl]
def acT:aE:=bP [.str] (λ
 |[.str s0]=>s0.size<=9223372036854775807|_=>False) λ
 |[.str s0]=>.bool (mt s0)|_=>.any
theorem aeC:b9 acT 203:=aU q9 λ_ hp=>kr (x28 ..) (ag9 _ hp)
inductive tV where|L0 (_:Int) (_:Bool) (_:Bool)
def ip8:tV->bS×List Ax×Option Ex
 |.L0 Pt UE Wv=>([(5,A Pt),(4,V.bool UE),(3,V.bool Wv),(2,V.bool (aG (H:Int) 2 12)),(8,V.bool (aG (H:Int) 2 12)),(7,A (H:Int)),(6,V.sl H (D L G)),(0,V.sl H (D L G))],[],none)
def ams:tV->JJ
 |.L0 ..=>(0,[])
def dqt:Bh (cq JJ):=aQ JJ tK u0 akb [V.sl H (D L G)]
def ab3 (cx:List Cx):Lp JJ:=eX (eJ (dqt H G) [])
def ajh:JJ->Lp JJ
 |(0,cx)=>ab3 H G cx|(_,cx)=>ab3 H G cx
def anD:LD JJ tV:=⟨ams,ajh H G,ip8 H G⟩
def yr:tV->RT tV
 |.L0 Pt UE Wv=>.am H (.br (decide (Pt<(H:Int))) (.ii (.obj (Wv) (dI Pt H) (.obi (.br (Wv) (.ob (Wv) (.cb (.iv (.obj (UE&&!Pt==0) (dI Pt H) (.iv (.obj (UE&&!Pt==0) (dI (E (Pt-1)) H) (.iv (.ii (.next [] (tV.L0 (E (Pt+1)) (bif UE then bif Pt==0 then true else decide (av (G (E (Pt-1)).toNat)<av (G Pt.toNat)) else false) (aG (av (G Pt.toNat)) (-5000) 5000)) []))))))))) (.iv (.obj (UE&&!Pt==0) (dI Pt H) (.iv (.obj (UE&&!Pt==0) (dI (E (Pt-1)) H) (.iv (.ii (.next [] (tV.L0 (E (Pt+1)) (bif UE then bif Pt==0 then true else decide (av (G (E (Pt-1)).toNat)<av (G Pt.toNat)) else false) (false)) []))))))))))) (.ret (V.tup [V.bool (aG (H:Int) 2 12),V.bool Wv,V.bool UE])))
def Rj:RT tV:=dm G (.am H (.cb (.enter [] (tV.L0 0 (true) (true)) [])))
theorem iu0:dZ tK u0 (anD H G) (dqt H G) (Rj H G) (yr H G):=⟨bD,λs=>by cases s<;>exact bD⟩
def lO:Bool:=dw H (rng G)
theorem ia1 (H:Nat) (G:be):aT (Ev (yr H G)) (Rj H G) (.tup [.bool (aG (H:Int) 2 12),.bool (lO H G),.bool (Ds H G)]):=by
 refine bC λhn=>ao (ac (aH (EL hn (P:=λx=>Ev (yr H G) (.L0 x (dw x.toNat (Uh G)) (dw x.toNat (rng G))) (.tup [.bool (aG (H:Int) 2 12),.bool (lO H G),.bool (Ds H G)])) (λi Q7 nx=>?_) (Ev.of rfl (D3 λ_=>dl (B5 (by simp only[De];rfl)))))));have nx':Ev (yr H G) (.L0 (E ((i:Int)+1)) (bif dw i (Uh G) then Uh G i else false) (bif dw i (rng G) then rng G i else false)) (.tup [.bool (aG (H:Int) 2 12),.bool (lO H G),.bool (Ds H G)]):=by have:=nx;rw[show(E ((i:Int)+1)).toNat=i+1 by rw[kE Q7 hn];rfl,AJ,AJ]at this;exact this
 simp only[De];have hcc:∀b:Bool,(b&&!(i:Int)==0)=true->((i:Int)==0)=false:=λb h=>by cases b<;>cases he:((i:Int)==0)<;>simp_all
 refine Ev.of rfl (D3 λ_=>dt Q7 (B1 (B1 (qz Q7 (B1 (C2 (λhb=>aF hb (ao (ac ?_))) (λhb=>?_)))))))
 ·repeat (first|refine B1 ?_|refine qz Q7 ?_|refine AY Q7 hn (hcc _) ?_)
  rw[hb,cond_true]at nx';exact aL nx'
 ·repeat (first|refine B1 ?_|refine qz Q7 ?_|refine AY Q7 hn (hcc _) ?_)
  rw[hb,cond_false]at nx';exact aL nx'
theorem al8 (H:Nat) (G:be):aT (Ev (yr H G)) (Rj H G) (.tup [.bool (aG (H:Int) 2 12),.bool (lO H (D L G)),.bool (Ds H (D L G))]):=ia1 H G
def ado:aE:=bP [.sl L] (λ_=>True) λ|[.sl H G]=>.tup [.bool (aG (H:Int) 2 12),.bool (lO H G),.bool (Ds H G)]|_=>.any
theorem ae8:b9 ado 204:=aU q9 λ_ hp=>kr (iu0 ..) (al8 _ _)
def Nn:bm:=(116,.con adk)::(97,.con acf)::(31,.con abz)::(41,.con aa4)::(205,.con adh)::(177,.con adK)::(135,.con aaZ)::(203,.con acT)::(204,.con ado)::tK
theorem Nc:aZ Tryz.prog Bs C3 Nn:=.con afI (.con ha1 (.con ayv (.con agF (.con aeE (.con alO (.con agE (.con aeC (.con ae8 (q9)))))))))
inductive vA where|L0 (_:Int)
def qlo:vA->bS×List Ax×Option Ex
 |.L0 Pt=>([(8,A Pt),(7,A (H:Int)),(6,V.sl H (D L G)),(4,A 0),(0,V.sl H (D L G)),(1,V.fn 177 [] [V.pd [A W],V.pd [A U]])],[],none)
def akv:vA->JJ
 |.L0 _=>(0,[])
def yaL:Bh (cq JJ):=aQ JJ Nn u0 IS [V.sl H (D L G),V.fn 177 [] [V.pd [A W],V.pd [A U]]]
def yaA (cx:List Cx):Lp JJ:=eX (eJ (yaL H G W U) [])
def ahl:JJ->Lp JJ
 |(0,cx)=>yaA H G W U cx|(_,cx)=>yaA H G W U cx
def anF:LD JJ vA:=⟨akv,ahl H G W U,qlo H G W U⟩
def FW:vA->RT vA
 |.L0 Pt=>.br (decide (Pt<(H:Int))) (.ob (dI Pt H) (.cb (.br (sT (av (G Pt.toNat)) W U) (.ret (A Pt)) (.next [] (vA.L0 (E (Pt+1))) [])))) (.ret (A (-1)))
def Oo:RT vA:=dm (G,W,U) (.am H (.enter [] (vA.L0 0) []))
theorem is9:dZ Nn u0 (anF H G W U) (yaL H G W U) (Oo H G W U) (FW H G W U):=⟨bD,λs=>by cases s<;>exact bD⟩
def Dd:Int  :=zG H λii=>sT (av (G ii)) W U
theorem ib4:aT (Ev (FW H G W U)) (Oo H G W U) (A (Dd H G W U)):=bC λhn=>aH (pQ hn λi=>rfl)
theorem aiQ:aT (Ev (FW H G W U)) (Oo H G W U) (A (Dd H (D L G) W U)):=ib4 H G W U
def aaz:aE:=bP [.sl L,.fn 177 [] [.pd L,.pd L]] (λ_=>True) λ|[.sl H G,.fn _ [] [.pd [.int _ W],.pd [.int _ U]]]=>A (Dd H G W U)|_=>.any
theorem aeT:b9 aaz 92:=aU Nc λ_ hp=>kr (is9 ..) (aiQ _ _ _ _)
def OI:bm:=(92,.con aaz)::Nn
theorem aaf:aZ Tryz.prog Bs C3 OI:=.con aeT (Nc)
def atF:RT Empty:=.cb (.ret (V.bool (decide (0<=Dd H (D L G) W U))))
theorem afp:cY cZ (aQ JJ OI u0 ZA [V.sl H (D L G),V.fn 177 [] [V.pd [A W],V.pd [A U]]]) (atF H G W U):=bD
def Bz:Bool:=decide (0<=Dd H (D L G) W U)
def ON:V:=.bool (Bz H G W U)
theorem anx:aT cM (atF H G W U) (ON H G W U):=ao (ac (B5 (by unfold ON Bz;rfl)))
def apQ:aE:=bP [.sl L,.fn 177 [] [.pd L,.pd L]] (λ_=>True) λ|[.sl H G,.fn _ [] [.pd [.int _ W],.pd [.int _ U]]]=>ON H G W U|_=>.any
theorem arX:b9 apQ 52:=aU aaf λ_ hp=>da (afp ..) (anx _ _ _ _)
def Ns:bm:=(52,.con apQ)::OI
theorem ad7:aZ Tryz.prog Bs C3 Ns:=.con arX (aaf)
def ady:RT Empty:=.cb (.ret (V.bool !Bz H (D L G) W U))
theorem jf7:cY cZ (aQ JJ Ns u0 fs1 [V.sl H (D L G),A W,A U]) (ady H G W U):=bD
def ES:Bool:=!Bz H (D L G) W U
def NV:V:=.bool (ES H G W U)
theorem afc:aT cM (ady H G W U) (NV H G W U):=ao (ac (B5 (by unfold NV ES;rfl)))
def aaS:aE:=bP [.sl L,tI,tI] (λ_=>True) λ|[.sl H G,.int _ W,.int _ U]=>NV H G W U|_=>.any
theorem akJ:b9 aaS 122:=aU ad7 λ_ hp=>da (jf7 ..) (afc _ _ _ _)
def W4:bm:=(122,.con aaS)::Ns
theorem Nj:aZ Tryz.prog Bs C3 W4:=.con akJ (ad7)
def ab9:RT Empty:=dm (G,s2,n3,f3,q,n7,f7,x9,Ps) (.am H (.am n5 (.ret (V.bool ((H:Int)!=(n5:Int))))))
theorem yad:cY cZ (aQ JJ W4 u0 ail [V.sl H (D L G),V.pd [V.str s2,V.sl n3 (D L f3),V.sl n5 (D L q),V.sl n7 (D [Ty.sl L] f7),A x9,A Ps]]) (ab9 H G s2 n3 f3 n5 q n7 f7 x9 Ps):=bD
def wX:Bool:=(H:Int)!=(n5:Int)
def Nf:V:=dm (G,s2,n3,f3,q,n7,f7,x9,Ps) (.bool (wX H n5))
theorem akK:aT cM (ab9 H G s2 n3 f3 n5 q n7 f7 x9 Ps) (Nf H G s2 n3 f3 n5 q n7 f7 x9 Ps):=D3 (λa0=>D3 (λa0=>B5 (by unfold Nf wX;rfl)))
def acb:aE:=bP [.sl L,.pd ap] (λ_=>True) λ|[.sl H G,.pd [.str s2,.sl n3 f3,.sl n5 q,.sl n7 f7,.int _ x9,.int _ Ps]]=>Nf H G s2 n3 f3 n5 q n7 f7 x9 Ps|_=>.any
theorem amd:b9 acb 133:=aU Nj λ_ hp=>da (yad ..) (akK _ _ _ _ _ _ _ _ _ _ _)
def acQ:RT Empty:=.cb (.ret (V.bool !ES H (D L G) 0 10000000))
theorem okP:cY cZ (aQ JJ W4 u0 aeP [V.sl H (D L G)]) (acQ H G):=bD
def jM:Bool:=!ES H (D L G) 0 10000000
def SX:V:=.bool (jM H G)
theorem agm:aT cM (acQ H G) (SX H G):=ao (ac (B5 (by unfold SX jM;rfl)))
def abF:aE:=bP [.sl L] (λ_=>True) λ|[.sl H G]=>SX H G|_=>.any
theorem aka:b9 abF 134:=aU Nj λ_ hp=>da (okP ..) (agm _ _)
def Le:bm:=(185,.inl aft u0)::(136,.inl ajG u0)::(133,.con acb)::(134,.con abF)::W4
theorem acm:aZ Tryz.prog Bs C3 Le:=iq Tryz.func185 bw (iq Tryz.func136 bw (.con amd (.con aka (Nj))))
inductive oU where|L0 (_:Int)|L2 (_ _:Int)|L3 (_ _:Int)
def Pi:oU->bS×List Ax×Option Ex
 |.L0 Pt=>([(8,A Pt),(7,A (n5:Int)),(0,V.sl n5 (D [Ty.sl L] q)),(1,V.fn 133 [] [V.pl 0 0])],[Ax.cells [V.str s0,V.sl n1 (D L f1),V.sl n3 (D L f3),V.sl n5 (D [Ty.sl L] q),A Z,A Y] 88],none)|.L2 QX _=>([(8,A QX),(7,A (n5:Int)),(0,V.sl n5 (D [Ty.sl L] q)),(1,V.fn 134 [] [])],[Ax.cells [V.str s0,V.sl n1 (D L f1),V.sl n3 (D L f3),V.sl n5 (D [Ty.sl L] q),A Z,A Y] 88],none)|.L3 RA _=>([(8,A RA),(7,A (n5:Int)),(0,V.sl n5 (D [Ty.sl L] q)),(1,V.fn 134 [] [])],[Ax.cells [V.str s0,V.sl n1 (D L f1),V.sl n3 (D L f3),V.sl n5 (D [Ty.sl L] q),A Z,A Y] 88],none)
def aeX:oU->JJ
 |.L0 _=>(0,[])|.L2 _ RX=>(2,[Cx.i RX])|.L3 _ TD=>(3,[Cx.i TD])
def fw9:Bh (cq JJ):=aQ JJ Le u0 akw [V.agg [V.str s0,V.sl n1 (D L f1),V.sl n3 (D L f3),V.sl n5 (D [Ty.sl L] q),A Z,A Y]]
def tU (cx:List Cx):Lp JJ:=eX (eJ (fw9 s0 n1 f1 n3 f3 n5 q Z Y) [true,false,true,false,true,false,true])
def hx' (cx:List Cx):Lp JJ:=eX (eJ (oV Le u0 (0,[]) (tU s0 n1 f1 n3 f3 n5 q Z Y []) (Pi s0 n1 f1 n3 f3 n5 q Z Y (.L0 (dv cx 0)))) [true,true,false])
def hzl (cx:List Cx):Lp JJ:=eX (eJ (oV Le u0 (0,[]) (tU s0 n1 f1 n3 f3 n5 q Z Y []) (Pi s0 n1 f1 n3 f3 n5 q Z Y (.L0 (dv cx 0)))) J6)
def ae9:JJ->Lp JJ
 |(0,cx)=>tU s0 n1 f1 n3 f3 n5 q Z Y cx|(2,cx)=>hx' s0 n1 f1 n3 f3 n5 q Z Y cx|(3,cx)=>hzl s0 n1 f1 n3 f3 n5 q Z Y cx|(_,cx)=>tU s0 n1 f1 n3 f3 n5 q Z Y cx
def ap2:LD JJ oU:=⟨aeX,ae9 s0 n1 f1 n3 f3 n5 q Z Y,Pi s0 n1 f1 n3 f3 n5 q Z Y⟩
def r4 (s0:ByteArray) (n1:Nat) (f1:be) (n3:Nat) (f3:be) (n5:Nat) (q:be) (Z Y:Int):oU->RT oU
 |.L0 Pt=>.br (decide (Pt<(n5:Int))) (.ob (dI Pt n5) (.cb (.br (wX (aB (aA (q Pt.toNat))) n3) (.br (decide (0<=Pt)) (.ret (A 6)) (.am n5 (.enter DX (oU.L2 0 Pt) []))) (.next DX (oU.L0 (E (Pt+1))) [])))) (.brf (.am n5 (.enter DX (oU.L3 0 Pt) [])))|.L2 QX RX=>.br (decide (QX<(n5:Int))) (.ob (dI QX n5) (.cb (.br (jM (aB (aA (q QX.toNat))) λi=>al L (bL (aA (q QX.toNat)) i)) (.ii (.br (!decide (0<=QX)) (.ob (!decide (0<=QX)) (.ob (!decide (0<=QX)) (.ob (!decide (0<=QX)) (.cb (.br (jM 2 (D L (b5 [A Z,A Y] 0 1))) (.ret (A 7)) (.ret (A 0))))))) (.ret (A 7)))) (.next DX (oU.L2 (E (QX+1)) RX) [])))) (.obt (.obt (.brt (.obt (.obt (.obt (.cb (.br (jM 2 (D L (b5 [A Z,A Y] 0 1))) (.ret (A 7)) (.ret (A 0))))))))))|.L3 RA TD=>.br (decide (RA<(n5:Int))) (.ob (dI RA n5) (.cb (.br (jM (aB (aA (q RA.toNat))) λi=>al L (bL (aA (q RA.toNat)) i)) (.ii (.br (!decide (0<=RA)) (.ob (!decide (0<=RA)) (.ob (!decide (0<=RA)) (.ob (!decide (0<=RA)) (.cb (.br (jM 2 (D L (b5 [A Z,A Y] 0 1))) (.ret (A 7)) (.ret (A 0))))))) (.ret (A 7)))) (.next DX (oU.L3 (E (RA+1)) TD) [])))) (.obt (.obt (.brt (.obt (.obt (.obt (.cb (.br (jM 2 (D L (b5 [A Z,A Y] 0 1))) (.ret (A 7)) (.ret (A 0))))))))))
def TK:RT oU:=dm (s0,q,Z,Y) (.am n1 (.cb (.ii (.asm ((!!aw (n1:Int) 2 12)=true->n3<=9223372036854775807) (.br (!!aw (n1:Int) 2 12) (.ob (!!aw (n1:Int) 2 12) (.cb (.br (!aw (n3:Int) 2 12) (.ret (A 3)) (.cb (.obi (.br (!!ES n1 (D L f1) (-5000) 5000) (.ob (!!ES n1 (D L f1) (-5000) 5000) (.cb (.br (!ES n3 (D L f3) (-5000) 5000) (.ret (A 7)) (.cb (.obi (.br (!!Ds n1 (D L f1)) (.ob (!!Ds n1 (D L f1)) (.cb (.br (!Ds n3 (D L f3)) (.ret (A 2)) (.am n5 (.am n1 (.obi (.br (!(n5:Int)!=(n1:Int)) (.ob (!(n5:Int)!=(n1:Int)) (.ob (!(n5:Int)!=(n1:Int)) (.am n5 (.enter DX (oU.L0 0) [])))) (.ret (A 6))))))))) (.ret (A 2)))))))) (.ret (A 7)))))))) (.ret (A 3)))))))
theorem nf1:dZ Le u0 (ap2 s0 n1 f1 n3 f3 n5 q Z Y) (fw9 s0 n1 f1 n3 f3 n5 q Z Y) (TK s0 n1 f1 n3 f3 n5 q Z Y) (r4 s0 n1 f1 n3 f3 n5 q Z Y):=⟨bD,λs=>by cases s<;>exact bD⟩
def KR (i:Nat):Bool:=wX (aB (aA (q i))) n3
def PZ (i:Nat):Bool:=jM (aB (aA (q i))) λj=>al L (bL (aA (q i)) j)
def XO:Bool:=jM 2 (D L (b5 [A Z,A Y] 0 1))
def sP:Int:=bif gS n5 (PZ q) then 7 else bif XO Z Y then 7 else 0
def pi (n1:Nat) (f1:be) (n3:Nat) (f3:be) (n5:Nat) (q:be) (Z Y:Int):Int :=
 bif !(aw (n1:Int) 2 12&&aw (n3:Int) 2 12) then 3 else bif !(ES n1 f1 (-5000) 5000&&ES n3 f3 (-5000) 5000) then 7 else bif !(Ds n1 f1&&Ds n3 f3) then 2 else bif(n5:Int)!=(n1:Int) then 6 else bif gS n5 (KR n3 q) then 6 else sP n5 q Z Y
theorem Oc {Q1:Type} {Nx:Q1->V->Prop} {c d:Bool} {v r:V} {X:RT Q1} (M:(c&&d)=false->dq v=dq r) (N:(c&&d)=true->aT Nx X r):aT Nx (.br (!!c) (.ob (!!c) (.obc (.obt (.br (!d) (.ret v) X)))) (.ret v)) r:=by
 cases c<;>cases d
 ·exact C2 (λh=>by cases h) (λ_=>B5 (M rfl))
 ·exact C2 (λh=>by cases h) (λ_=>B5 (M rfl))
 ·exact C2 (λh=>aF h (ao (ac (C2 (λ_=>B5 (M rfl)) (λk=>by cases k))))) (λk=>by cases k)
 ·exact C2 (λh=>aF h (ao (ac (C2 (λk=>by cases k) (λ_=>N rfl))))) (λk=>by cases k)
theorem x10 (hn:n5<=9223372036854775807) (t:Int):Ev (r4 s0 n1 f1 n3 f3 n5 q Z Y) (.L3 0 t) (A (sP n5 q Z Y)):=by
 refine ku hn (PZ q) (P:=λx=>Ev (r4 s0 n1 f1 n3 f3 n5 q Z Y) (.L3 x t) (A (sP n5 q Z Y))) (λi Q7 hj next=>Ev.of rfl (dt Q7 (cX Q7 (ao (ac (C2 (λhb=>B1 (B1 (cW (by rw[BX (Kt i)];rfl) (B5 ?_)))) (λhb=>aL (next hb)))))))) (λhj=>Ev.of rfl (dl (ac (ac (ed (ac (ac (ac (ao (ac (C2 (λhb=>B5 ?_) (λhb=>B5 ?_))))))))))))
 ·unfold sP;rw[cV i Q7 hb];rfl
 ·unfold sP;rw[c8 hj,show XO Z Y=true from hb];rfl
 ·unfold sP;rw[c8 hj,show XO Z Y=false from hb];rfl
theorem ie7 (hn:n5<=9223372036854775807):Ev (r4 s0 n1 f1 n3 f3 n5 q Z Y) (.L0 0) (A (bif gS n5 (KR n3 q) then 6 else sP n5 q Z Y)):=by
 refine ku hn (KR n3 q) (P:=λx=>Ev (r4 s0 n1 f1 n3 f3 n5 q Z Y) (.L0 x) (A (bif gS n5 (KR n3 q) then 6 else sP n5 q Z Y))) (λi Q7 hj next=>Ev.of rfl (dt Q7 (cX Q7 (ao (ac (C2 (λhb=>cP (BX (Kt i)) (B5 ?_)) (λhb=>aL (next hb)))))))) (λhj=>Ev.of rfl (dl (gW (D3 λ_=>aH ?_))))
 ·rw[cV i Q7 hb];rfl
 ·rw[c8 hj];exact x10 s0 n1 f1 n3 f3 n5 q Z Y hn _
theorem hsr:aT (Ev (r4 s0 n1 f1 n3 f3 n5 q Z Y)) (TK s0 n1 f1 n3 f3 n5 q Z Y) (A (pi n1 f1 n3 f3 n5 q Z Y)):=by
 unfold pi;refine D3 λ_=>ao (ac (B1 (B1 (D3 λ_=>Oc (λh=>by rw[h];rfl) (λh=>?_)))));rw[h];refine ao (ac (B1 (Oc (λh=>by rw[show(ES n1 f1 (-5000) 5000&&ES n3 f3 (-5000) 5000)=false from h];rfl) (λh=>?_))));rw[show(ES n1 f1 (-5000) 5000&&ES n3 f3 (-5000) 5000)=true from h];refine ao (ac (B1 (Oc (λh=>by rw[show(Ds n1 f1&&Ds n3 f3)=false from h];rfl) (λh=>?_))));rw[show(Ds n1 f1&&Ds n3 f3)=true from h];refine D3 λ_=>D3 λ_=>B1 (C2 (λh=>aF h (aF h (bC λhn=>aH ?_))) (λh=>B5 ?_))
 ·rw[LS h];exact ie7 s0 n1 f1 n3 f3 n5 q Z Y hn
 ·rw[wa h];rfl
theorem aey:aT (Ev (r4 s0 n1 f1 n3 f3 n5 q Z Y)) (TK s0 n1 f1 n3 f3 n5 q Z Y) (A (pi n1 (D L f1) n3 (D L f3) n5 (D [.sl L] q) Z Y)):=hsr s0 n1 f1 n3 f3 n5 q Z Y
def abu:aE:=bP [.agg ap] (λ_=>True) λ|[.agg [.str s0,.sl n1 f1,.sl n3 f3,.sl n5 q,.int _ Z,.int _ Y]]=>A (pi n1 f1 n3 f3 n5 q Z Y)|_=>.any
theorem ahw:b9 abu 78:=aU acm λ_ hp=>kr (nf1 ..) (aey _ _ _ _ _ _ _ _ _)
def NP:bm:=(78,.con abu)::Le
theorem aee:aZ Tryz.prog Bs C3 NP:=.con ahw (acm)
def aao:RT Empty:=dm (s0,Tw,ZK,Tx) (.cb (.obi (.br (aw U 1 1000000) (.ob (aw U 1 1000000) (.cb (.ii (.br (aw Q 1 5000000) (.ob (aw Q 1 5000000) (.ob (aw Q 1 5000000) (.cb (.obi (.br (aw x5 0 Q) (.ob (aw x5 0 Q) (.cb (.obi (.br (aw x6 0 1000) (.ob (aw x6 0 1000) (.cb (.obi (.br (gg Z Y 0 1000) (.ob (gg Z Y 0 1000) (.cb (.obi (.br (gg x9 Ps 0 1000) (.ob (gg x9 Ps 0 1000) (.cb (.obi (.br (aw Pr 1 200000) (.ob (aw Pr 1 200000) (.cb (.obi (.br (aw Px 0 1000) (.ob (aw Px 0 1000) (.cb (.am RG (.cb (.br (!aw R 0 (E ((RG:Int)-1))) (.ret (A 4)) (.cb (.br (!aw W 1 3) (.ret (A 2)) (.br (!aw Q8 0 3600) (.ret (A 7)) (.ii (.obi (.br (bif W==1 then decide (0<Q8) else false) (.ret (A 2)) (.ret (A 0))))))))))))) (.am RG (.cb (.br (!aw R 0 (E ((RG:Int)-1))) (.ret (A 4)) (.cb (.br (!aw W 1 3) (.ret (A 2)) (.ret (A 7))))))))))) (.am RG (.cb (.br (!aw R 0 (E ((RG:Int)-1))) (.ret (A 4)) (.cb (.br (!aw W 1 3) (.ret (A 2)) (.ret (A 7))))))))))) (.am RG (.cb (.br (!aw R 0 (E ((RG:Int)-1))) (.ret (A 4)) (.cb (.br (!aw W 1 3) (.ret (A 2)) (.ret (A 7))))))))))) (.am RG (.cb (.br (!aw R 0 (E ((RG:Int)-1))) (.ret (A 4)) (.cb (.br (!aw W 1 3) (.ret (A 2)) (.ret (A 7))))))))))) (.am RG (.cb (.br (!aw R 0 (E ((RG:Int)-1))) (.ret (A 4)) (.cb (.br (!aw W 1 3) (.ret (A 2)) (.ret (A 7))))))))))) (.am RG (.cb (.br (!aw R 0 (E ((RG:Int)-1))) (.ret (A 4)) (.cb (.br (!aw W 1 3) (.ret (A 2)) (.ret (A 7)))))))))))) (.am RG (.cb (.br (!aw R 0 (E ((RG:Int)-1))) (.ret (A 4)) (.cb (.br (!aw W 1 3) (.ret (A 2)) (.ret (A 7))))))))))) (.am RG (.cb (.br (!aw R 0 (E ((RG:Int)-1))) (.ret (A 4)) (.cb (.br (!aw W 1 3) (.ret (A 2)) (.ret (A 7))))))))))
theorem if1:cY cZ (aQ JJ NP u0 aib [V.agg [V.str s0,A R,A W,A U,A Q,A x5,A x6,A Z,A Y,A x9,A Ps,A Pr,A Px,A Q8],V.pd [V.sl RG (D ap Tw),V.sl ZK (D B4 Tx)]]) (aao s0 R W U Q x5 x6 Z Y x9 Ps Pr Px Q8 RG Tw ZK Tx):=bD
def iza11:Int:=bif aw U 1 1000000 then bif aw Q 1 5000000 then bif aw x5 0 Q then bif aw x6 0 1000 then bif gg Z Y 0 1000 then bif gg x9 Ps 0 1000 then bif aw Pr 1 200000 then bif aw Px 0 1000 then bif !aw R 0 (E ((RG:Int)-1)) then 4 else bif !aw W 1 3 then 2 else bif !aw Q8 0 3600 then 7 else bif bif W==1 then decide (0<Q8) else false then 2 else 0 else bif !aw R 0 (E ((RG:Int)-1)) then 4 else bif !aw W 1 3 then 2 else 7 else bif !aw R 0 (E ((RG:Int)-1)) then 4 else bif !aw W 1 3 then 2 else 7 else bif !aw R 0 (E ((RG:Int)-1)) then 4 else bif !aw W 1 3 then 2 else 7 else bif !aw R 0 (E ((RG:Int)-1)) then 4 else bif !aw W 1 3 then 2 else 7 else bif !aw R 0 (E ((RG:Int)-1)) then 4 else bif !aw W 1 3 then 2 else 7 else bif !aw R 0 (E ((RG:Int)-1)) then 4 else bif !aw W 1 3 then 2 else 7 else bif !aw R 0 (E ((RG:Int)-1)) then 4 else bif !aw W 1 3 then 2 else 7 else bif !aw R 0 (E ((RG:Int)-1)) then 4 else bif !aw W 1 3 then 2 else 7
def LQ (a k num Pw:Bool):Int:=bif !a then 4 else bif !k then 2 else bif !num then 7 else bif Pw then 2 else 0
def UI:Bool:=bif W==1 then decide (0<Q8) else false
def evAsm:Bool:=aw U 1 1000000&&(aw Q 1 5000000&&(aw x5 0 Q&&(aw x6 0 1000&&(gg Z Y 0 1000&&(gg x9 Ps 0 1000&&(aw Pr 1 200000&&(aw Px 0 1000&&(aw Q8 0 3600))))))))
def sE (R W U Q x5 x6 Z Y x9 Ps Pr Px Q8:Int) (RG:Nat):Int:=LQ (aw R 0 (E ((RG:Int)-1))) (aw W 1 3) (aw U 1 1000000&&(aw Q 1 5000000&&(aw x5 0 Q&&(aw x6 0 1000&&(gg Z Y 0 1000&&(gg x9 Ps 0 1000&&(aw Pr 1 200000&&(aw Px 0 1000&&(aw Q8 0 3600))))))))) (UI W Q8)
section
variable {Q1:Type} {Nx:Q1->V->Prop} {r:V} {X QY:RT Q1} {c:Bool}
section
variable (M:c=false->aT Nx QY r) (N:c=true->aT Nx X r)
include M N
theorem sg:aT Nx (.br c (.ob c X) QY) r:=C2 (λh=>aF h (N h)) M
theorem ag7:aT Nx (.br c (.ob c (.ob c X)) QY) r:=C2 (λh=>aF h (aF h (N h))) M
end
theorem D4 {a k Pw:Bool} {p:Prop}:aT Nx (.asm p (.obc (.obt (.br (!a) (.ret (A 4)) (.obc (.obt (.br (!k) (.ret (A 2)) (.ret (A 7)))))))) ) (A (LQ a k false Pw)) :=
 D3 λ_=>ao (ac (C2 (λh=>B5 (by rw[LS h];rfl)) λh=>ao (ac (C2 (λN=>B5 (by rw[wa h,LS N];rfl)) λN=>B5 (by rw[wa h,wa N];rfl)))))
end
theorem al7:aT cM (aao s0 R W U Q x5 x6 Z Y x9 Ps Pr Px Q8 RG Tw ZK Tx) (A (sE R W U Q x5 x6 Z Y x9 Ps Pr Px Q8 RG)):=by
 unfold sE;refine ao (ac ?_)
 repeat refine B1 ?_
 refine sg (λh=>by rw[h];exact D4) (λh=>?_);rw[h];refine ao (ac ?_)
 repeat refine B1 ?_
 refine ag7 (λh=>by rw[h];exact D4) (λh=>?_);rw[h];refine ao (ac ?_)
 repeat refine B1 ?_
 refine sg (λh=>by rw[h];exact D4) (λh=>?_);rw[h];refine ao (ac ?_)
 repeat refine B1 ?_
 refine sg (λh=>by rw[h];exact D4) (λh=>?_);rw[h];refine ao (ac ?_)
 repeat refine B1 ?_
 refine sg (λh=>by rw[h];exact D4) (λh=>?_);rw[h];refine ao (ac ?_)
 repeat refine B1 ?_
 refine sg (λh=>by rw[h];exact D4) (λh=>?_);rw[h];refine ao (ac ?_)
 repeat refine B1 ?_
 refine sg (λh=>by rw[h];exact D4) (λh=>?_);rw[h];refine ao (ac ?_)
 repeat refine B1 ?_
 refine sg (λh=>by rw[h];exact D4) (λh=>?_);rw[h];refine ao (ac ?_);exact D3 λ_=>ao (ac (C2 (λh=>B5 (by rw[LS h];rfl)) λh=>ao (ac (C2 (λN=>B5 (by rw[wa h,LS N];rfl)) λN=>C2 (λh3=>B5 (by rw[wa h,wa N,LS h3];rfl)) λh3=>B1 (B1 (B1 (C2 (λh4=>B5 (by rw[wa h,wa N,wa h3,show UI W Q8=true from h4];rfl)) λh4=>B5 (by rw[wa h,wa N,wa h3,show UI W Q8=false from h4];rfl))))))))
def ac4:aE:=bP [.agg B4,.pd [.sl ap,.sl B4]] (λ_=>True) λ|[.agg [.str s0,.int _ R,.int _ W,.int _ U,.int _ Q,.int _ x5,.int _ x6,.int _ Z,.int _ Y,.int _ x9,.int _ Ps,.int _ Pr,.int _ Px,.int _ Q8],.pd [.sl RG Tw,.sl ZK Tx]]=>A (sE R W U Q x5 x6 Z Y x9 Ps Pr Px Q8 RG)|_=>.any
theorem aeH:b9 ac4 81:=aU aee λ_ hp=>da (if1 ..) (al7 _ _ _ _ _ _ _ _ _ _ _ _ _ _ _ _ _ _)
def D9:bm:=(137,.inl ako u0)::(186,.inl afH u0)::(138,.inl alv u0)::(130,.inl alG u0)::(184,.inl aiH u0)::(132,.inl als u0)::(81,.con ac4)::NP
theorem Pl:aZ Tryz.prog Bs C3 D9:=iq Tryz.func137 bw (iq Tryz.func186 bw (iq Tryz.func138 bw (iq Tryz.func130 bw (iq Tryz.func184 bw (iq Tryz.func132 bw (.con aeH (aee)))))))
inductive pL where|L0 (_:Int)|L2 (_ _:Int) (_:Nat) (_:ByteArray) (_:Nat) (_:be) (_:Nat) (_:be) (_:Nat) (_:be) (_ _ _:Int)
def akW:pL->bS×List Ax×Option Ex
 |.L0 Pt=>([(14,A Pt),(13,A (H:Int)),(12,V.sl H (D ap G)),(4,V.pl 0 0),(0,V.sl H (D ap G)),(2,V.fn 78 [] [])],[Ax.cells [V.fn 77 [] []] 123],none)|.L2 QX RX Vw Vx yQ gv yV h1 yh h2 Wr Wt _=>([(8,A QX),(7,A RX),(0,V.sl Vw λi=>D ap G (0+i)),(1,V.fn 130 [] [V.pl 0 0,V.pl 1 0])],[Ax.cells [V.fn 77 [] []] 123,Ax.cells [V.str Vx,V.sl yQ (D L gv),V.sl yV (D L h1),V.sl yh (D [Ty.sl L] h2),A Wr,A Wt] 88],none)
def afw:pL->JJ
 |.L0 _=>(0,[])|.L2 _ _ _ _ _ _ _ _ _ _ _ _ RO=>(2,[Cx.i RO])
def fc1:Bh (cq JJ):=aQ JJ D9 u0 akO [V.sl H (D ap G),V.fn 77 [] [],V.fn 78 [] []]
def xd (cx:List Cx):Lp JJ:=eX (eJ (fc1 H G) [])
def hsl (cx:List Cx):Lp JJ:=eX (eJ (oV D9 u0 (0,[]) (xd H G []) (akW H G (.L0 (dv cx 0)))) [true,false])
def ahZ:JJ->Lp JJ
 |(0,cx)=>xd H G cx|(2,cx)=>hsl H G cx|(_,cx)=>xd H G cx
def asO:LD JJ pL:=⟨afw,ahZ H G,akW H G⟩
def r6:pL->RT pL
 |.L0 Pt=>.br (decide (Pt<(H:Int))) (.ob (dI Pt H) (.cb (.cb (.obp ((sv (aA (G Pt.toNat))).size<=(9223372036854775807:Nat)) (.obt (.br (!kD (sv (aA (G Pt.toNat)))) (.brt (.ret (V.tup [A Pt,A 6]))) (.ob (decide (0<=Pt/\Pt<=(H:Int))) (.asm (true=true->Pt.toNat-0<=9223372036854775807) (.enter Dv (pL.L2 0 ((↑(Pt.toNat-0):Int)) (Pt.toNat-0) (sv (aA (G Pt.toNat))) (aB (aA (I (G Pt.toNat)))) (λi=>al L (bL (aA (I (G Pt.toNat))) i)) (aB (aA (I (I (G Pt.toNat))))) (λi=>al L (bL (aA (I (I (G Pt.toNat)))) i)) (aB (aA (I (I (I (G Pt.toNat)))))) (λi=>al [Ty.sl L] (bL (aA (I (I (I (G Pt.toNat))))) i)) (cu (G Pt.toNat)) (bE (G Pt.toNat)) Pt) []))))))))) (.ret (V.tup Dj))|.L2 QX RX Vw Vx yQ gv yV h1 yh h2 Wr Wt RO=>.br (decide (QX<RX)) (.ob (dI QX Vw) (.cb (.cb (.br ((sv (aA (G (0+QX.toNat)))).toList==Vx.toList) (.br (decide (0<=QX)) (.brt (.ret (V.tup [A RO,A 5]))) (.br (pi (aB (aA (I (G RO.toNat)))) (λi=>al L (bL (aA (I (G RO.toNat))) i)) (aB (aA (I (I (G RO.toNat))))) (λi=>al L (bL (aA (I (I (G RO.toNat)))) i)) (aB (aA (I (I (I (G RO.toNat)))))) (λi=>al [Ty.sl L] (bL (aA (I (I (I (G RO.toNat))))) i)) (cu (G RO.toNat)) (bE (G RO.toNat))!=0) (.ret (V.tup [A RO,A (pi (aB (aA (I (G RO.toNat)))) (λi=>al L (bL (aA (I (G RO.toNat))) i)) (aB (aA (I (I (G RO.toNat))))) (λi=>al L (bL (aA (I (I (G RO.toNat)))) i)) (aB (aA (I (I (I (G RO.toNat)))))) (λi=>al [Ty.sl L] (bL (aA (I (I (I (G RO.toNat))))) i)) (cu (G RO.toNat)) (bE (G RO.toNat)))])) (.next DX (pL.L0 (E (RO+1))) []))) (.next Dv (pL.L2 (E (QX+1)) RX Vw (Vx) yQ gv yV h1 yh h2 Wr Wt RO) []))))) (.brf (.br (pi (aB (aA (I (G RO.toNat)))) (λi=>al L (bL (aA (I (G RO.toNat))) i)) (aB (aA (I (I (G RO.toNat))))) (λi=>al L (bL (aA (I (I (G RO.toNat)))) i)) (aB (aA (I (I (I (G RO.toNat)))))) (λi=>al [Ty.sl L] (bL (aA (I (I (I (G RO.toNat))))) i)) (cu (G RO.toNat)) (bE (G RO.toNat))!=0) (.ret (V.tup [A RO,A (pi (aB (aA (I (G RO.toNat)))) (λi=>al L (bL (aA (I (G RO.toNat))) i)) (aB (aA (I (I (G RO.toNat))))) (λi=>al L (bL (aA (I (I (G RO.toNat)))) i)) (aB (aA (I (I (I (G RO.toNat)))))) (λi=>al [Ty.sl L] (bL (aA (I (I (I (G RO.toNat))))) i)) (cu (G RO.toNat)) (bE (G RO.toNat)))])) (.next DX (pL.L0 (E (RO+1))) [])))
def Oj:RT pL:=dm G (.am H (.enter DX (pL.L0 0) []))
theorem x29:dZ D9 u0 (asO H G) (fc1 H G) (Oj H G) (r6 H G):=⟨bD,λs=>by cases s<;>exact bD⟩
def Lz (a:Nat):Int:=pi (aB (aA (I (G a)))) (λi=>al L (bL (aA (I (G a))) i)) (aB (aA (I (I (G a))))) (λi=>al L (bL (aA (I (I (G a)))) i)) (aB (aA (I (I (I (G a)))))) (λi=>al [Ty.sl L] (bL (aA (I (I (I (G a))))) i)) (cu (G a)) (bE (G a))
def Co (i j:Nat):Bool:=(sv (aA (G (0+j)))).toList==(sv (aA (G i))).toList
def kL (i:Nat):Int:=bif !kD (sv (aA (G i))) then 6 else bif gS i (Co G i) then 5 else Lz G i
def gj:Int:=gp H (kL G)
def eV:Int:=d8 H (kL G)
theorem an5 (hn:H<=9223372036854775807) (a:Nat) (hi:a<H) (hj:∀ j,j<a->(kL G j != 0)=false) (M:kD (sv (aA (G a)))=true) (hx:(kL G a != 0)=false->Ev (r6 H G) (.L0 (E ((a:Int)+1))) (.tup [A (gj H G),A (eV H G)])):Ev (r6 H G) (.L2 0 ((↑(a-0):Int)) (a-0) (sv (aA (G a))) (aB (aA (I (G a)))) (λi=>al L (bL (aA (I (G a))) i)) (aB (aA (I (I (G a))))) (λi=>al L (bL (aA (I (I (G a)))) i)) (aB (aA (I (I (I (G a)))))) (λi=>al [Ty.sl L] (bL (aA (I (I (I (G a))))) i)) (cu (G a)) (bE (G a)) ((a:Int))) (.tup [A (gj H G),A (eV H G)]):=by
 refine ku (n:=a) K (Co G a) (P:=λx=>Ev (r6 H G) (.L2 x ((↑(a-0):Int)) (a-0) (sv (aA (G a))) (aB (aA (I (G a)))) (λi=>al L (bL (aA (I (G a))) i)) (aB (aA (I (I (G a))))) (λi=>al L (bL (aA (I (I (G a)))) i)) (aB (aA (I (I (I (G a)))))) (λi=>al [Ty.sl L] (bL (aA (I (I (I (G a))))) i)) (cu (G a)) (bE (G a)) ((a:Int))) (.tup [A (gj H G),A (eV H G)])) (λj Q7 hq next=>Ev.of rfl (dt Q7 (cX Q7 (ao (ac (ao (ac (C2 (λhb=>cP (BX (Kt j)) (ed (B5 ?_))) (λhb=>aL (next hb)))))))))) (λhq=>Ev.of rfl (dl (gW (C2 (λhb=>B5 ?_) (λhb=>aL (hx ?_))))))
 ·have hc:kL G a=5:=by unfold kL;rw[M,cV j Q7 hb];rfl
  unfold gj eV;rw[(du hi (by rw[hc];rfl) hj).1,(du hi (by rw[hc];rfl) hj).2,hc]
 ·have hc:kL G a=Lz G a:=by unfold kL;rw[M,c8 hq];rfl
  unfold gj eV;rw[(du hi (by rw[hc];exact hb) hj).1,(du hi (by rw[hc];exact hb) hj).2,hc];rfl
 ·have hc:kL G a=Lz G a:=by unfold kL;rw[M,c8 hq];rfl
  rw[hc];exact hb
theorem i22 (hp:aD H G):aT (Ev (r6 H G)) (Oj H G) (.tup [A (gj H G),A (eV H G)]):=by
 refine bC λhn=>aH (ku hn (λi=>kL G i !=0) (P:=λx=>Ev (r6 H G) (.L0 x) (.tup [A (gj H G),A (eV H G)])) (λi Q7 hj next=>Ev.of rfl (dt Q7 (cX Q7 (ao (ac (ao (ac (aI (hp i Q7) (ac (C2 (λhb=>ed (B5 ?_)) (λhb=>aF (BX K) (D3 λ_=>aH (an5 H G hn i Q7 hj (wa hb) next))))))))))))) (λhj=>Ev.of rfl (dl (B5 ?_))))
 ·have hc:kL G i=6:=by unfold kL;rw[show(!kD (sv (aA (G i))))=true from hb];rfl
  unfold gj eV;rw[(du Q7 (by rw[hc];rfl) hj).1,(du Q7 (by rw[hc];rfl) hj).2,hc]
 ·unfold gj eV;rw[(iz hj).1,(iz hj).2]
theorem agW (hp:aD H (D ap G)):aT (Ev (r6 H G)) (Oj H G) (.tup [A (gj H (D ap G)),A (eV H (D ap G))]):=i22 H G hp
def aas:aE:=bP [.sl ap,.fn 77 [] [],.fn 78 [] []] (λ
 |[.sl H G,.fn _ [] [],.fn _ [] []]=>aD H G|_=>False) λ
 |[.sl H G,.fn _ [] [],.fn _ [] []]=>.tup [A (gj H G),A (eV H G)]|_=>.any
theorem ajS:b9 aas 76:=aU Pl λ_ hp=>kr (x29 ..) (agW _ _ hp)
inductive pG where|L0 (_:Int)|L2 (_ _:Int) (_:Nat) (_:ByteArray) (_ _ _ _ _ _ _ _ _ _ _ _ _ _:Int)
def atT:pG->bS×List Ax×Option Ex
 |.L0 Pt=>([(14,A Pt),(13,A (H:Int)),(12,V.sl H (D B4 G)),(4,V.pl 0 0),(0,V.sl H (D B4 G)),(2,V.fn 81 [] [V.pd [V.sl T (D ap O),V.sl n4 (D B4 f4)]])],[Ax.cells [V.fn 80 [] []] 126],none)|.L2 QX RX Vw Vx vH vJ vK vM vO vR Wr Wt RO uM vC vF vG _=>([(8,A QX),(7,A RX),(0,V.sl Vw λi=>D B4 G (0+i)),(1,V.fn 137 [] [V.pl 0 0,V.pl 1 0])],[Ax.cells [V.fn 80 [] []] 126,Ax.cells [V.str Vx,A vH,A vJ,A vK,A vM,A vO,A vR,A Wr,A Wt,A RO,A uM,A vC,A vF,A vG] 104],none)
def amj:pG->JJ
 |.L0 _=>(0,[])|.L2 _ _ _ _ _ _ _ _ _ _ _ _ _ _ _ _ _ R4=>(2,[Cx.i R4])
def ha2:Bh (cq JJ):=aQ JJ D9 u0 akk [V.sl H (D B4 G),V.fn 80 [] [],V.fn 81 [] [V.pd [V.sl T (D ap O),V.sl n4 (D B4 f4)]]]
def yv (cx:List Cx):Lp JJ:=eX (eJ (ha2 H G T O n4 f4) [])
def hwf (cx:List Cx):Lp JJ:=eX (eJ (oV D9 u0 (0,[]) (yv H G T O n4 f4 []) (atT H G T O n4 f4 (.L0 (dv cx 0)))) [true,false])
def aeR:JJ->Lp JJ
 |(0,cx)=>yv H G T O n4 f4 cx|(2,cx)=>hwf H G T O n4 f4 cx|(_,cx)=>yv H G T O n4 f4 cx
def aoW:LD JJ pG:=⟨amj,aeR H G T O n4 f4,atT H G T O n4 f4⟩
def rU (H:Nat) (G:be) (T:Nat) (O:be) (n4:Nat) (f4:be):pG->RT pG
 |.L0 Pt=>.br (decide (Pt<(H:Int))) (.ob (dI Pt H) (.cb (.cb (.obp ((sv (aA (G Pt.toNat))).size<=(9223372036854775807:Nat)) (.obt (.br (!kD (sv (aA (G Pt.toNat)))) (.brt (.ret (V.tup [A Pt,A 6]))) (.ob (decide (0<=Pt/\Pt<=(H:Int))) (.asm (true=true->Pt.toNat-0<=9223372036854775807) (.enter Dv (pG.L2 0 ((↑(Pt.toNat-0):Int)) (Pt.toNat-0) (sv (aA (G Pt.toNat))) (aP (G Pt.toNat)) (bV (G Pt.toNat)) (bf (G Pt.toNat)) (cu (G Pt.toNat)) (bE (G Pt.toNat)) (bE (I (G Pt.toNat))) (bE (I (I (G Pt.toNat)))) (bE (I (I (I (G Pt.toNat))))) (bE (I (I (I (I (G Pt.toNat)))))) (bE (I (I (I (I (I (G Pt.toNat))))))) (bE (I (I (I (I (I (I (G Pt.toNat)))))))) (bE (I (I (I (I (I (I (I (G Pt.toNat))))))))) (bE (I (I (I (I (I (I (I (I (G Pt.toNat)))))))))) Pt) []))))))))) (.ret (V.tup Dj))|.L2 QX RX Vw Vx vH vJ vK vM vO vR Wr Wt RO uM vC vF vG R4=>.br (decide (QX<RX)) (.ob (dI QX Vw) (.cb (.cb (.br ((sv (aA (G (0+QX.toNat)))).toList==Vx.toList) (.br (decide (0<=QX)) (.brt (.ret (V.tup [A R4,A 5]))) (.br (sE (aP (G R4.toNat)) (bV (G R4.toNat)) (bf (G R4.toNat)) (cu (G R4.toNat)) (bE (G R4.toNat)) (bE (I (G R4.toNat))) (bE (I (I (G R4.toNat)))) (bE (I (I (I (G R4.toNat))))) (bE (I (I (I (I (G R4.toNat)))))) (bE (I (I (I (I (I (G R4.toNat))))))) (bE (I (I (I (I (I (I (G R4.toNat)))))))) (bE (I (I (I (I (I (I (I (G R4.toNat))))))))) (bE (I (I (I (I (I (I (I (I (G R4.toNat)))))))))) T !=0) (.ret (V.tup [A R4,A (sE (aP (G R4.toNat)) (bV (G R4.toNat)) (bf (G R4.toNat)) (cu (G R4.toNat)) (bE (G R4.toNat)) (bE (I (G R4.toNat))) (bE (I (I (G R4.toNat)))) (bE (I (I (I (G R4.toNat))))) (bE (I (I (I (I (G R4.toNat)))))) (bE (I (I (I (I (I (G R4.toNat))))))) (bE (I (I (I (I (I (I (G R4.toNat)))))))) (bE (I (I (I (I (I (I (I (G R4.toNat))))))))) (bE (I (I (I (I (I (I (I (I (G R4.toNat)))))))))) T)])) (.next DX (pG.L0 (E (R4+1))) []))) (.next Dv (pG.L2 (E (QX+1)) RX Vw (Vx) vH vJ vK vM vO vR Wr Wt RO uM vC vF vG R4) []))))) (.brf (.br (sE (aP (G R4.toNat)) (bV (G R4.toNat)) (bf (G R4.toNat)) (cu (G R4.toNat)) (bE (G R4.toNat)) (bE (I (G R4.toNat))) (bE (I (I (G R4.toNat)))) (bE (I (I (I (G R4.toNat))))) (bE (I (I (I (I (G R4.toNat)))))) (bE (I (I (I (I (I (G R4.toNat))))))) (bE (I (I (I (I (I (I (G R4.toNat)))))))) (bE (I (I (I (I (I (I (I (G R4.toNat))))))))) (bE (I (I (I (I (I (I (I (I (G R4.toNat)))))))))) T !=0) (.ret (V.tup [A R4,A (sE (aP (G R4.toNat)) (bV (G R4.toNat)) (bf (G R4.toNat)) (cu (G R4.toNat)) (bE (G R4.toNat)) (bE (I (G R4.toNat))) (bE (I (I (G R4.toNat)))) (bE (I (I (I (G R4.toNat))))) (bE (I (I (I (I (G R4.toNat)))))) (bE (I (I (I (I (I (G R4.toNat))))))) (bE (I (I (I (I (I (I (G R4.toNat)))))))) (bE (I (I (I (I (I (I (I (G R4.toNat))))))))) (bE (I (I (I (I (I (I (I (I (G R4.toNat)))))))))) T)])) (.next DX (pG.L0 (E (R4+1))) [])))
def Qi:RT pG:=dm (G,T,O,n4,f4) (.am H (.enter DX (pG.L0 0) []))
theorem nf4:dZ D9 u0 (aoW H G T O n4 f4) (ha2 H G T O n4 f4) (Qi H G T O n4 f4) (rU H G T O n4 f4):=⟨bD,λs=>by cases s<;>exact bD⟩
def Cg (T a:Nat):Int:=sE (aP (G a)) (bV (G a)) (bf (G a)) (cu (G a)) (bE (G a)) (bE (I (G a))) (bE (I (I (G a)))) (bE (I (I (I (G a))))) (bE (I (I (I (I (G a)))))) (bE (I (I (I (I (I (G a))))))) (bE (I (I (I (I (I (I (G a)))))))) (bE (I (I (I (I (I (I (I (G a))))))))) (bE (I (I (I (I (I (I (I (I (G a)))))))))) T
def BJ (i j:Nat):Bool:=(sv (aA (G (0+j)))).toList==(sv (aA (G i))).toList
def kH (T i:Nat):Int:=bif !kD (sv (aA (G i))) then 6 else bif gS i (BJ G i) then 5 else Cg G T i
def ge:Int:=gp H (kH G T)
def eO:Int:=d8 H (kH G T)
theorem arh (hn:H<=9223372036854775807) (a:Nat) (hi:a<H) (hj:∀ j,j<a->(kH G T j != 0)=false) (M:kD (sv (aA (G a)))=true) (hx:(kH G T a != 0)=false->Ev (rU H G T O n4 f4) (.L0 (E ((a:Int)+1))) (.tup [A (ge H G T),A (eO H G T)])):Ev (rU H G T O n4 f4) (.L2 0 ((↑(a-0):Int)) (a-0) (sv (aA (G a))) (aP (G a)) (bV (G a)) (bf (G a)) (cu (G a)) (bE (G a)) (bE (I (G a))) (bE (I (I (G a)))) (bE (I (I (I (G a))))) (bE (I (I (I (I (G a)))))) (bE (I (I (I (I (I (G a))))))) (bE (I (I (I (I (I (I (G a)))))))) (bE (I (I (I (I (I (I (I (G a))))))))) (bE (I (I (I (I (I (I (I (I (G a)))))))))) ((a:Int))) (.tup [A (ge H G T),A (eO H G T)]):=by
 refine ku (n:=a) K (BJ G a) (P:=λx=>Ev (rU H G T O n4 f4) (.L2 x ((↑(a-0):Int)) (a-0) (sv (aA (G a))) (aP (G a)) (bV (G a)) (bf (G a)) (cu (G a)) (bE (G a)) (bE (I (G a))) (bE (I (I (G a)))) (bE (I (I (I (G a))))) (bE (I (I (I (I (G a)))))) (bE (I (I (I (I (I (G a))))))) (bE (I (I (I (I (I (I (G a)))))))) (bE (I (I (I (I (I (I (I (G a))))))))) (bE (I (I (I (I (I (I (I (I (G a)))))))))) ((a:Int))) (.tup [A (ge H G T),A (eO H G T)])) (λj Q7 hq next=>Ev.of rfl (dt Q7 (cX Q7 (ao (ac (ao (ac (C2 (λhb=>cP (BX (Kt j)) (ed (B5 ?_))) (λhb=>aL (next hb)))))))))) (λhq=>Ev.of rfl (dl (gW (C2 (λhb=>B5 ?_) (λhb=>aL (hx ?_))))))
 ·have hc:kH G T a=5:=by unfold kH;rw[M,cV j Q7 hb];rfl
  unfold ge eO;rw[(du hi (by rw[hc];rfl) hj).1,(du hi (by rw[hc];rfl) hj).2,hc]
 ·have hc:kH G T a=Cg G T a:=by unfold kH;rw[M,c8 hq];rfl
  unfold ge eO;rw[(du hi (by rw[hc];exact hb) hj).1,(du hi (by rw[hc];exact hb) hj).2,hc];rfl
 ·have hc:kH G T a=Cg G T a:=by unfold kH;rw[M,c8 hq];rfl
  rw[hc];exact hb
theorem hxy (hp:aD H G):aT (Ev (rU H G T O n4 f4)) (Qi H G T O n4 f4) (.tup [A (ge H G T),A (eO H G T)]):=by
 refine bC λhn=>aH (ku hn (λi=>kH G T i !=0) (P:=λx=>Ev (rU H G T O n4 f4) (.L0 x) (.tup [A (ge H G T),A (eO H G T)])) (λi Q7 hj next=>Ev.of rfl (dt Q7 (cX Q7 (ao (ac (ao (ac (aI (hp i Q7) (ac (C2 (λhb=>ed (B5 ?_)) (λhb=>aF (BX K) (D3 λ_=>aH (arh H G T O n4 f4 hn i Q7 hj (wa hb) next))))))))))))) (λhj=>Ev.of rfl (dl (B5 ?_))))
 ·have hc:kH G T i=6:=by unfold kH;rw[show(!kD (sv (aA (G i))))=true from hb];rfl
  unfold ge eO;rw[(du Q7 (by rw[hc];rfl) hj).1,(du Q7 (by rw[hc];rfl) hj).2,hc]
 ·unfold ge eO;rw[(iz hj).1,(iz hj).2]
theorem agH (hp:aD H (D B4 G)):aT (Ev (rU H G T O n4 f4)) (Qi H G T O n4 f4) (.tup [A (ge H (D B4 G) T),A (eO H (D B4 G) T)]):=hxy H G T O n4 f4 hp
def acj:aE:=bP [.sl B4,.fn 80 [] [],.fn 81 [] [.pd [.sl ap,.sl B4]]] (λ
 |[.sl H G,.fn _ [] [],.fn _ [] [.pd [.sl T O,.sl n4 f4]]]=>aD H G|_=>False) λ
 |[.sl H G,.fn _ [] [],.fn _ [] [.pd [.sl T O,.sl n4 f4]]]=>.tup [A (ge H G T),A (eO H G T)]|_=>.any
theorem amR:b9 acj 79:=aU Pl λ_ hp=>kr (nf4 ..) (agH _ _ _ _ _ _ hp)
def qZ:bm:=(76,.con aas)::(79,.con acj)::D9
theorem Bv:aZ Tryz.prog Bs C3 qZ:=.con ajS (.con amR (Pl))
def abh:RT Empty:=.am H (.ii (.asm ((!decide (10<(H:Int)))=true->T<=9223372036854775807) (.ii (.br (bif decide (10<(H:Int)) then true else decide (20<(T:Int))) (.ret (V.tup [A 0,A 0,A 3])) (.obp (aD H G) (.obt (.br (eV H (D ap G)!=0) (.ret (V.tup [A 1,A (gj H (D ap G)),A (eV H (D ap G))])) (.obp (aD T O) (.obt (.br (eO T (D B4 O) H !=0) (.ret (V.tup [A 2,A (ge T (D B4 O) H),A (eO T (D B4 O) H)])) (.ret (V.tup H9))))))))))))
theorem nd6:cY cZ (aQ JJ qZ u0 al6 [V.agg [V.sl H (D ap G),V.sl T (D B4 O)]]) (abh H G T O):=bD
def oB:Int:=bif bif decide (10<(H:Int)) then true else decide (20<(T:Int)) then 0 else bif eV H (D ap G)!=0 then 1 else bif eO T (D B4 O) H !=0 then 2 else 0
def om:Int:=bif bif decide (10<(H:Int)) then true else decide (20<(T:Int)) then 0 else bif eV H (D ap G)!=0 then gj H (D ap G) else bif eO T (D B4 O) H !=0 then ge T (D B4 O) H else 0
def b7:Int:=bif bif decide (10<(H:Int)) then true else decide (20<(T:Int)) then 3 else bif eV H (D ap G)!=0 then eV H (D ap G) else bif eO T (D B4 O) H !=0 then eO T (D B4 O) H else 0
def AD:V:=.tup [A (oB H G T O),A (om H G T O),A (b7 H G T O)]
theorem ahS (hp:aD H G/\aD T O):aT cM (abh H G T O) (AD H G T O):=D3 (λa0=>B1 (B1 (D3 (λa0=>B1 (B1 (C2 (λh0=>B5 (by unfold AD oB om b7;try rw[h0];rfl)) (λh0=>aI (by first|assumption|(first|exact hp.1|exact hp.2)) (ac (C2 (λM=>B5 (by unfold AD oB om b7;try rw[h0];try rw[M];rfl)) (λM=>aI (by first|assumption|(first|exact hp.1|exact hp.2)) (ac (C2 (λN=>B5 (by unfold AD oB om b7;try rw[h0];try rw[M];try rw[N];rfl)) (λN=>B5 (by unfold AD oB om b7;try rw[h0];try rw[M];try rw[N];rfl))))))))))))))
def abR:aE:=bP [.agg [.sl ap,.sl B4]] (λ
 |[.agg [.sl H G,.sl T O]]=>aD H G/\aD T O|_=>False) λ
 |[.agg [.sl H G,.sl T O]]=>AD H G T O|_=>.any
theorem hci:b9 abR 49:=aU Bv λ_ hp=>da (nd6 ..) (ahS _ _ _ _ hp)
inductive kI where|L0 (_:Int)|L1 (_:Int) (_:Bool) (_:Int)|L2 (_ _:Int) (_:Bool) (_:Int)|L3 (_ _ _:Int) (_:Bool) (_:Int)
def BR (l:List Ax):List Ax:=dm (H,T,O) (Ax.cells [V.str (sv (aA (G Q.toNat))),V.sl (aB (aA (I (G Q.toNat)))) λi=>al L (bL (aA (I (G Q.toNat))) i),V.sl (aB (aA (I (I (G Q.toNat))))) λi=>al L (bL (aA (I (I (G Q.toNat)))) i),V.sl (aB (aA (I (I (I (G Q.toNat)))))) λi=>al [Ty.sl L] (bL (aA (I (I (I (G Q.toNat))))) i),A (cu (G Q.toNat)),A (bE (G Q.toNat))] 88::l)
def wV:kI->bS×List Ax×Option Ex
 |.L0 Pt=>([(6,A Pt),(5,V.pl 0 0),(2,V.pl 1 0),(1,A Q)],BR H G T O Q [Ax.cells [V.sl H (D ap G),V.sl T (D B4 O)] 25],none)|.L1 QV Zh Vp=>([(14,A QV),(13,V.bool Zh),(6,A Vp),(5,V.pl 0 0),(2,V.pl 1 0),(1,A Q)],BR H G T O Q [Ax.cells [V.sl H (D ap G),V.sl T (D B4 O)] 25],none)|.L2 QX RX Zi Te=>([(15,A QX),(14,A RX),(13,V.bool Zi),(6,A Te),(5,V.pl 0 0),(2,V.pl 1 0),(1,A Q)],BR H G T O Q [Ax.cells [V.sl H (D ap G),V.sl T (D B4 O)] 25],none)|.L3 RA TD VK WX V6=>([(16,A RA),(15,A TD),(14,A VK),(13,V.bool WX),(6,A V6),(5,V.pl 0 0),(2,V.pl 1 0),(1,A Q)],BR H G T O Q [Ax.cells [V.sl H (D ap G),V.sl T (D B4 O)] 25],none)
def ahm:kI->JJ
 |.L0 _=>(0,[])|.L1 ..=>(1,[])|.L2 ..=>(2,[])|.L3 ..=>(3,[])
def bf3:Bh (cq JJ):=aQ JJ qZ u0 agO [V.agg [V.sl H (D ap G),V.sl T (D B4 O)],A Q]
def yu (cx:List Cx):Lp JJ:=eX (eJ (bf3 H G T O Q) [false])
def Ret (cx:List Cx):Lp JJ:=eX (eJ (oV qZ u0 (0,[]) (yu H G T O Q []) (wV H G T O Q (.L0 (0:Int)))) [false,false,false,false,false,true])
def abn (cx:List Cx):Lp JJ:=eX (eJ (oV qZ u0 (1,[]) (Ret H G T O Q []) (wV H G T O Q (.L1 (0:Int) false (0:Int)))) [false])
def hzb (cx:List Cx):Lp JJ:=eX (eJ (oV qZ u0 (2,[]) (abn H G T O Q []) (wV H G T O Q (.L2 (0:Int) (0:Int) false (0:Int)))) [true])
def ahx:JJ->Lp JJ
 |(0,cx)=>yu H G T O Q cx|(1,cx)=>Ret H G T O Q cx|(2,cx)=>abn H G T O Q cx|(3,cx)=>hzb H G T O Q cx|(_,cx)=>yu H G T O Q cx
def apz:LD JJ kI:=⟨ahm,ahx H G T O Q,wV H G T O Q⟩
def jB (H:Nat) (G:be) (T:Nat) (O:be) (Q:Int):kI->RT kI
 |.L0 Pt=>.br (decide (Pt<Q)) (.ob (dI Pt H) (.br ((sv (aA (G Pt.toNat))).toList==(sv (aA (G Q.toNat))).toList) (.ret (A 5)) (.next Dv (kI.L0 (E (Pt+1))) []))) (.cb (.cb (.ii (.br (bif !aG (↑(aB (aA (I (G Q.toNat)))):Int) 2 12 then true else !aG (↑(aB (aA (I (I (G Q.toNat))))):Int) 2 12) (.ret (A 3)) (.ii (.br (bif !lO (aB (aA (I (G Q.toNat)))) λi=>al L (bL (aA (I (G Q.toNat))) i) then true else !lO (aB (aA (I (I (G Q.toNat))))) λi=>al L (bL (aA (I (I (G Q.toNat)))) i)) (.ret (A 7)) (.ii (.br (bif !Ds (aB (aA (I (G Q.toNat)))) λi=>al L (bL (aA (I (G Q.toNat))) i) then true else !Ds (aB (aA (I (I (G Q.toNat))))) λi=>al L (bL (aA (I (I (G Q.toNat)))) i)) (.ret (A 2)) (.asm (true=true->aB (aA (I (I (I (G Q.toNat)))))<=9223372036854775807) (.asm (true=true->aB (aA (I (G Q.toNat)))<=9223372036854775807) (.br ((↑(aB (aA (I (I (I (G Q.toNat)))))):Int)!=(↑(aB (aA (I (G Q.toNat)))):Int)) (.ret (A 6)) (.cb (.obi (.br (aG (cu (G Q.toNat)) 0 10000000) (.ob (aG (cu (G Q.toNat)) 0 10000000) (.cb (.enter Dv (kI.L1 0 (aG (bE (G Q.toNat)) 0 10000000) Pt) []))) (.enter Dv (kI.L1 0 (false) Pt) [])))))))))))))))|.L1 QV Zh Vp=>.asm (true=true->aB (aA (I (I (I (G Q.toNat)))))<=9223372036854775807) (.br (decide (QV<(↑(aB (aA (I (I (I (G Q.toNat)))))):Int))) (.ob (decide (0<=QV/\QV<(↑(aB (aA (I (I (I (G Q.toNat)))))):Int))) (.asm (true=true->aB (aA (bL (aA (I (I (I (G Q.toNat))))) QV.toNat))<=9223372036854775807) (.asm (true=true->aB (aA (I (I (G Q.toNat))))<=9223372036854775807) (.br ((↑(aB (aA (bL (aA (I (I (I (G Q.toNat))))) QV.toNat))):Int)!=(↑(aB (aA (I (I (G Q.toNat))))):Int)) (.ret (A 6)) (.next Dv (kI.L1 (E (QV+1)) (Zh) Vp) []))))) (.enter Dv (kI.L2 0 QV (Zh) Vp) []))|.L2 QX RX Zi Te=>.asm (true=true->aB (aA (I (I (I (G Q.toNat)))))<=9223372036854775807) (.br (decide (QX<(↑(aB (aA (I (I (I (G Q.toNat)))))):Int))) (.enter Dv (kI.L3 0 QX RX (Zi) Te) []) (.br (!Zi) (.ret (A 7)) (.ret (A 0))))|.L3 RA TD VK WX V6=>.asm (true=true->aB (aA (I (I (G Q.toNat))))<=9223372036854775807) (.br (decide (RA<(↑(aB (aA (I (I (G Q.toNat))))):Int))) (.ii (.obi (.obj (WX) (decide (0<=TD/\TD<(↑(aB (aA (I (I (I (G Q.toNat)))))):Int))) (.ii (.obi (.obj (WX) (decide (0<=RA/\RA<(↑(aB (aA (bL (aA (I (I (I (G Q.toNat))))) TD.toNat))):Int))) (.obi (.br (WX) (.ob (WX) (.cb (.next Dv (kI.L3 (E (RA+1)) TD VK (aG (av (bL (aA (bL (aA (I (I (I (G Q.toNat))))) TD.toNat)) RA.toNat)) 0 10000000) V6) []))) (.next Dv (kI.L3 (E (RA+1)) TD VK (false) V6) []))))))))) (.next Dv (kI.L2 (E (TD+1)) VK (WX) V6) []))
def TH:RT kI:=dm (T,O) (.ob (dI Q H) (.obp ((sv (aA (G Q.toNat))).size<=(9223372036854775807:Nat)) (.obt (.br (!mt (sv (aA (G Q.toNat)))) (.ret (A 6)) (.enter J4 (kI.L0 0) [])))))
theorem ntT:dZ qZ u0 (apz H G T O Q) (bf3 H G T O Q) (TH H G T O Q) (jB H G T O Q):=⟨bD,λs=>by cases s<;>exact bD⟩
def tC (n3:Nat) (q:be) (i:Nat):Bool:=(aB (aA (q i)):Int)!=(n3:Int)
def pu (i j:Nat):Bool:=aG (av (bL (aA (q i)) j)) 0 10000000
def ju (i:Nat):Bool:=dw n3 (pu q i)
def m7:Bool:=bif aG Z 0 10000000 then aG Y 0 10000000 else false
def MB (a b:Bool):Bool:=bif !a then true else !b
def F2 (n1:Nat) (f1:be) (n3:Nat) (f3:be) (n5:Nat) (q:be) (Z Y:Int):Int :=
 bif MB (aG (n1:Int) 2 12) (aG (n3:Int) 2 12) then 3 else bif MB (lO n1 f1) (lO n3 f3) then 7 else bif MB (Ds n1 f1) (Ds n3 f3) then 2 else bif(n5:Int)!=(n1:Int) then 6 else bif gS n5 (tC n3 q) then 6 else bif !(m7 Z Y&&dw n5 (ju n3 q)) then 7 else 0
section
variable (a:Nat)
include a
def EE (j:Nat):Bool:=(sv (aA (G j))).toList==(sv (aA (G a))).toList
def iN:Int:=bif !mt (sv (aA (G a))) then 6 else bif gS a (EE G a) then 5 else F2 (aB (aA (I (G a)))) (λi=>al L (bL (aA (I (G a))) i)) (aB (aA (I (I (G a))))) (λi=>al L (bL (aA (I (I (G a)))) i)) (aB (aA (I (I (I (G a)))))) (bL (aA (I (I (I (G a)))))) (cu (G a)) (bE (G a))
def J1 (g:Bool):Int:=bif !(g&&dw (aB (aA (I (I (I (G a)))))) (ju (aB (aA (I (I (G a))))) (bL (aA (I (I (I (G a)))))))) then 7 else 0
theorem iw8 (r:V) (i:Nat) (hi:i<(aB (aA (I (I (I (G a))))))) (h3:(aB (aA (I (I (G a)))))<=9223372036854775807) (hrow:∀ i,i<(aB (aA (I (I (I (G a))))))->(aB (aA ((bL (aA (I (I (I (G a)))))) i)):Int)=((aB (aA (I (I (G a))))):Int)) (g:Bool) (t t':Int) (hx:Ev (jB H G T O (a:Int)) (.L2 (E ((i:Int)+1)) t (g&&ju (aB (aA (I (I (G a))))) (bL (aA (I (I (I (G a)))))) i) t') r):Ev (jB H G T O (a:Int)) (.L3 0 i t g t') r:=by
 have key:=EL h3 (P:=λx=>Ev (jB H G T O (a:Int)) (.L3 x i t (g&&dw x.toNat (pu (bL (aA (I (I (I (G a)))))) i)) t') r) (λj Q7 nx=>?_) (Ev.of rfl (D3 λ_=>dl (aL hx)))
 ·simpa[dw] using key
 ·have hj:(j:Int)<(aB (aA ((bL (aA (I (I (I (G a)))))) i)):Int):=by rw[hrow i hi];omega
  simp only[De];rw[show(E ((j:Int)+1)).toNat=j+1 by rw[kE Q7 h3];rfl]at nx;refine Ev.of rfl (D3 λ_=>dt Q7 (B1 (B1 (B1 (DY (λ_=>BX ⟨K,by show(i:Int)<((aB (aA (I (I (I (G a)))))):Int);omega⟩) (B1 (B1 (B1 (DY (λ_=>BX ⟨K,hj⟩) (B1 (C2 (λhb=>aF hb (ao (ac (aL ?_)))) (λhb=>aL ?_))))))))))))
  ·have e:(g&&dw (j+1) (pu (bL (aA (I (I (I (G a)))))) i))=pu (bL (aA (I (I (I (G a)))))) i j:=by
    have Qx:(g&&dw j (pu (bL (aA (I (I (I (G a)))))) i))=true:=hb;show(g&&(dw j (pu (bL (aA (I (I (I (G a)))))) i)&&pu (bL (aA (I (I (I (G a)))))) i j))=_;rw[← Bool.and_assoc,Qx,Bool.true_and]
   rw[e]at nx;exact nx
  ·have e:(g&&dw (j+1) (pu (bL (aA (I (I (I (G a)))))) i))=false:=by
    have Qx:(g&&dw j (pu (bL (aA (I (I (I (G a)))))) i))=false:=hb;show(g&&(dw j (pu (bL (aA (I (I (I (G a)))))) i)&&pu (bL (aA (I (I (I (G a)))))) i j))=_;rw[← Bool.and_assoc,Qx,Bool.false_and]
   rw[e]at nx;exact nx
theorem nu2 (h5:(aB (aA (I (I (I (G a))))))<=9223372036854775807) (hrow:∀ i,i<(aB (aA (I (I (I (G a))))))->(aB (aA ((bL (aA (I (I (I (G a)))))) i)):Int)=((aB (aA (I (I (G a))))):Int)) (g:Bool) (t t':Int):Ev (jB H G T O (a:Int)) (.L2 0 t g t') (A (J1 G a g)):=by
 by_cases h3:(aB (aA (I (I (G a)))))<=9223372036854775807
 ·have key:=EL h5 (P:=λx=>Ev (jB H G T O (a:Int)) (.L2 x t (g&&dw x.toNat (ju (aB (aA (I (I (G a))))) (bL (aA (I (I (I (G a)))))))) t') (A (J1 G a g))) (λi Q7 nx=>?_) (Ev.of rfl (D3 λ_=>dl ?_))
  ·simpa[dw] using key
  ·simp only[De];rw[show(E ((i:Int)+1)).toNat=i+1 by rw[kE Q7 h5];rfl]at nx;refine Ev.of rfl (D3 λ_=>dt Q7 (aH (iw8 H G T O a _ i Q7 h3 hrow _ t t' ?_)));rw[Bool.and_assoc];exact nx
  ·simp only[De]
   unfold J1;refine C2 (λh=>B5 ?_) (λh=>B5 ?_)
   ·rw[show(!(g&&dw (aB (aA (I (I (I (G a)))))) (ju (aB (aA (I (I (G a))))) (bL (aA (I (I (I (G a)))))))))=true from h];rfl
   ·rw[show(!(g&&dw (aB (aA (I (I (I (G a)))))) (ju (aB (aA (I (I (G a))))) (bL (aA (I (I (I (G a)))))))))=false from h];rfl
 ·have key:=EL h5 (P:=λx=>Ev (jB H G T O (a:Int)) (.L2 x t (g&&dw x.toNat (ju (aB (aA (I (I (G a))))) (bL (aA (I (I (I (G a)))))))) t') (A (J1 G a g))) (λi Q7 nx=>?_) (Ev.of rfl (D3 λ_=>dl ?_))
  ·simpa[dw] using key
  ·exact Ev.of rfl (D3 λ_=>dt Q7 (aH (Ev.of rfl (D3 λh=>absurd (h rfl) h3))))
  ·simp only[De]
   unfold J1;refine C2 (λh=>B5 ?_) (λh=>B5 ?_)
   ·rw[show(!(g&&dw (aB (aA (I (I (I (G a)))))) (ju (aB (aA (I (I (G a))))) (bL (aA (I (I (I (G a)))))))))=true from h];rfl
   ·rw[show(!(g&&dw (aB (aA (I (I (I (G a)))))) (ju (aB (aA (I (I (G a))))) (bL (aA (I (I (I (G a)))))))))=false from h];rfl
theorem aut (g:Bool) (t':Int):Ev (jB H G T O (a:Int)) (.L1 0 g t') (A (bif gS (aB (aA (I (I (I (G a)))))) (tC (aB (aA (I (I (G a))))) (bL (aA (I (I (I (G a))))))) then 6 else J1 G a g)):=by
 by_cases h5:(aB (aA (I (I (I (G a))))))<=9223372036854775807
 ·refine ku h5 (tC (aB (aA (I (I (G a))))) (bL (aA (I (I (I (G a))))))) (P:=λx=>Ev (jB H G T O (a:Int)) (.L1 x g t') (A (bif gS (aB (aA (I (I (I (G a)))))) (tC (aB (aA (I (I (G a))))) (bL (aA (I (I (I (G a))))))) then 6 else J1 G a g))) (λi Q7 hj next=>Ev.of rfl (D3 λ_=>dt Q7 (cX Q7 (D3 λ_=>D3 λ_=>C2 (λhb=>B5 ?_) (λhb=>aL (next hb)))))) (λhj=>Ev.of rfl (D3 λ_=>dl (aH ?_)))
  ·rw[cV i Q7 hb];rfl
  ·rw[c8 hj];exact nu2 H G T O a h5 (λi hi=>by have:=hj i hi;unfold tC at this;simpa using this) g _ t'
 ·exact Ev.of rfl (D3 λh=>absurd (h rfl) h5)
theorem if3 (ha:a<H) (hn:H<=9223372036854775807):Ev (jB H G T O (a:Int)) (.L0 0) (A (bif gS a (EE G a) then 5 else F2 (aB (aA (I (G a)))) (λi=>al L (bL (aA (I (G a))) i)) (aB (aA (I (I (G a))))) (λi=>al L (bL (aA (I (I (G a)))) i)) (aB (aA (I (I (I (G a)))))) (bL (aA (I (I (I (G a)))))) (cu (G a)) (bE (G a)))):=by
 refine ku (n:=a) K (EE G a) (P:=λx=>Ev (jB H G T O (a:Int)) (.L0 x) _) (λj Q7 hj next=>Ev.of rfl (dt Q7 (cX K (C2 (λhb=>B5 ?_) (λhb=>aL (next hb)))))) (λhj=>Ev.of rfl (dl ?_))
 ·rw[cV j Q7 hb];rfl
 ·rw [c8 hj,cond_false]
  unfold F2;refine ao (ac (ao (ac (B1 (B1 (C2 (λh=>B5 (by rw[show MB (aG ((aB (aA (I (G a)))):Int) 2 12) (aG ((aB (aA (I (I (G a))))):Int) 2 12)=true from h];rfl)) (λh=>?_)))))));rw[show MB (aG ((aB (aA (I (G a)))):Int) 2 12) (aG ((aB (aA (I (I (G a))))):Int) 2 12)=false from h];refine B1 (B1 (C2 (λh=>B5 (by rw[show MB (lO (aB (aA (I (G a)))) (λi=>al L (bL (aA (I (G a))) i))) (lO (aB (aA (I (I (G a))))) (λi=>al L (bL (aA (I (I (G a)))) i)))=true from h];rfl)) (λh=>?_)));rw[show MB (lO (aB (aA (I (G a)))) (λi=>al L (bL (aA (I (G a))) i))) (lO (aB (aA (I (I (G a))))) (λi=>al L (bL (aA (I (I (G a)))) i)))=false from h];refine B1 (B1 (C2 (λh=>B5 (by rw[show MB (Ds (aB (aA (I (G a)))) (λi=>al L (bL (aA (I (G a))) i))) (Ds (aB (aA (I (I (G a))))) (λi=>al L (bL (aA (I (I (G a)))) i)))=true from h];rfl)) (λh=>?_)));rw[show MB (Ds (aB (aA (I (G a)))) (λi=>al L (bL (aA (I (G a))) i))) (Ds (aB (aA (I (I (G a))))) (λi=>al L (bL (aA (I (I (G a)))) i)))=false from h];refine D3 λ_=>D3 λ_=>C2 (λh=>B5 (by rw[show(((aB (aA (I (I (I (G a)))))):Int)!=((aB (aA (I (G a)))):Int))=true from h];rfl)) (λh=>?_);rw[show(((aB (aA (I (I (I (G a)))))):Int)!=((aB (aA (I (G a)))):Int))=false from h];refine ao (ac (B1 (C2 (λhg=>aF hg (ao (ac (aH ?_)))) (λhg=>aH ?_))))
  ·have e:m7 (cu (G a)) (bE (G a))=aG (bE (G a)) 0 10000000:=by unfold m7;rw[show aG (cu (G a)) 0 10000000=true from hg];rfl
   rw[e];exact aut H G T O a _ _
  ·have e:m7 (cu (G a)) (bE (G a))=false:=by unfold m7;rw[show aG (cu (G a)) 0 10000000=false from hg];rfl
   rw[e];exact aut H G T O a _ _
end
theorem hrv (hp:0<=Q/\Q<H/\H<=9223372036854775807/\aD H G):aT (Ev (jB H G T O Q)) (TH H G T O Q) (A (iN G Q.toNat)):=by
 obtain⟨h0,M,N,h3⟩:=hp;obtain⟨a,rfl⟩:∃a:Nat,Q=(a:Int):=⟨Q.toNat,K⟩;have ha:a<H:=by omega
 unfold iN;simp only[De];refine cX ha (aI (h3 a ha) (ac (C2 (λh=>B5 (by rw[show(!mt (sv (aA (G a))))=true from h];rfl)) (λh=>aH ?_))));rw[show(!mt (sv (aA (G a))))=false from h];exact if3 H G T O a ha N
theorem alI (hp:0<=Q/\Q<H/\H<=9223372036854775807/\aD H (D ap G)):aT (Ev (jB H G T O Q)) (TH H G T O Q) (A (iN (D ap G) Q.toNat)):=hrv H G T O Q hp
def aed:aE:=bP [.agg [.sl ap,.sl B4],tI] (λ
 |[.agg [.sl H G,.sl T O],.int _ Q]=>0<=Q/\Q<H/\H<=9223372036854775807/\aD H G|_=>False) λ
 |[.agg [.sl H G,.sl T O],.int _ Q]=>A (iN G Q.toNat)|_=>.any
theorem ag3:b9 aed 159:=aU Bv λ_ hp=>kr (ntT ..) (alI _ _ _ _ _ hp)
inductive v6 where|L0 (_:Int)
def x24:v6->bS×List Ax×Option Ex
 |.L0 Pt=>([(6,A Pt),(5,V.pl 0 0),(2,V.pl 1 0),(1,A Q)],[Ax.cells [V.str (sv (aA (O Q.toNat))),A (aP (O Q.toNat)),A (bV (O Q.toNat)),A (bf (O Q.toNat)),A (cu (O Q.toNat)),A (bE (O Q.toNat)),A (bE (I (O Q.toNat))),A (bE (I (I (O Q.toNat)))),A (bE (I (I (I (O Q.toNat))))),A (bE (I (I (I (I (O Q.toNat)))))),A (bE (I (I (I (I (I (O Q.toNat))))))),A (bE (I (I (I (I (I (I (O Q.toNat)))))))),A (bE (I (I (I (I (I (I (I (O Q.toNat))))))))),A (bE (I (I (I (I (I (I (I (I (O Q.toNat))))))))))] 104,Ax.cells [V.sl H (D ap G),V.sl T (D B4 O)] 25],none)
def ala:v6->JJ
 |.L0 _=>(0,[])
def fe5:Bh (cq JJ):=aQ JJ qZ u0 aiU [V.agg [V.sl H (D ap G),V.sl T (D B4 O)],A Q]
def aA6 (cx:List Cx):Lp JJ:=eX (eJ (fe5 H G T O Q) [false])
def ahT:JJ->Lp JJ
 |(0,cx)=>aA6 H G T O Q cx|(_,cx)=>aA6 H G T O Q cx
def ic14:LD JJ v6:=⟨ala,ahT H G T O Q,x24 H G T O Q⟩
def xo (H:Nat) (G:be) (T:Nat) (O:be) (Q:Int):v6->RT v6
 |.L0 Pt=>.br (decide (Pt<Q)) (.ob (dI Pt T) (.br ((sv (aA (O Pt.toNat))).toList==(sv (aA (O Q.toNat))).toList) (.ret (A 5)) (.next Dv (v6.L0 (E (Pt+1))) []))) (.am H (.cb (.br (!aG (aP (O Q.toNat)) 0 (E ((H:Int)-1))) (.ret (A 4)) (.cb (.br (!aG (bV (O Q.toNat)) 1 3) (.ret (A 2)) (.cb (.obi (.br (!!aG (bf (O Q.toNat)) 1 1000000) (.ob (!!aG (bf (O Q.toNat)) 1 1000000) (.cb (.ii (.br (!!aG (cu (O Q.toNat)) 1 5000000) (.ob (!!aG (cu (O Q.toNat)) 1 5000000) (.ob (!!aG (cu (O Q.toNat)) 1 5000000) (.cb (.obi (.br (!!aG (bE (O Q.toNat)) 0 (cu (O Q.toNat))) (.ob (!!aG (bE (O Q.toNat)) 0 (cu (O Q.toNat))) (.cb (.br (!aG (bE (I (O Q.toNat))) 0 1000) (.ret (A 7)) (.cb (.obi (.br (!!fw (bE (I (I (O Q.toNat)))) (bE (I (I (I (O Q.toNat))))) 0 1000) (.ob (!!fw (bE (I (I (O Q.toNat)))) (bE (I (I (I (O Q.toNat))))) 0 1000) (.cb (.obi (.br (!!fw (bE (I (I (I (I (O Q.toNat)))))) (bE (I (I (I (I (I (O Q.toNat))))))) 0 1000) (.ob (!!fw (bE (I (I (I (I (O Q.toNat)))))) (bE (I (I (I (I (I (O Q.toNat))))))) 0 1000) (.cb (.obi (.br (!!aG (bE (I (I (I (I (I (I (O Q.toNat)))))))) 1 200000) (.ob (!!aG (bE (I (I (I (I (I (I (O Q.toNat)))))))) 1 200000) (.cb (.obi (.br (!!aG (bE (I (I (I (I (I (I (I (O Q.toNat))))))))) 0 1000) (.ob (!!aG (bE (I (I (I (I (I (I (I (O Q.toNat))))))))) 0 1000) (.cb (.br (!aG (bE (I (I (I (I (I (I (I (I (O Q.toNat)))))))))) 0 3600) (.ret (A 7)) (.ii (.obi (.br (bif bV (O Q.toNat)==1 then bE (I (I (I (I (I (I (I (I (O Q.toNat)))))))))!=0 else false) (.ret (A 2)) (.ret (A 0)))))))) (.ret (A 7)))))) (.ret (A 7)))))) (.ret (A 7)))))) (.ret (A 7)))))))) (.ret (A 7))))))) (.ret (A 7)))))) (.ret (A 7))))))))))
def Qj:RT v6:=dm (H,G) (.ob (dI Q T) (.obp ((sv (aA (O Q.toNat))).size<=(9223372036854775807:Nat)) (.obt (.br (!mt (sv (aA (O Q.toNat)))) (.ret (A 6)) (.enter J4 (v6.L0 0) [])))))
theorem ns2:dZ qZ u0 (ic14 H G T O Q) (fe5 H G T O Q) (Qj H G T O Q) (xo H G T O Q):=⟨bD,λs=>by cases s<;>exact bD⟩
def KO:Bool:=bif W==1 then Q8 !=0 else false
def Df (a j:Nat):Bool:=(sv (aA (O j))).toList==(sv (aA (O a))).toList
def Rr (H:Nat) (O:be) (a:Nat):Int:=LQ (aG (aP (O a)) 0 (E ((H:Int)-1))) (aG (bV (O a)) 1 3) (aG (bf (O a)) 1 1000000&&(aG (cu (O a)) 1 5000000&&(aG (bE (O a)) 0 (cu (O a))&&(aG (bE (I (O a))) 0 1000&&(fw (bE (I (I (O a)))) (bE (I (I (I (O a))))) 0 1000&&(fw (bE (I (I (I (I (O a)))))) (bE (I (I (I (I (I (O a))))))) 0 1000&&(aG (bE (I (I (I (I (I (I (O a)))))))) 1 200000&&(aG (bE (I (I (I (I (I (I (I (O a))))))))) 0 1000&&(aG (bE (I (I (I (I (I (I (I (I (O a)))))))))) 0 3600))))))))) (KO (bV (O a)) (bE (I (I (I (I (I (I (I (I (O a)))))))))))
def mh (a:Nat):Int:=bif !mt (sv (aA (O a))) then 6 else bif gS a (Df O a) then 5 else Rr H O a
section
variable {Q1:Type} {Nx:Q1->V->Prop} {r:V} {X QY:RT Q1} {c:Bool}
theorem Iv (h:(!!c)=true):c=true:=by cases c;cases h;rfl
theorem Iu (h:(!!c)=false):c=false:=by cases c;rfl;cases h
section
variable (N:(!!c)=true->aT Nx X r) (M:(!!c)=false->aT Nx QY r)
include N M
theorem AV:aT Nx (.br (!!c) (.ob (!!c) X) QY) r:=C2 (λh=>aF h (N h)) M
theorem aqz:aT Nx (.br (!!c) (.ob (!!c) (.ob (!!c) X)) QY) r:=C2 (λh=>aF h (aF h (N h))) M
end
end
theorem iy0 (a:Nat) (ha:a<T) (hn:T<=9223372036854775807):Ev (xo H G T O (a:Int)) (.L0 0) (A (bif gS a (Df O a) then 5 else Rr H O a)):=by
 refine ku (n:=a) K (Df O a) (P:=λx=>Ev (xo H G T O (a:Int)) (.L0 x) _) (λj Q7 hj next=>Ev.of rfl (dt Q7 (cX K (C2 (λhb=>B5 ?_) (λhb=>aL (next hb)))))) (λhj=>Ev.of rfl (dl ?_))
 ·rw[cV j Q7 hb];rfl
 rw[c8 hj,cond_false];unfold Rr;refine D3 λ_=>ao (ac (C2 (λh=>B5 (by rw[show aG (aP (O a)) 0 (E ((H:Int)-1))=false from LS h];rfl)) (λh=>?_)));rw[show aG (aP (O a)) 0 (E ((H:Int)-1))=true from wa h];refine ao (ac (C2 (λh=>B5 (by rw[show aG (bV (O a)) 1 3=false from LS h];rfl)) (λh=>?_)));rw[show aG (bV (O a)) 1 3=true from wa h];refine ao (ac ?_)
 repeat refine B1 ?_
 refine AV (λh=>?_) (λh=>B5 (by rw[show aG (bf (O a)) 1 1000000=false from Iu h];rfl));rw[show aG (bf (O a)) 1 1000000=true from Iv h];refine ao (ac ?_)
 repeat refine B1 ?_
 refine aqz (λh=>?_) (λh=>B5 (by rw[show aG (cu (O a)) 1 5000000=false from Iu h];rfl));rw[show aG (cu (O a)) 1 5000000=true from Iv h];refine ao (ac ?_)
 repeat refine B1 ?_
 refine AV (λh=>?_) (λh=>B5 (by rw[show aG (bE (O a)) 0 (cu (O a))=false from Iu h];rfl));rw[show aG (bE (O a)) 0 (cu (O a))=true from Iv h];refine ao (ac ?_);refine C2 (λh=>B5 (by rw[show aG (bE (I (O a))) 0 1000=false from LS h];rfl)) (λh=>?_);rw[show aG (bE (I (O a))) 0 1000=true from wa h];refine ao (ac ?_)
 repeat refine B1 ?_
 refine AV (λh=>?_) (λh=>B5 (by rw[show fw (bE (I (I (O a)))) (bE (I (I (I (O a))))) 0 1000=false from Iu h];rfl));rw[show fw (bE (I (I (O a)))) (bE (I (I (I (O a))))) 0 1000=true from Iv h];refine ao (ac ?_)
 repeat refine B1 ?_
 refine AV (λh=>?_) (λh=>B5 (by rw[show fw (bE (I (I (I (I (O a)))))) (bE (I (I (I (I (I (O a))))))) 0 1000=false from Iu h];rfl));rw[show fw (bE (I (I (I (I (O a)))))) (bE (I (I (I (I (I (O a))))))) 0 1000=true from Iv h];refine ao (ac ?_)
 repeat refine B1 ?_
 refine AV (λh=>?_) (λh=>B5 (by rw[show aG (bE (I (I (I (I (I (I (O a)))))))) 1 200000=false from Iu h];rfl));rw[show aG (bE (I (I (I (I (I (I (O a)))))))) 1 200000=true from Iv h];refine ao (ac ?_)
 repeat refine B1 ?_
 refine AV (λh=>?_) (λh=>B5 (by rw[show aG (bE (I (I (I (I (I (I (I (O a))))))))) 0 1000=false from Iu h];rfl));rw[show aG (bE (I (I (I (I (I (I (I (O a))))))))) 0 1000=true from Iv h];refine ao (ac ?_);refine C2 (λh=>B5 (by rw[show aG (bE (I (I (I (I (I (I (I (I (O a)))))))))) 0 3600=false from LS h];rfl)) (λh=>?_);rw[show aG (bE (I (I (I (I (I (I (I (I (O a)))))))))) 0 3600=true from wa h]
 repeat refine B1 ?_
 exact C2 (λh=>B5 (by rw[show KO (bV (O a)) (bE (I (I (I (I (I (I (I (I (O a))))))))))=true from h];rfl)) (λh=>B5 (by rw[show KO (bV (O a)) (bE (I (I (I (I (I (I (I (I (O a))))))))))=false from h];rfl))
theorem hts (hp:0<=Q/\Q<T/\T<=9223372036854775807/\aD T O):aT (Ev (xo H G T O Q)) (Qj H G T O Q) (A (mh H O Q.toNat)):=by
 obtain⟨h0,M,N,h3⟩:=hp;obtain⟨a,rfl⟩:∃a:Nat,Q=(a:Int):=⟨Q.toNat,K⟩;have ha:a<T:=by omega
 unfold mh;simp only[De];refine cX ha (aI (h3 a ha) (ac (C2 (λh=>B5 (by rw[show(!mt (sv (aA (O a))))=true from h];rfl)) (λh=>aH ?_))));rw[show(!mt (sv (aA (O a))))=false from h];exact iy0 H G T O a ha N
theorem ajz (hp:0<=Q/\Q<T/\T<=9223372036854775807/\aD T (D B4 O)):aT (Ev (xo H G T O Q)) (Qj H G T O Q) (A (mh H (D B4 O) Q.toNat)):=hts H G T O Q hp
def aco:aE:=bP [.agg [.sl ap,.sl B4],tI] (λ
 |[.agg [.sl H G,.sl T O],.int _ Q]=>0<=Q/\Q<T/\T<=9223372036854775807/\aD T O|_=>False) λ
 |[.agg [.sl H G,.sl T O],.int _ Q]=>A (mh H O Q.toNat)|_=>.any
theorem ak7:b9 aco 160:=aU Bv λ_ hp=>kr (ns2 ..) (ajz _ _ _ _ _ hp)
def DK:bm:=(49,.con abR)::(159,.con aed)::(160,.con aco)::qZ
theorem h30:aZ Tryz.prog Bs C3 DK:=.con hci (.con ag3 (.con ak7 (Bv)))
inductive rr where|L0 (_:Int)|L1 (_ _:Int)
def avb:rr->bS×List Ax×Option Ex
 |.L0 Pt=>([(5,A Pt),(1,V.pl 0 0)],[Ax.cells [V.sl H (D ap G),V.sl T (D B4 O)] 25],none)|.L1 QV Qz=>([(7,A QV),(5,A Qz),(1,V.pl 0 0)],[Ax.cells [V.sl H (D ap G),V.sl T (D B4 O)] 25],none)
def agX:rr->JJ
 |.L0 _=>(0,[])|.L1 ..=>(1,[])
def hca:Bh (cq JJ):=aQ JJ DK u0 alf [V.agg [V.sl H (D ap G),V.sl T (D B4 O)]]
def yp (cx:List Cx):Lp JJ:=eX (eJ (hca H G T O) [false])
def ib1 (cx:List Cx):Lp JJ:=eX (eJ (oV DK u0 (0,[]) (yp H G T O []) (avb H G T O (.L0 (0:Int)))) [false])
def afu:JJ->Lp JJ
 |(0,cx)=>yp H G T O cx|(1,cx)=>ib1 H G T O cx|(_,cx)=>yp H G T O cx
def atr:LD JJ rr:=⟨agX,afu H G T O,avb H G T O⟩
def rT:rr->RT rr
 |.L0 Pt=>.am H (.br (decide (Pt<(H:Int))) (.obp ((0:Int)<=Pt/\Pt<(H:Int)/\H<=(9223372036854775807:Nat)/\aD H G) (.obt (.br (iN (D ap G) Pt.toNat !=0) (.ret (V.tup [A 1,A Pt,A (iN (D ap G) Pt.toNat)])) (.next DX (rr.L0 (E (Pt+1))) [])))) (.enter DX (rr.L1 0 Pt) []))|.L1 QV Qz=>.am T (.br (decide (QV<(T:Int))) (.obp ((0:Int)<=QV/\QV<(T:Int)/\T<=(9223372036854775807:Nat)/\aD T O) (.obt (.br (mh H (D B4 O) QV.toNat !=0) (.ret (V.tup [A 2,A QV,A (mh H (D B4 O) QV.toNat)])) (.next DX (rr.L1 (E (QV+1)) Qz) [])))) (.ret (V.tup H9)))
def Oa:RT rr:=dm (G,O) (.am H (.ii (.asm ((!decide (10<(H:Int)))=true->T<=9223372036854775807) (.ii (.br (bif decide (10<(H:Int)) then true else decide (20<(T:Int))) (.ret (V.tup [A 0,A 0,A 3])) (.enter DX (rr.L0 0) []))))))
theorem sc3:dZ DK u0 (atr H G T O) (hca H G T O) (Oa H G T O) (rT H G T O):=⟨bD,λs=>by cases s<;>exact bD⟩
def zL:Int×Int×Int:=Am T (mh H (D B4 O)) 2 (0,0,0)
def zp (H:Nat) (G:be) (T:Nat) (O:be):Int×Int×Int:=bif(bif decide (10<(H:Int)) then true else decide (20<(T:Int))) then(0,0,3) else Am H (iN (D ap G)) 1 (zL H T O)
theorem x16 (hs:aD T O) (t:Int):Ev (rT H G T O) (.L1 0 t) (Ms (zL H T O)):=by
 by_cases hn:T<=9223372036854775807
 ·refine ku (n:=T) hn (λi=>mh H (D B4 O) i != 0) (P:=λi=>Ev (rT H G T O) (.L1 i t) _) (λi Q7 hj next=>Ev.of rfl (D3 λ_=>dt Q7 (aI ⟨K,K,hn,hs⟩ (ac (C2 (λhb=>B5 ?_) (λhb=>aL (next hb))))))) (λhj=>Ev.of rfl (D3 λ_=>dl (B5 ?_)))
  ·unfold zL;rw[kV 2 _ Q7 hb hj];rfl
  ·unfold zL;rw[mr 2 _ hj];rfl
 ·exact Ev.of rfl (D3 λh=>absurd (h rfl) hn)
theorem nz1 (h0:aD H G) (hs:aD T O):Ev (rT H G T O) (.L0 0) (Ms (Am H (iN (D ap G)) 1 (zL H T O))):=by
 by_cases hn:H<=9223372036854775807
 ·refine ku (n:=H) hn (λi=>iN (D ap G) i != 0) (P:=λi=>Ev (rT H G T O) (.L0 i) _) (λi Q7 hj next=>Ev.of rfl (D3 λ_=>dt Q7 (aI ⟨K,K,hn,h0⟩ (ac (C2 (λhb=>B5 ?_) (λhb=>aL (next hb))))))) (λhj=>Ev.of rfl (D3 λ_=>dl (aH ?_)))
  ·rw[kV 1 _ Q7 hb hj];rfl
  ·rw[mr 1 _ hj];exact x16 H G T O hs _
 ·exact Ev.of rfl (D3 λh=>absurd (h rfl) hn)
def wO:Int:=(zp H G T O).1
def wP:Int:=(zp H G T O).2.1
def dh:Int:=(zp H G T O).2.2
theorem hv' (hp:aD H G/\aD T O):aT (Ev (rT H G T O)) (Oa H G T O) (.tup [A (wO H G T O),A (wP H G T O),A (dh H G T O)]):=by unfold wO wP dh zp;refine D3 λ_=>B1 (B1 (D3 λ_=>B1 (B1 (C2 (λh=>B5 (by rw[h];rfl)) (λh=>aH ?_)))));rw[h];exact nz1 H G T O hp.1 hp.2
theorem afB (hp:aD H (D ap G)/\aD T (D B4 O)):aT (Ev (rT H G T O)) (Oa H G T O) (.tup [A (wO H (D ap G) T (D B4 O)),A (wP H (D ap G) T (D B4 O)),A (dh H (D ap G) T (D B4 O))]):=hv' H G T O hp
def adM:aE:=bP [.agg [.sl ap,.sl B4]] (λ
 |[.agg [.sl H G,.sl T O]]=>aD H G/\aD T O|_=>False) λ
 |[.agg [.sl H G,.sl T O]]=>.tup [A (wO H G T O),A (wP H G T O),A (dh H G T O)]|_=>.any
theorem ae7:b9 adM 106:=aU h30 λ_ hp=>kr (sc3 ..) (afB _ _ _ _ hp)
theorem hk2 {n:Nat} {p Pw:Nat->Bool} (h:∀ i,i<n->p i=Pw i):dw n p=dw n Pw:=by
 cases hq:dw n Pw with
 |true=>exact fO λi hi=>by rw[h i hi];exact dA hq i hi
 |false=>
   cases hp:dw n p with
   |false=>rfl|true=>rw[fO λi hi=>by rw[← h i hi];exact dA hp i hi]at hq;cases hq
theorem qD (n:Nat) (f:be) (lo hi:Int):ES n f lo hi=dw n λi=>aG (av (f i)) lo hi:=by show(!(decide (0<=zG n λii=>sT (av (f ii)) lo hi)))=_;rw[mA];unfold gS;rw[H4];exact hk2 λi _=>by show(!(!aw (av (f i)) lo hi))=aw (av (f i)) lo hi;rw[H4]
theorem GM (a b:Bool):MB a b=!(a&&b):=by cases a<;>cases b<;>rfl
theorem hgo (s:ByteArray) (i:Nat):ot s i=true↔¬ (97<=(s.data.toList.getD i 0).toNat/\(s.data.toList.getD i 0).toNat<=122)/\¬ (48<=(s.data.toList.getD i 0).toNat/\(s.data.toList.getD i 0).toNat<=57)/\(s.data.toList.getD i 0).toNat≠45:=by
 have key:∀(p1 p2 p4 p5 p6:Bool),(!bif bif bif p1 then p2 else false then true else bif p4 then p5 else false then true else p6)=true↔¬(p1=true/\p2=true)/\¬(p4=true/\p5=true)/\¬(p6=true):=by decide
 unfold ot;rw[key];simp only[E0,Ek];omega
theorem hlA (s:ByteArray):Ak s=false↔(1<=s.size/\s.size<=24)/\97<=(s.data.toList.getD 0 0).toNat/\(s.data.toList.getD 0 0).toNat<=122:=by
 have key:∀(p1 p2 p4 p5:Bool),(bif bif bif p1 then true else p2 then true else p4 then true else p5)=false↔¬(p1=true)/\¬(p2=true)/\¬(p4=true)/\¬(p5=true):=by decide
 unfold Ak;rw[key];simp only[E0];omega
theorem auw (s:ByteArray):mt s=kD s:=by
 rw[HH];unfold mt kD;simp only[D2,E0,uG,G6];constructor
 ·intro h
  cases hc:Ak s with
  |true=>rw[hc]at h;cases h
  |false=>
    rw[hc,cond_false]at h;have M:=(hlA s).1 hc;refine⟨λi hi=>?_,K,K⟩;have N:=dA h i hi;cases hb:Bg ((s.data.toList.getD i 0).toNat:Int) (i:Int) with
    |false=>rfl
    |true=>
      obtain⟨g1,g2⟩:=(pX _ i).1 hb;rcases g2 with e|⟨g3,g4⟩
      ·subst e;exact(g1 M.2).elim
      ·rw[(hgo s i).2 ⟨g1,g3,g4⟩]at N;cases N
 ·rintro ⟨M,N,h3⟩
  have h0:=M 0 N;have hl:97<=(s.data.toList.getD 0 0).toNat/\(s.data.toList.getD 0 0).toNat<=122:=by apply Classical.byContradiction;intro hn;rw[(pX _ 0).2 ⟨hn,.inl rfl⟩]at h0;cases h0
  rw[(hlA s).2 ⟨⟨K,h3⟩,hl⟩,cond_false];refine fO λi hi=>?_;cases hb:ot s i with
  |false=>rfl
  |true=>obtain⟨g1,g2,g3⟩:=(hgo s i).1 hb;have:=M i hi;rw[(pX _ i).2 ⟨g1,.inr ⟨g2,g3⟩⟩]at this;cases this
theorem hpt:pi n1 f1 n3 f3 n5 q Z Y=F2 n1 f1 n3 f3 n5 q Z Y:=by
 have e1:∀n f,ES n f (-5000) 5000=lO n f:=λn f=>qD n f _ _;unfold pi F2;rw[GM,GM,GM,e1,e1];have e2:(gS n5 (KR n3 q))=gS n5 (tC n3 q):=rfl;rw[e2];cases he:gS n5 (tC n3 q) with
 |true=>rfl
 |false=>
   have hrow:∀ i,i<n5->aB (aA (q i))=n3:=λi hi=>by
    cases hb:tC n3 q i with
    |true=>rw[cV i hi hb]at he;cases he|false=>unfold tC at hb;simp at hb;omega
   have e3:gS n5 (PZ q)=!dw n5 (ju n3 q):=by unfold gS;rw[hk2 (Pw:=ju n3 q) λi hi=>by show(!(!ES (aB (aA (q i))) (D L λj=>al L (bL (aA (q i)) j)) 0 10000000))=_;rw[H4,qD,hrow i hi];rfl]
   have e4:XO Z Y=!m7 Z Y:=by show(!ES 2 _ 0 10000000)=_;rw[qD];show(!((true&&aG Z 0 10000000)&&aG Y 0 10000000))=_;unfold m7;cases aG Z 0 10000000<;>cases aG Y 0 10000000<;>rfl
   unfold sP;rw[e3,e4];show(bif _ then _ else bif _ then _ else bif _ then _ else bif _ then _ else _)=(bif _ then _ else bif _ then _ else bif _ then _ else bif _ then _ else _);cases m7 Z Y<;>cases dw n5 (ju n3 q)<;>rfl
theorem ajD (f:be) (a:Nat):kL f a=iN f a:=by unfold kL iN;rw[auw,show Co f a=EE f a from funext λj=>by unfold Co EE;rw[EB]];unfold Lz;rw[hpt];rfl
theorem Ag:gg Z Y 0 1000=fw Z Y 0 1000:=by unfold gg fw aG;by_cases M:(0:Int)<=Z<;>by_cases N:Z<=Y<;>by_cases h3:Y<=1000<;>by_cases h4:Z<=1000<;>by_cases h5:(0:Int)<=Y<;>simp only[M,N,h3,h4,h5,decide_true,decide_false,cond_true,cond_false]<;>omega
theorem ait {a k num Pw q':Bool} (h:num=true->Pw=q'):LQ a k num Pw=LQ a k num q':=by
 cases num with
 |false=>rfl|true=>rw[h rfl]
theorem aku (f:be) (n a:Nat):kH f n a=mh n f a:=by
 unfold kH mh;rw[auw,show BJ f a=Df f a from funext λj=>by unfold BJ Df;rw[EB]];unfold Cg sE Rr;rw[Ag,Ag];congr 2;refine ait λh=>?_;simp only[D2]at h;have Zr:=h.2.2.2.2.2.2.2.2;unfold UI KO;unfold aw at Zr;generalize bE (I (I (I (I (I (I (I (I (f a)))))))))=x at Zr ⊢;have hx:0<=x:=by
  by_cases h0:(0:Int)<=x
  ·exact h0
  ·rw[eQ h0]at Zr;cases Zr
 congr 1;by_cases e:x=0
 ·subst e;rfl
 ·rw[BX K];simp[e]
theorem qy:(oB H G T O,om H G T O,b7 H G T O)=zp H G T O:=by
 have e1:∀f,kL f=iN f:=λf=>funext λa=>ajD f a;have e2:∀f n,kH f n=mh n f:=λf n=>funext λa=>aku f n a;unfold oB om b7 zp zL Am gj eV ge eO;rw[e1,e2];cases (bif decide (10<(H:Int)) then true else decide (20<(T:Int))) with
 |true=>rfl
 |false=>simp only[cond_false];generalize d8 H _=x;generalize gp H _=y;generalize d8 T _=z;generalize gp T _=u;cases x !=0<;>cases z !=0<;>rfl
def iF:bm:=(106,.con adM)::DK
theorem iO:aZ Tryz.prog Bs C3 iF:=.con ae7 (h30)
def abl:RT Empty:=.ret (A (E (E (W*S)+E (U*R))))
theorem nd1:cY cZ (aQ JJ iF u0 fx7 [V.agg [A S,A R],A W,A U]) (abl S R W U):=bD
def aX:Int:=E (E (W*S)+E (U*R))
def Pf:V:=A (aX S R W U)
theorem ajq:aT cM (abl S R W U) (Pf S R W U):=B5 (by unfold Pf aX;rfl)
def abL:aE:=bP [.agg aM,tI,tI] (λ_=>True) λ|[.agg [.int _ S,.int _ R],.int _ W,.int _ U]=>Pf S R W U|_=>.any
theorem agp:b9 abL 73:=aU iO λ_ hp=>da (nd1 ..) (ajq _ _ _ _)
def aby:RT Empty:=.ret (A (E (E (W*R)-E (U*S))))
theorem na4:cY cZ (aQ JJ iF u0 axk [V.agg [A S,A R],A W,A U]) (aby S R W U):=bD
def aW:Int:=E (E (W*R)-E (U*S))
def Nb:V:=A (aW S R W U)
theorem ajI:aT cM (aby S R W U) (Nb S R W U):=B5 (by unfold Nb aW;rfl)
def aah:aE:=bP [.agg aM,tI,tI] (λ_=>True) λ|[.agg [.int _ S,.int _ R],.int _ W,.int _ U]=>Nb S R W U|_=>.any
theorem aiw:b9 aah 72:=aU iO λ_ hp=>da (na4 ..) (ajI _ _ _ _)
def adI:RT Empty:=.ret (A (E (E (S*S)+E (R*R))))
theorem yal:cY cZ (aQ JJ iF u0 hb1 [V.agg [A S,A R]]) (adI S R):=bD
def cm:Int:=E (E (S*S)+E (R*R))
def QO:V:=A (cm S R)
theorem ajW:aT cM (adI S R) (QO S R):=B5 (by unfold QO cm;rfl)
def acg:aE:=bP [.agg aM] (λ_=>True) λ|[.agg [.int _ S,.int _ R]]=>QO S R|_=>.any
theorem ajP:b9 acg 67:=aU iO λ_ hp=>da (yal ..) (ajW _ _)
def abN:RT Empty:=.ret (A (min (max S (-200000)) 200000))
theorem if2:cY cZ (aQ JJ iF u0 axt [A S]) (abN S):=bD
def cz:Int:=min (max S (-200000)) 200000
def PC:V:=A (cz S)
theorem afF:aT cM (abN S) (PC S):=B5 (by unfold PC cz;rfl)
def aec:aE:=bP L (λ_=>True) λ|[.int _ S]=>PC S|_=>.any
theorem ajs:b9 aec 71:=aU iO λ_ hp=>da (if2 ..) (afF _)
def abY:RT Empty:=.ret (A (max (-200000) (min S 200000)))
theorem io5:cY cZ (aQ JJ iF u0 amG [A S]) (abY S):=bD
def fp:Int:=max (-200000) (min S 200000)
def TL:V:=A (fp S)
theorem akc:aT cM (abY S) (TL S):=B5 (by unfold TL fp;rfl)
def aaj:aE:=bP L (λ_=>True) λ|[.int _ S]=>TL S|_=>.any
theorem afh:b9 aaj 183:=aU iO λ_ hp=>da (io5 ..) (akc _)
def abd:RT Empty:=.cb (.br (gH 0 S R) (.ret (V.tup [A 0,A (max (E (S*S)) (E (R*R)))])) (.ret (V.tup [A (min (E (S*S)) (E (R*R))),A (max (E (S*S)) (E (R*R)))])))
theorem yaM:cY cZ (aQ JJ iF u0 hag [A S,A R]) (abd S R):=bD
def od:Int:=bif gH 0 S R then 0 else min (E (S*S)) (E (R*R))
def oI:Int:=max (E (S*S)) (E (R*R))
def KC:V:=.tup [A (od S R),A (oI S R)]
theorem aeL:aT cM (abd S R) (KC S R):=ao (ac (C2 (λh0=>B5 (by unfold KC od oI;try rw[h0];rfl)) (λh0=>B5 (by unfold KC od oI;try rw[h0];rfl))))
def ac6:aE:=bP aM (λ_=>True) λ|[.int _ S,.int _ R]=>KC S R|_=>.any
theorem alh:b9 ac6 57:=aU iO λ_ hp=>da (yaM ..) (aeL _ _)
def acU:RT Empty:=.ii (.br (bif decide (S<=0) then decide (0<=R) else false) (.ret (V.tup [A 0,A (max (E (S*S)) (E (R*R)))])) (.ret (V.tup [A (min (E (S*S)) (E (R*R))),A (max (E (S*S)) (E (R*R)))])))
theorem ih9:cY cZ (aQ JJ iF u0 afm [A S,A R]) (acU S R):=bD
def jL:Int:=bif bif decide (S<=0) then decide (0<=R) else false then 0 else min (E (S*S)) (E (R*R))
def jJ:Int:=max (E (S*S)) (E (R*R))
def JA:V:=.tup [A (jL S R),A (jJ S R)]
theorem amv:aT cM (acU S R) (JA S R):=B1 (B1 (C2 (λh0=>B5 (by unfold JA jL jJ;try rw[h0];rfl)) (λh0=>B5 (by unfold JA jL jJ;try rw[h0];rfl))))
def abq:aE:=bP aM (λ_=>True) λ|[.int _ S,.int _ R]=>JA S R|_=>.any
theorem air:b9 abq 37:=aU iO λ_ hp=>da (ih9 ..) (amv _ _)
def adw:RT Empty:=.cb (.ret (V.bool (bF S (-100000) 100000)))
theorem yaq:cY cZ (aQ JJ iF u0 aj9 [A S]) (adw S):=bD
def fx:Bool:=bF S (-100000) 100000
def Qr:V:=.bool (fx S)
theorem akm:aT cM (adw S) (Qr S):=ao (ac (B5 (by unfold Qr fx;rfl)))
def aap:aE:=bP L (λ_=>True) λ|[.int _ S]=>Qr S|_=>.any
theorem amn:b9 aap 35:=aU iO λ_ hp=>da (yaq ..) (akm _)
def adB:RT Empty:=.cb (.ret (V.bool !gH S (-100000) 100000))
theorem vwW:cY cZ (aQ JJ iF u0 eqB [A S]) (adB S):=bD
def oo:Bool:=!gH S (-100000) 100000
def S5:V:=.bool (oo S)
theorem akB:aT cM (adB S) (S5 S):=ao (ac (B5 (by unfold S5 oo;rfl)))
def abK:aE:=bP L (λ_=>True) λ|[.int _ S]=>S5 S|_=>.any
theorem akQ:b9 abK 53:=aU iO λ_ hp=>da (vwW ..) (akB _)
inductive vv where|L0 (_ _:Int)
def nn7:vv->bS×List Ax×Option Ex
 |.L0 Pt Qf=>([(4,A Pt),(3,A Qf),(0,V.sl H (D L G))],[],none)
def ah1:vv->JJ
 |.L0 ..=>(0,[])
def hap:Bh (cq JJ):=aQ JJ iF u0 afR [V.sl H (D L G)]
def R50 (cx:List Cx):Lp JJ:=eX (eJ (hap H G) [false])
def ah8:JJ->Lp JJ
 |(0,cx)=>R50 H G cx|(_,cx)=>R50 H G cx
def aum:LD JJ vv:=⟨ah1,ah8 H G,nn7 H G⟩
def M0:vv->RT vv
 |.L0 Pt Qf=>.am H (.br (decide (Pt<(H:Int))) (.ob (dI Pt H) (.next [] (vv.L0 (E (Pt+1)) (max Qf (av (G Pt.toNat)))) [])) (.ret (A Qf)))
def Qs:RT vv:=.am H (.br (decide ((H:Int)<1)) (.fail) (.ob (decide ((0:Int)<=0/\0<(H:Int))) (.enter [] (vv.L0 1 (av (G 0))) [])))
theorem im1:dZ iF u0 (aum H G) (hap H G) (Qs H G) (M0 H G):=⟨bD,λs=>by cases s<;>exact bD⟩
def Br (p:Nat->Int) (z:Int):Nat->Int
 |0=>z|k+1=>max (Br p z k) (p k)
def fX:Int:=Br (λi=>av (G i)) (av (G 0)) H
theorem hzv (hp:1<=H):aT (Ev (M0 H G)) (Qs H G) (A (fX H G)):=by
 refine bC λhn=>cW (eQ K) (aF (BX K) (aH ?_));have key:=dB (n:=H) (P:=λi=>1<=i->Ev (M0 H G) (.L0 i (Br (λi=>av (G i)) (av (G 0)) i)) (A (fX H G))) λi hi ih M=>by
  refine Ev.of rfl (D3 λ_=>C2 (λh=>?_) (λh=>B5 ?_))
  ·have Q7:i<H:=by have:=DU h;omega
   refine cX Q7 (aL ?_);rw[kE Q7 hn];exact ih Q7 K
  ·have:i=H:=by have:=Dp h;omega
   subst this;rfl
 have:=key 1 hp (D7 _);rwa [show Br (λi=>av (G i)) (av (G 0)) 1=av (G 0) from Int.max_self _]at this
theorem ahR (hp:1<=H):aT (Ev (M0 H G)) (Qs H G) (A (fX H (D L G))):=hzv H G hp
def abP:aE:=bP [.sl L] (λ
 |[.sl H G]=>1<=H|_=>False) λ
 |[.sl H G]=>A (fX H G)|_=>.any
theorem fc9:b9 abP 70:=aU iO λ_ hp=>kr (im1 ..) (ahR _ _ hp)
inductive qV where|L0 (_ _:Int)|L1 (_ _ _:Int)
def auL:qV->bS×List Ax×Option Ex
 |.L0 Pt Qf=>([(4,A Pt),(3,A Qf),(1,V.pl 0 0)],[Ax.cells [V.str s0,V.sl n1 (D L f1),V.sl n3 (D L f3),V.sl n5 (D [Ty.sl L] q),A Z,A Y] 88],none)|.L1 QV Qz Vp=>([(5,A QV),(4,A Qz),(3,A Vp),(1,V.pl 0 0)],[Ax.cells [V.str s0,V.sl n1 (D L f1),V.sl n3 (D L f3),V.sl n5 (D [Ty.sl L] q),A Z,A Y] 88],none)
def ajB:qV->JJ
 |.L0 ..=>(0,[])|.L1 ..=>(1,[])
def hc':Bh (cq JJ):=aQ JJ iF u0 agK [V.agg [V.str s0,V.sl n1 (D L f1),V.sl n3 (D L f3),V.sl n5 (D [Ty.sl L] q),A Z,A Y]]
def xc (cx:List Cx):Lp JJ:=eX (eJ (hc' s0 n1 f1 n3 f3 n5 q Z Y) [])
def hsi (cx:List Cx):Lp JJ:=eX (eJ (oV iF u0 (0,[]) (xc s0 n1 f1 n3 f3 n5 q Z Y []) (auL s0 n1 f1 n3 f3 n5 q Z Y (.L0 (0:Int) (0:Int)))) [true])
def akY:JJ->Lp JJ
 |(0,cx)=>xc s0 n1 f1 n3 f3 n5 q Z Y cx|(1,cx)=>hsi s0 n1 f1 n3 f3 n5 q Z Y cx|(_,cx)=>xc s0 n1 f1 n3 f3 n5 q Z Y cx
def atP:LD JJ qV:=⟨ajB,akY s0 n1 f1 n3 f3 n5 q Z Y,auL s0 n1 f1 n3 f3 n5 q Z Y⟩
def rG (s0:ByteArray) (n1:Nat) (f1:be) (n3:Nat) (f3:be) (n5:Nat) (q:be) (Z Y:Int):qV->RT qV
 |.L0 Pt Qf=>.am n5 (.br (decide (Pt<(n5:Int))) (.enter DX (qV.L1 0 Pt Qf) []) (.ret (A Qf)))|.L1 QV Qz Vp=>.ob (dI Qz n5) (.asm (true=true->aB (aA (q Qz.toNat))<=9223372036854775807) (.br (decide (QV<(↑(aB (aA (q Qz.toNat))):Int))) (.ob (dI Qz n5) (.ob (decide (0<=QV/\QV<(↑(aB (aA (q Qz.toNat))):Int))) (.next DX (qV.L1 (E (QV+1)) Qz (max Vp (av (bL (aA (q Qz.toNat)) QV.toNat)))) []))) (.next DX (qV.L0 (E (Qz+1)) Vp) [])))
def O5:RT qV:=dm (s0,n1,f1,n3,f3,n5,q,Y) (.enter DX (qV.L0 0 Z) [])
theorem is5:dZ iF u0 (atP s0 n1 f1 n3 f3 n5 q Z Y) (hc' s0 n1 f1 n3 f3 n5 q Z Y) (O5 s0 n1 f1 n3 f3 n5 q Z Y) (rG s0 n1 f1 n3 f3 n5 q Z Y):=⟨bD,λs=>by cases s<;>exact bD⟩
def grL (l:Nat->Nat) (v:Nat->Nat->Int) (z:Int):Nat->Int
 |0=>z|k+1=>Br (v k) (grL l v z k) (l k)
abbrev Io (z:Int) (k:Nat):Int:=grL (λi=>aB (aA (q i))) (λi j=>av (bL (aA (q i)) j)) z k
def rh:Int:=Io q Z n5
theorem twL (hn:n5<=9223372036854775807) (i:Nat) (hi:i<n5) (r:V) (hx:Ev (rG s0 n1 f1 n3 f3 n5 q Z Y) (.L0 (E ((i:Int)+1)) (Io q Z (i+1))) r):Ev (rG s0 n1 f1 n3 f3 n5 q Z Y) (.L1 0 i (Io q Z i)) r:=by
 by_cases h5:aB (aA (q i))<=9223372036854775807
 ·refine EL h5 (P:=λx=>Ev (rG s0 n1 f1 n3 f3 n5 q Z Y) (.L1 x i (Br (λj=>av (bL (aA (q i)) j)) (Io q Z i) x.toNat)) r) (λj Q7 nx=>?_) (Ev.of rfl (cX hi (D3 λ_=>dl (aL ?_))))
  ·rw[show(E ((j:Int)+1)).toNat=j+1 by rw[kE Q7 h5];rfl]at nx;exact Ev.of rfl (cX hi (D3 λ_=>dt Q7 (cX hi (cX Q7 (aL nx)))))
  ·exact hx
 ·exact Ev.of rfl (cX hi (D3 λh=>absurd (h rfl) h5))
theorem hys:aT (Ev (rG s0 n1 f1 n3 f3 n5 q Z Y)) (O5 s0 n1 f1 n3 f3 n5 q Z Y) (A (rh n5 q Z)):=by
 refine aH ?_;by_cases hn:n5<=9223372036854775807
 ·refine EL hn (P:=λx=>Ev (rG s0 n1 f1 n3 f3 n5 q Z Y) (.L0 x (Io q Z x.toNat)) (A (rh n5 q Z))) (λi Q7 nx=>?_) (Ev.of rfl (D3 λ_=>dl (B5 rfl)));rw[show(E ((i:Int)+1)).toNat=i+1 by rw[kE Q7 hn];rfl]at nx;exact Ev.of rfl (D3 λ_=>dt Q7 (aH (twL s0 n1 f1 n3 f3 n5 q Z Y hn i Q7 _ nx)))
 ·exact Ev.of rfl (D3 λh=>absurd (h rfl) hn)
theorem ahc:aT (Ev (rG s0 n1 f1 n3 f3 n5 q Z Y)) (O5 s0 n1 f1 n3 f3 n5 q Z Y) (A (rh n5 (D [.sl L] q) Z)):=hys s0 n1 f1 n3 f3 n5 q Z Y
def aaY:aE:=bP [.agg ap] (λ_=>True) λ|[.agg [.str s0,.sl n1 f1,.sl n3 f3,.sl n5 q,.int _ Z,.int _ Y]]=>A (rh n5 q Z)|_=>.any
theorem agJ:b9 aaY 108:=aU iO λ_ hp=>kr (is5 ..) (ahc _ _ _ _ _ _ _ _ _)
inductive sR where|L0 (_ _:Int)
def no2:sR->bS×List Ax×Option Ex
 |.L0 Pt Qf=>([(4,A Pt),(3,A Qf),(0,A S)],[],none)
def alw:sR->JJ
 |.L0 ..=>(0,[])
def f11:Bh (cq JJ):=aQ JJ iF u0 axI [A S]
def SUn (cx:List Cx):Lp JJ:=eX (eJ (f11 S) [])
def ajm:JJ->Lp JJ
 |(0,cx)=>SUn S cx|(_,cx)=>SUn S cx
def atK:LD JJ sR:=⟨alw,ajm S,no2 S⟩
def B9:sR->RT sR
 |.L0 Pt Qf=>.br (decide (0<Pt)) (.br (decide (E (E (Qf+Pt)*E (Qf+Pt))<=S)) (.obt (.next [] (sR.L0 (E (Pt.tdiv 2)) (E (Qf+Pt))) [])) (.obt (.next [] (sR.L0 (E (Pt.tdiv 2)) Qf) []))) (.ret (A Qf))
def aa3:RT sR:=dm S (.enter [] (sR.L0 1073741824 0) [])
theorem yaP:dZ iF u0 (atK S) (f11 S) (aa3 S) (B9 S):=⟨bD,λs=>by cases s<;>exact bD⟩
def fZ:Nat->Nat
 |0=>0|n+1=>bif Nat.ble ((fZ n+1)*(fZ n+1)) (n+1) then fZ n+1 else fZ n
theorem qO:∀ n,fZ n*fZ n<=n/\n<(fZ n+1)*(fZ n+1)
 |0=>⟨D7 _,aR⟩
 |n+1=>by
   obtain⟨M,N⟩:=qO n;unfold fZ;cases hb:Nat.ble ((fZ n+1)*(fZ n+1)) (n+1) with
   |true=>
     have:=Dc hb;refine⟨this,?_⟩;have e:(fZ n+1+1)*(fZ n+1+1)=(fZ n+1)*(fZ n+1)+2*(fZ n+1)+1:=by grind
     show n+1<(fZ n+1+1)*(fZ n+1+1);omega
   |false=>
     have h3:¬(fZ n+1)*(fZ n+1)<=n+1:=λh=>by rw[Ey h]at hb;cases hb
     exact⟨by show fZ n*fZ n<=n+1;omega,by show n+1<(fZ n+1)*(fZ n+1);omega⟩
theorem arN {n r:Nat} (M:r*r<=n) (N:n<(r+1)*(r+1)):fZ n=r:=by
 obtain⟨g1,g2⟩:=qO n;have a:¬fZ n<r:=λh=>by have:=GL (show fZ n+1<=r from h) (show fZ n+1<=r from h);omega
 have c:¬r<fZ n:=λh=>by have:=GL (show r+1<=fZ n from h) (show r+1<=fZ n from h);omega
 omega
def iza20 (x:Int):Int:=(fZ x.toNat:Int)
def mf:Nat:=(min S 4611686018427387903).toNat
def eb:Int:=(fZ (mf S):Int)
theorem aa7 {x:Int} {m:Nat} (M:1<=m) (hm:m<=2147483647):decide (E (E (m:Int)*E (m:Int))<=x)=decide (m*m<=mf x):=by
 have b:m*m<=2147483647*2147483647:=GL hm hm;have b1:1<=m*m:=GL M M;rw[C8 (x:=(m:Int)) K K,show(m:Int)*(m:Int)=((m*m:Nat):Int) from(Int.natCast_mul m m).symm];generalize m*m=Pw at *
 rw[C8 K K];unfold mf;exact decide_eq_decide.2 K
theorem aoH:∀ k:Nat,k<=30->∀ r:Nat,r*r<=mf S->mf S<(r+2 ^ (k+1))*(r+2 ^ (k+1))->r+2 ^ (k+1)<=2147483648->Ev (B9 S) (.L0 ((2 ^ k:Nat):Int) (r:Int)) (A (eb S)):=by
 intro k;induction k with
 |zero=>
   intro _ r M N h3;have VB:r+2<=2147483648:=h3;have h2':mf S<(r+2)*(r+2):=N;have fin:∀ Pw:Nat,Pw*Pw<=mf S->mf S<(Pw+1)*(Pw+1)->Ev (B9 S) (.L0 (E (((1:Nat):Int).tdiv 2)) (Pw:Int)) (A (eb S)):=λPw g1 g2=>
    Ev.of rfl (cW rfl (B5 (by unfold eb;rw[arN g1 g2])))
   have hs:=aa7 (x:=S) (m:=r+1) K K;have e1:(r:Int)+((1:Nat):Int)=((r+1:Nat):Int):=by omega
   refine Ev.of rfl (cP aR (C2 (λh=>ac (aL ?_)) (λh=>ac (aL ?_))))
   ·have h':decide ((r+1)*(r+1)<=mf S)=true:=by rw[← hs,← e1];exact h
    have:=fin (r+1) (DU h') h2';rw[show E ((r:Int)+((2 ^ 0:Nat):Int))=((r+1:Nat):Int) from by rw[C8 K K];rfl];exact this
   ·have h':decide ((r+1)*(r+1)<=mf S)=false:=by rw[← hs,← e1];exact h
    exact fin r M (Nat.lt_of_not_le (Dp h'))
 |succ k ih=>
   intro hk r M N h3;have p1:2 ^ (k+1+1)=2*2 ^ (k+1):=by rw[Nat.pow_succ];omega
   have p0:1<=2 ^ (k+1):=Nat.one_le_two_pow;have p2:2 ^ (k+1)=2*2 ^ k:=by rw[Nat.pow_succ];omega
   have hs:=aa7 (x:=S) (m:=r+2 ^ (k+1)) K K;have e1:(r:Int)+((2 ^ (k+1):Nat):Int)=((r+2 ^ (k+1):Nat):Int):=by omega
   have e2:E (((2 ^ (k+1):Nat):Int).tdiv 2)=((2 ^ k:Nat):Int):=by rw[p2,show((2*2 ^ k:Nat):Int).tdiv 2=((2 ^ k:Nat):Int) by rw[IV K];omega];exact C8 K K
   have e3:E ((r:Int)+((2 ^ (k+1):Nat):Int))=((r+2 ^ (k+1):Nat):Int):=by rw[C8 K K];exact e1
   refine Ev.of rfl (cP (BX K) (C2 (λh=>ac (aL ?_)) (λh=>ac (aL ?_))))
   ·have h':decide ((r+2 ^ (k+1))*(r+2 ^ (k+1))<=mf S)=true:=by rw[← hs,← e1];exact h
    rw[e2,e3];exact ih K (r+2 ^ (k+1)) (DU h') (by rw[show r+2 ^ (k+1)+2 ^ (k+1)=r+2 ^ (k+1+1) by omega];exact N) K
   ·have h':decide ((r+2 ^ (k+1))*(r+2 ^ (k+1))<=mf S)=false:=by rw[← hs,← e1];exact h
    rw[e2];exact ih K r M (Nat.lt_of_not_le (Dp h')) K
theorem agZ:aT (Ev (B9 S)) (aa3 S) (A (eb S)):=aH (aoH S 30 (D7 _) 0 (Da _) (by unfold mf;show _<4611686018427387904;omega) aR)
def ac9:aE:=bP L (λ_=>True) λ|[.int _ S]=>A (eb S)|_=>.any
theorem amN:b9 ac9 32:=aU iO λ_ hp=>kr (yaP ..) (agZ _)
inductive tP where|L0 (_ _:Int)
def nx3:tP->bS×List Ax×Option Ex
 |.L0 Pt Qf=>([(4,A Pt),(3,A Qf),(0,A S)],[],none)
def amb:tP->JJ
 |.L0 ..=>(0,[])
def hb0:Bh (cq JJ):=aQ JJ iF u0 afe [A S]
def R93 (cx:List Cx):Lp JJ:=eX (eJ (hb0 S) [])
def amm:JJ->Lp JJ
 |(0,cx)=>R93 S cx|(_,cx)=>R93 S cx
def atd:LD JJ tP:=⟨amb,amm S,nx3 S⟩
def GX:tP->RT tP
 |.L0 Pt Qf=>.br (decide (1<E (Pt-Qf))) (.obt (.br (decide (E (E ((E (Qf+Pt)).tdiv 2)*E ((E (Qf+Pt)).tdiv 2))<=S)) (.next [] (tP.L0 Pt (E ((E (Qf+Pt)).tdiv 2))) []) (.next [] (tP.L0 (E ((E (Qf+Pt)).tdiv 2)) Qf) []))) (.ret (A Qf))
def hdd:RT tP:=dm S (.enter [] (tP.L0 2000000000 0) [])
theorem wil:dZ iF u0 (atd S) (hb0 S) (hdd S) (GX S):=⟨bD,λs=>by cases s<;>exact bD⟩
def oX:Nat:=(min S 3999999999999999999).toNat
def dL:Int:=(fZ (oX S):Int)
theorem ie8 {x:Int} {m:Nat} (M:1<=m) (hm:m<2000000000):decide (E ((m:Int)*(m:Int))<=x)=decide (m*m<=oX x):=by
 have b:m*m<=1999999999*1999999999:=GL K K;have b1:1<=m*m:=GL M M;rw[show(m:Int)*(m:Int)=((m*m:Nat):Int) from(Int.natCast_mul m m).symm];generalize m*m=Pw at *
 rw[C8 K K];unfold oX;exact decide_eq_decide.2 K
theorem arD:∀ d lo hi:Nat,hi-lo<=d->lo<hi->hi<=2000000000->lo*lo<=oX S->oX S<hi*hi->Ev (GX S) (.L0 (hi:Int) (lo:Int)) (A (dL S)):=by
 intro d;induction d with
 |zero=>intro lo hi M N;omega
 |succ d ih=>
   intro lo hi M N h3 h4 h5;refine Ev.of rfl (C2 (λh=>ac ?_) (λh=>B5 ?_))
   ·have hd:1<hi-lo:=by have:=DU h;rw[C8 K K]at this;omega
    have ybg:E ((E ((lo:Int)+(hi:Int))).tdiv 2)=(((lo+hi) / 2:Nat):Int):=by rw[C8 (x:=(lo:Int)+(hi:Int)) K K,IV K,C8 K K];omega
    rw[ybg];have hs:=ie8 (x:=S) (m:=(lo+hi) / 2) K K;refine C2 (λh=>aL ?_) (λh=>aL ?_)
    ·rw[hs]at h;exact ih _ _ K K h3 (DU h) h5
    ·rw[hs]at h;exact ih _ _ K K K h4 (Nat.lt_of_not_le (Dp h))
   ·have hd:hi=lo+1:=by have:=Dp h;rw[C8 K K]at this;omega
    subst hd;unfold dL;rw[arN h4 h5]
theorem aeN:aT (Ev (GX S)) (hdd S) (A (dL S)):=aH (arD S 2000000000 0 2000000000 K K (D7 _) (Da _) (by unfold oX;show _<4000000000000000000;omega))
def abm:aE:=bP L (λ_=>True) λ|[.int _ S]=>A (dL S)|_=>.any
theorem ajf:b9 abm 42:=aU iO λ_ hp=>kr (wil ..) (aeN _)
def ra:bm:=(73,.con abL)::(72,.con aah)::(67,.con acg)::(71,.con aec)::(183,.con aaj)::(57,.con ac6)::(37,.con abq)::(35,.con aap)::(53,.con abK)::(70,.con abP)::(108,.con aaY)::(32,.con ac9)::(42,.con abm)::iF
theorem uU:aZ Tryz.prog Bs C3 ra:=.con agp (.con aiw (.con ajP (.con ajs (.con afh (.con alh (.con air (.con amn (.con akQ (.con fc9 (.con agJ (.con amN (.con ajf (iO)))))))))))))
def abG:RT Empty:=.cb (.br (decide (E (eb S*eb S)<S)) (.ret (A (E (eb S+1)))) (.ret (A (eb S))))
theorem jf9:cY cZ (aQ JJ ra u0 dwL [A S]) (abG S):=bD
def dG:Int:=bif decide (E (eb S*eb S)<S) then E (eb S+1) else eb S
def J7:V:=A (dG S)
theorem aeo:aT cM (abG S) (J7 S):=ao (ac (C2 (λh0=>B5 (by unfold J7 dG;try rw[h0];rfl)) (λh0=>B5 (by unfold J7 dG;try rw[h0];rfl))))
def adp:aE:=bP L (λ_=>True) λ|[.int _ S]=>J7 S|_=>.any
theorem ahs:b9 adp 30:=aU uU λ_ hp=>da (jf9 ..) (aeo _)
def adt:RT Empty:=.cb (.br (decide (E (dL S*dL S)<S)) (.ret (A (E (dL S+1)))) (.ret (A (dL S))))
theorem smC:cY cZ (aQ JJ ra u0 agc [A S]) (adt S):=bD
def E9:Int:=bif decide (E (dL S*dL S)<S) then E (dL S+1) else dL S
def JB:V:=A (E9 S)
theorem aeY:aT cM (adt S) (JB S):=ao (ac (C2 (λh0=>B5 (by unfold JB E9;try rw[h0];rfl)) (λh0=>B5 (by unfold JB E9;try rw[h0];rfl))))
def aaQ:aE:=bP L (λ_=>True) λ|[.int _ S]=>JB S|_=>.any
theorem ai6:b9 aaQ 40:=aU uU λ_ hp=>da (smC ..) (aeY _)
inductive vQ where|L0 (_:Int)
def x21:vQ->bS×List Ax×Option Ex
 |.L0 Pt=>([(8,A Pt),(7,A (H:Int)),(6,V.sl H (D L G)),(4,A 0),(0,V.sl H (D L G)),(1,V.fn 53 [] [])],[],none)
def agN:vQ->JJ
 |.L0 _=>(0,[])
def fu4:Bh (cq JJ):=aQ JJ ra u0 IS [V.sl H (D L G),V.fn 53 [] []]
def R79 (cx:List Cx):Lp JJ:=eX (eJ (fu4 H G) [])
def amH:JJ->Lp JJ
 |(0,cx)=>R79 H G cx|(_,cx)=>R79 H G cx
def atM:LD JJ vQ:=⟨agN,amH H G,x21 H G⟩
def Fu:vQ->RT vQ
 |.L0 Pt=>.br (decide (Pt<(H:Int))) (.ob (dI Pt H) (.cb (.br (oo (av (G Pt.toNat))) (.ret (A Pt)) (.next [] (vQ.L0 (E (Pt+1))) [])))) (.ret (A (-1)))
def Pj:RT vQ:=dm G (.am H (.enter [] (vQ.L0 0) []))
theorem rkB:dZ ra u0 (atM H G) (fu4 H G) (Pj H G) (Fu H G):=⟨bD,λs=>by cases s<;>exact bD⟩
def Eb:Int  :=zG H λii=>oo (av (G ii))
theorem hs2:aT (Ev (Fu H G)) (Pj H G) (A (Eb H G)):=bC λhn=>aH (pQ hn λi=>rfl)
theorem af4:aT (Ev (Fu H G)) (Pj H G) (A (Eb H (D L G))):=hs2 H G
def acN:aE:=bP [.sl L,.fn 53 [] []] (λ_=>True) λ|[.sl H G,.fn _ [] []]=>A (Eb H G)|_=>.any
theorem ah0:b9 acN 92:=aU uU λ_ hp=>kr (rkB ..) (af4 _ _)
inductive vE where|L0 (_ _:Int)
def yaF:vE->bS×List Ax×Option Ex
 |.L0 Pt Qf=>([(4,A Pt),(3,A Qf),(0,V.sl H (D L G))],[],none)
def aeU:vE->JJ
 |.L0 ..=>(0,[])
def azm:Bh (cq JJ):=aQ JJ ra u0 ah5 [V.sl H (D L G)]
def aaC (cx:List Cx):Lp JJ:=eX (eJ (azm H G) [false])
def aeZ:JJ->Lp JJ
 |(0,cx)=>aaC H G cx|(_,cx)=>aaC H G cx
def asr:LD JJ vE:=⟨aeU,aeZ H G,yaF H G⟩
def Ly:vE->RT vE
 |.L0 Pt Qf=>.am H (.br (decide (Pt<(H:Int))) (.ob (dI Pt H) (.next [] (vE.L0 (E (Pt+1)) (min Qf (av (G Pt.toNat)))) [])) (.ret (A Qf)))
def Tf:RT vE:=.am H (.br (decide ((H:Int)<1)) (.fail) (.ob (decide ((0:Int)<=0/\0<(H:Int))) (.enter [] (vE.L0 1 (av (G 0))) [])))
theorem u60:dZ ra u0 (asr H G) (azm H G) (Tf H G) (Ly H G):=⟨bD,λs=>by cases s<;>exact bD⟩
def IE (p:Nat->Int) (z:Int):Nat->Int
 |0=>z|k+1=>min (IE p z k) (p k)
def gZ:Int:=IE (λi=>av (G i)) (av (G 0)) H
theorem hs0 (hp:1<=H):aT (Ev (Ly H G)) (Tf H G) (A (gZ H G)):=by
 refine bC λhn=>cW (eQ K) (aF (BX K) (aH ?_));have key:=dB (n:=H) (P:=λi=>1<=i->Ev (Ly H G) (.L0 i (IE (λi=>av (G i)) (av (G 0)) i)) (A (gZ H G))) λi hi ih M=>by
  refine Ev.of rfl (D3 λ_=>C2 (λh=>?_) (λh=>B5 ?_))
  ·have Q7:i<H:=by have:=DU h;omega
   refine cX Q7 (aL ?_);rw[kE Q7 hn];exact ih Q7 K
  ·have:i=H:=by have:=Dp h;omega
   subst this;rfl
 have:=key 1 hp (D7 _);rwa [show IE (λi=>av (G i)) (av (G 0)) 1=av (G 0) from Int.min_self _]at this
theorem ak1 (hp:1<=H):aT (Ev (Ly H G)) (Tf H G) (A (gZ H (D L G))):=hs0 H G hp
def abb:aE:=bP [.sl L] (λ
 |[.sl H G]=>1<=H|_=>False) λ
 |[.sl H G]=>A (gZ H G)|_=>.any
theorem fu9:b9 abb 69:=aU uU λ_ hp=>kr (u60 ..) (ak1 _ _ hp)
inductive vT where|L0 (_ _:Int)
def jcl (s0:ByteArray) (n1:Nat) (f1:be) (n3:Nat) (f3:be) (n5:Nat) (q:be) (Z Y:Int):vT->bS×List Ax×Option Ex
 |.L0 Pt Qf=>([(11,A Pt),(10,A (n5:Int)),(9,V.sl n5 (D [Ty.sl L] q)),(3,A Qf)],[],none)
def amQ:vT->JJ
 |.L0 ..=>(0,[])
def azy:Bh (cq JJ):=aQ JJ ra u0 aim [V.agg [V.str s0,V.sl n1 (D L f1),V.sl n3 (D L f3),V.sl n5 (D [Ty.sl L] q),A Z,A Y]]
def ac5 (cx:List Cx):Lp JJ:=eX (eJ (azy s0 n1 f1 n3 f3 n5 q Z Y) [])
def aiB:JJ->Lp JJ
 |(0,cx)=>ac5 s0 n1 f1 n3 f3 n5 q Z Y cx|(_,cx)=>ac5 s0 n1 f1 n3 f3 n5 q Z Y cx
def aox:LD JJ vT:=⟨amQ,aiB s0 n1 f1 n3 f3 n5 q Z Y,jcl s0 n1 f1 n3 f3 n5 q Z Y⟩
def Ck (s0:ByteArray) (n1:Nat) (f1:be) (n3:Nat) (f3:be) (n5:Nat) (q:be) (Z Y:Int):vT->RT vT
 |.L0 Pt Qf=>.br (decide (Pt<(n5:Int))) (.ob (dI Pt n5) (.obp ((1:Nat)<=aB (aA (q Pt.toNat))) (.obt (.next [] (vT.L0 (E (Pt+1)) (max Qf (fX (aB (aA (q Pt.toNat))) λi=>al L (bL (aA (q Pt.toNat)) i)))) [])))) (.ret (A Qf))
def RN:RT vT:=dm (s0,n1,f1,n3,f3,q,Y) (.am n5 (.enter [] (vT.L0 0 Z) []))
theorem u57:dZ ra u0 (aox s0 n1 f1 n3 f3 n5 q Z Y) (azy s0 n1 f1 n3 f3 n5 q Z Y) (RN s0 n1 f1 n3 f3 n5 q Z Y) (Ck s0 n1 f1 n3 f3 n5 q Z Y):=⟨bD,λs=>by cases s<;>exact bD⟩
def Dw (i:Nat):Int:=fX (aB (aA (q i))) λj=>al L (bL (aA (q i)) j)
def sA:Int:=Br (λi=>Dw q i) Z n5
theorem hus (hp:∀i,i<n5->1<=aB (aA (q i))):aT (Ev (Ck s0 n1 f1 n3 f3 n5 q Z Y)) (RN s0 n1 f1 n3 f3 n5 q Z Y) (A (sA n5 q Z)):=by refine bC λhn=>aH (EL hn (P:=λx=>Ev (Ck s0 n1 f1 n3 f3 n5 q Z Y) (.L0 x (Br (λi=>Dw q i) Z x.toNat)) (A (sA n5 q Z))) (λi Q7 nx=>?_) (Ev.of rfl (dl (B5 rfl))));rw[show(E ((i:Int)+1)).toNat=i+1 by rw[kE Q7 hn];rfl]at nx;exact Ev.of rfl (dt Q7 (cX Q7 (aI (hp i Q7) (ac (aL nx)))))
theorem alR (hp:∀i,i<n5->1<=aB (aA ((D [.sl L] q) i))):aT (Ev (Ck s0 n1 f1 n3 f3 n5 q Z Y)) (RN s0 n1 f1 n3 f3 n5 q Z Y) (A (sA n5 (D [.sl L] q) Z)):=hus s0 n1 f1 n3 f3 n5 q Z Y hp
def adR:aE:=bP [.agg ap] (λ
 |[.agg [.str s0,.sl n1 f1,.sl n3 f3,.sl n5 q,.int _ Z,.int _ Y]]=>∀i,i<n5->1<=aB (aA (q i))|_=>False) λ
 |[.agg [.str s0,.sl n1 f1,.sl n3 f3,.sl n5 q,.int _ Z,.int _ Y]]=>A (sA n5 q Z)|_=>.any
theorem aiK:b9 adR 51:=aU uU λ_ hp=>kr (u57 ..) (alR _ _ _ _ _ _ _ _ _ hp)
def Qt:bm:=(30,.con adp)::(40,.con aaQ)::(92,.con acN)::(69,.con abb)::(51,.con adR)::ra
theorem f15:aZ Tryz.prog Bs C3 Qt:=.con ahs (.con ai6 (.con ah0 (.con fu9 (.con aiK (uU)))))
def PX:l8:=λ_=>5
def ath:RT Empty:=.cb (.ret (V.bool (decide (0<=Eb H (D L G)))))
theorem aiJ:cY cZ (aQ JJ Qt u0 ZA [V.sl H (D L G),V.fn 53 [] []]) (ath H G):=bD
def Lw:Bool:=decide (0<=Eb H (D L G))
def Np:V:=.bool (Lw H G)
theorem asu:aT cM (ath H G) (Np H G):=ao (ac (B5 (by unfold Np Lw;rfl)))
def arq:aE:=bP [.sl L,.fn 53 [] []] (λ_=>True) λ|[.sl H G,.fn _ [] []]=>Np H G|_=>.any
theorem aqY:b9 arq 52:=aU f15 λ_ hp=>da (aiJ ..) (asu _ _)
def DV:bm:=(52,.con arq)::Qt
theorem GQ:aZ Tryz.prog Bs C3 DV:=.con aqY (f15)
def aaP:RT Empty:=.cb (.ret (V.bool !Lw H (D L G)))
theorem im9:cY cZ (aQ JJ DV u0 axN [V.sl H (D L G)]) (aaP H G):=bD
def tJ:Bool:=!Lw H (D L G)
def Po:V:=.bool (tJ H G)
theorem af0:aT cM (aaP H G) (Po H G):=ao (ac (B5 (by unfold Po tJ;rfl)))
def abJ:aE:=bP [.sl L] (λ_=>True) λ|[.sl H G]=>Po H G|_=>.any
theorem agb:b9 abJ 24:=aU GQ λ_ hp=>da (im9 ..) (af0 _ _)
inductive vp where|L0 (_ _ _:Int)
def x26:vp->bS×List Ax×Option Ex
 |.L0 Pt Qf RL=>([(8,A Pt),(7,A Qf),(6,A RL),(0,V.sl H (D L G)),(1,A W)],[],none)
def aic:vp->JJ
 |.L0 ..=>(0,[])
def hc0:Bh (cq JJ):=aQ JJ DV u0 aiA [V.sl H (D L G),A W]
def R91 (cx:List Cx):Lp JJ:=eX (eJ (hc0 H G W) [])
def akn:JJ->Lp JJ
 |(0,cx)=>R91 H G W cx|(_,cx)=>R91 H G W cx
def aq9:LD JJ vp:=⟨aic,akn H G W,x26 H G W⟩
def Cm:vp->RT vp
 |.L0 Pt Qf RL=>.am H (.br (decide (Pt<(H:Int))) (.ob (dI Pt H) (.ob (dI Pt H) (.next [] (vp.L0 (E (Pt+1)) (max Qf (av (G Pt.toNat))) (min RL (av (G Pt.toNat)))) []))) (.cb (.cb (.obp (nz (E9 (E ((1000000:Int)*W)))) (.obt (.obp (nz (dL (E ((1000000:Int)*W)))) (.obt (.br (decide (RL<0)) (.obp (nz (dL (E ((1000000:Int)*W)))) (.obt (.br (decide (Qf<0)) (.obp (nz (E9 (E ((1000000:Int)*W)))) (.obt (.cb (.cb (.ret (V.tup [A (fp (fm (E (1000*RL)) (dL (E (1000000*W))))),A (fp (gG (E (1000*Qf)) (E9 (E (1000000*W)))))])))))) (.cb (.cb (.ret (V.tup [A (fp (fm (E (1000*RL)) (dL (E (1000000*W))))),A (fp (gG (E (1000*Qf)) (dL (E (1000000*W)))))]))))))) (.br (decide (Qf<0)) (.obp (nz (E9 (E ((1000000:Int)*W)))) (.obt (.cb (.cb (.ret (V.tup [A (fp (fm (E (1000*RL)) (E9 (E (1000000*W))))),A (fp (gG (E (1000*Qf)) (E9 (E (1000000*W)))))])))))) (.cb (.cb (.ret (V.tup [A (fp (fm (E (1000*RL)) (E9 (E (1000000*W))))),A (fp (gG (E (1000*Qf)) (dL (E (1000000*W)))))])))))))))))))
def TS:RT vp:=dm W (.ob (decide ((0:Int)<=0/\0<(H:Int))) (.ob (decide ((0:Int)<=0/\0<(H:Int))) (.enter [] (vp.L0 0 (av (G 0)) (av (G 0))) [])))
theorem np6:dZ DV u0 (aq9 H G W) (hc0 H G W) (TS H G W) (Cm H G W):=⟨bD,λs=>by cases s<;>exact bD⟩
def Iz (m x:Int):Int:=bif decide (m<0) then fp (fm (E (1000*m)) (dL (E (1000000*x)))) else fp (fm (E (1000*m)) (E9 (E (1000000*x))))
def Iy (m x:Int):Int:=bif decide (m<0) then fp (gG (E (1000*m)) (E9 (E (1000000*x)))) else fp (gG (E (1000*m)) (dL (E (1000000*x))))
def IC (i:Nat):Int:=av (G i)
def il:Int:=Iz (IE (IC G) (IC G 0) H) W
def ip:Int:=Iy (Br (IC G) (IC G 0) H) W
def Ke (x:Int):Prop:=(E9 (E (1000000*x))=0->False)/\(dL (E (1000000*x))=0->False)
theorem hps (hp:1<=H/\Ke W):aT (Ev (Cm H G W)) (TS H G W) (.tup [A (il H G W),A (ip H G W)]):=by
 obtain⟨M,N,h3⟩:=hp;refine aF (BX K) (aF (BX K) (aH ?_));have key:=dB (n:=H) (P:=λi=>Ev (Cm H G W) (.L0 i (Br (IC G) (IC G 0) i) (IE (IC G) (IC G 0) i)) (.tup [A (il H G W),A (ip H G W)])) λi hi ih=>by
  refine Ev.of rfl (bC λhn=>C2 (λh=>?_) (λh=>?_))
  ·have Q7:i<H:=by have:=DU h;omega
   refine cX Q7 (cX Q7 (aL ?_));rw[kE Q7 hn];exact ih Q7
  ·have:i=H:=by have:=Dp h;omega
   subst this;refine ao (ac (ao (ac (aI N (ac (aI h3 (ac (C2 (λh0=>?_) (λh0=>?_)))))))))
   ·refine aI h3 (ac (C2 (λM=>?_) (λM=>?_)))
    ·exact aI N (ac (ao (ac (ao (ac (B5 (by unfold il ip Iz Iy;rw[h0,M];rfl)))))))
    ·exact ao (ac (ao (ac (B5 (by unfold il ip Iz Iy;rw[h0,M];rfl)))))
   ·refine C2 (λM=>?_) (λM=>?_)
    ·exact aI N (ac (ao (ac (ao (ac (B5 (by unfold il ip Iz Iy;rw[h0,M];rfl)))))))
    ·exact ao (ac (ao (ac (B5 (by unfold il ip Iz Iy;rw[h0,M];rfl)))))
 exact key 0 (Da _)
theorem aiI (hp:1<=H/\Ke W):aT (Ev (Cm H G W)) (TS H G W) (.tup [A (il H (D L G) W),A (ip H (D L G) W)]):=hps H G W hp
def ac8:aE:=bP [.sl L,tI] (λ
 |[.sl H G,.int _ W]=>1<=H/\Ke W|_=>False) λ
 |[.sl H G,.int _ W]=>.tup [A (il H G W),A (ip H G W)]|_=>.any
theorem ama:b9 ac8 129:=aU GQ λ_ hp=>kr (np6 ..) (aiI _ _ _ hp)
def I2:bm:=(24,.con abJ)::(129,.con ac8)::DV
theorem Gm:aZ Tryz.prog Bs C3 I2:=.con agb (.con ama (GQ))
def axn:RT Empty:=.brt (.obt (.obt (.obt (.cb (.obt (.brt (.obt (.obt (.obt (.cb (.obt (.brt (.obt (.obt (.obt (.cb (.obt (.brt (.obt (.obt (.obt (.cb (.obt (.brf (.obp ((1:Nat)<=(4:Nat)) (.obt (.obp ((1:Nat)<=(4:Nat)) (.obt (.br (decide (gZ 4 (D L (b5 [A (E (1000*aW S R W U)),A (E (1000*aW S R Q x5)),A (E (1000*aW S R x6 Z)),A (E (1000*aW S R Y x9))] 0 1))<0)) (.br (decide (fX 4 (D L (b5 [A (E (1000*aW S R W U)),A (E (1000*aW S R Q x5)),A (E (1000*aW S R x6 Z)),A (E (1000*aW S R Y x9))] 0 1))<0)) (.obp (nz Pr) (.obt (.cb (.obp (nz Ps) (.obt (.cb (.ret (V.tup [A (cz (dO (gZ 4 (D L (b5 [A (E (1000*aW S R W U)),A (E (1000*aW S R Q x5)),A (E (1000*aW S R x6 Z)),A (E (1000*aW S R Y x9))] 0 1))) Pr)),A (cz (eC (fX 4 (D L (b5 [A (E (1000*aW S R W U)),A (E (1000*aW S R Q x5)),A (E (1000*aW S R x6 Z)),A (E (1000*aW S R Y x9))] 0 1))) Ps))])))))))) (.obp (nz Pr) (.obt (.cb (.obp (nz Pr) (.obt (.cb (.ret (V.tup [A (cz (dO (gZ 4 (D L (b5 [A (E (1000*aW S R W U)),A (E (1000*aW S R Q x5)),A (E (1000*aW S R x6 Z)),A (E (1000*aW S R Y x9))] 0 1))) Pr)),A (cz (eC (fX 4 (D L (b5 [A (E (1000*aW S R W U)),A (E (1000*aW S R Q x5)),A (E (1000*aW S R x6 Z)),A (E (1000*aW S R Y x9))] 0 1))) Pr))]))))))))) (.br (decide (fX 4 (D L (b5 [A (E (1000*aW S R W U)),A (E (1000*aW S R Q x5)),A (E (1000*aW S R x6 Z)),A (E (1000*aW S R Y x9))] 0 1))<0)) (.obp (nz Ps) (.obt (.cb (.obp (nz Ps) (.obt (.cb (.ret (V.tup [A (cz (dO (gZ 4 (D L (b5 [A (E (1000*aW S R W U)),A (E (1000*aW S R Q x5)),A (E (1000*aW S R x6 Z)),A (E (1000*aW S R Y x9))] 0 1))) Ps)),A (cz (eC (fX 4 (D L (b5 [A (E (1000*aW S R W U)),A (E (1000*aW S R Q x5)),A (E (1000*aW S R x6 Z)),A (E (1000*aW S R Y x9))] 0 1))) Ps))])))))))) (.obp (nz Ps) (.obt (.cb (.obp (nz Pr) (.obt (.cb (.ret (V.tup [A (cz (dO (gZ 4 (D L (b5 [A (E (1000*aW S R W U)),A (E (1000*aW S R Q x5)),A (E (1000*aW S R x6 Z)),A (E (1000*aW S R Y x9))] 0 1))) Ps)),A (cz (eC (fX 4 (D L (b5 [A (E (1000*aW S R W U)),A (E (1000*aW S R Q x5)),A (E (1000*aW S R x6 Z)),A (E (1000*aW S R Y x9))] 0 1))) Pr))]))))))))))))))))))))))))))))))))))))))
theorem hs1:cY cZ (aQ JJ I2 PX GA [V.fn 72 [V.agg [A S,A R]] [],V.pd [A W,A U,A Q,A x5,A x6,A Z,A Y,A x9],V.pd [A Ps],V.pd [A Pr]]) (axn S R W U Q x5 x6 Z Y x9 Ps Pr):=bD
def jW:Int:=bif decide (gZ 4 (D L (b5 [A (E (1000*aW S R W U)),A (E (1000*aW S R Q x5)),A (E (1000*aW S R x6 Z)),A (E (1000*aW S R Y x9))] 0 1))<0) then cz (dO (gZ 4 (D L (b5 [A (E (1000*aW S R W U)),A (E (1000*aW S R Q x5)),A (E (1000*aW S R x6 Z)),A (E (1000*aW S R Y x9))] 0 1))) Pr) else cz (dO (gZ 4 (D L (b5 [A (E (1000*aW S R W U)),A (E (1000*aW S R Q x5)),A (E (1000*aW S R x6 Z)),A (E (1000*aW S R Y x9))] 0 1))) Ps)
def j6:Int:=bif decide (fX 4 (D L (b5 [A (E (1000*aW S R W U)),A (E (1000*aW S R Q x5)),A (E (1000*aW S R x6 Z)),A (E (1000*aW S R Y x9))] 0 1))<0) then cz (eC (fX 4 (D L (b5 [A (E (1000*aW S R W U)),A (E (1000*aW S R Q x5)),A (E (1000*aW S R x6 Z)),A (E (1000*aW S R Y x9))] 0 1))) Ps) else cz (eC (fX 4 (D L (b5 [A (E (1000*aW S R W U)),A (E (1000*aW S R Q x5)),A (E (1000*aW S R x6 Z)),A (E (1000*aW S R Y x9))] 0 1))) Pr)
def ut:V:=.tup [A (jW S R W U Q x5 x6 Z Y x9 Ps Pr),A (j6 S R W U Q x5 x6 Z Y x9 Ps Pr)]
theorem jcg (hp:(Ps=0->False)/\(Pr=0->False)):aT cM (axn S R W U Q x5 x6 Z Y x9 Ps Pr) (ut S R W U Q x5 x6 Z Y x9 Ps Pr):=ed (ac (ac (ac (ao (ac (ac (ed (ac (ac (ac (ao (ac (ac (ed (ac (ac (ac (ao (ac (ac (ed (ac (ac (ac (ao (ac (ac (gW (aI (by first|assumption|((first|exact hp.1|exact hp.2|decide))) (ac (aI (by first|assumption|((first|exact hp.1|exact hp.2|decide))) (ac (C2 (λh0=>C2 (λM=>aI (by first|assumption|((first|exact hp.1|exact hp.2|decide))) (ac (ao (ac (aI (by first|assumption|((first|exact hp.1|exact hp.2|decide))) (ac (ao (ac (B5 (by unfold ut jW j6;try rw[h0];try rw[M];rfl)))))))))) (λM=>aI (by first|assumption|((first|exact hp.1|exact hp.2|decide))) (ac (ao (ac (aI (by first|assumption|((first|exact hp.1|exact hp.2|decide))) (ac (ao (ac (B5 (by unfold ut jW j6;try rw[h0];try rw[M];rfl))))))))))) (λh0=>C2 (λM=>aI (by first|assumption|((first|exact hp.1|exact hp.2|decide))) (ac (ao (ac (aI (by first|assumption|((first|exact hp.1|exact hp.2|decide))) (ac (ao (ac (B5 (by unfold ut jW j6;try rw[h0];try rw[M];rfl)))))))))) (λM=>aI (by first|assumption|((first|exact hp.1|exact hp.2|decide))) (ac (ao (ac (aI (by first|assumption|((first|exact hp.1|exact hp.2|decide))) (ac (ao (ac (B5 (by unfold ut jW j6;try rw[h0];try rw[M];rfl))))))))))))))))))))))))))))))))))))))))))))
def dvY:aE:=bP [.fn 72 [.agg aM] [],.pd [tI,tI,tI,tI,tI,tI,tI,tI],.pd L,.pd L] (λ
 |[.fn _ [.agg [.int _ S,.int _ R]] [],.pd [.int _ W,.int _ U,.int _ Q,.int _ x5,.int _ x6,.int _ Z,.int _ Y,.int _ x9],.pd [.int _ Ps],.pd [.int _ Pr]]=>(Ps=0->False)/\(Pr=0->False)|_=>False) λ
 |[.fn _ [.agg [.int _ S,.int _ R]] [],.pd [.int _ W,.int _ U,.int _ Q,.int _ x5,.int _ x6,.int _ Z,.int _ Y,.int _ x9],.pd [.int _ Ps],.pd [.int _ Pr]]=>ut S R W U Q x5 x6 Z Y x9 Ps Pr|_=>.any
theorem ig8:b9 dvY 68:=aU Gm λ_ hp=>da (hs1 ..) (jcg _ _ _ _ _ _ _ _ _ _ _ _ hp)
def azx:RT Empty:=.brt (.obt (.obt (.obt (.cb (.obt (.brt (.obt (.obt (.obt (.cb (.obt (.brt (.obt (.obt (.obt (.cb (.obt (.brt (.obt (.obt (.obt (.cb (.obt (.brf (.obp ((1:Nat)<=(4:Nat)) (.obt (.obp ((1:Nat)<=(4:Nat)) (.obt (.br (decide (gZ 4 (D L (b5 [A (E (1000*aX S R W U)),A (E (1000*aX S R Q x5)),A (E (1000*aX S R x6 Z)),A (E (1000*aX S R Y x9))] 0 1))<0)) (.br (decide (fX 4 (D L (b5 [A (E (1000*aX S R W U)),A (E (1000*aX S R Q x5)),A (E (1000*aX S R x6 Z)),A (E (1000*aX S R Y x9))] 0 1))<0)) (.obp (nz Pr) (.obt (.cb (.obp (nz Ps) (.obt (.cb (.ret (V.tup [A (cz (dO (gZ 4 (D L (b5 [A (E (1000*aX S R W U)),A (E (1000*aX S R Q x5)),A (E (1000*aX S R x6 Z)),A (E (1000*aX S R Y x9))] 0 1))) Pr)),A (cz (eC (fX 4 (D L (b5 [A (E (1000*aX S R W U)),A (E (1000*aX S R Q x5)),A (E (1000*aX S R x6 Z)),A (E (1000*aX S R Y x9))] 0 1))) Ps))])))))))) (.obp (nz Pr) (.obt (.cb (.obp (nz Pr) (.obt (.cb (.ret (V.tup [A (cz (dO (gZ 4 (D L (b5 [A (E (1000*aX S R W U)),A (E (1000*aX S R Q x5)),A (E (1000*aX S R x6 Z)),A (E (1000*aX S R Y x9))] 0 1))) Pr)),A (cz (eC (fX 4 (D L (b5 [A (E (1000*aX S R W U)),A (E (1000*aX S R Q x5)),A (E (1000*aX S R x6 Z)),A (E (1000*aX S R Y x9))] 0 1))) Pr))]))))))))) (.br (decide (fX 4 (D L (b5 [A (E (1000*aX S R W U)),A (E (1000*aX S R Q x5)),A (E (1000*aX S R x6 Z)),A (E (1000*aX S R Y x9))] 0 1))<0)) (.obp (nz Ps) (.obt (.cb (.obp (nz Ps) (.obt (.cb (.ret (V.tup [A (cz (dO (gZ 4 (D L (b5 [A (E (1000*aX S R W U)),A (E (1000*aX S R Q x5)),A (E (1000*aX S R x6 Z)),A (E (1000*aX S R Y x9))] 0 1))) Ps)),A (cz (eC (fX 4 (D L (b5 [A (E (1000*aX S R W U)),A (E (1000*aX S R Q x5)),A (E (1000*aX S R x6 Z)),A (E (1000*aX S R Y x9))] 0 1))) Ps))])))))))) (.obp (nz Ps) (.obt (.cb (.obp (nz Pr) (.obt (.cb (.ret (V.tup [A (cz (dO (gZ 4 (D L (b5 [A (E (1000*aX S R W U)),A (E (1000*aX S R Q x5)),A (E (1000*aX S R x6 Z)),A (E (1000*aX S R Y x9))] 0 1))) Ps)),A (cz (eC (fX 4 (D L (b5 [A (E (1000*aX S R W U)),A (E (1000*aX S R Q x5)),A (E (1000*aX S R x6 Z)),A (E (1000*aX S R Y x9))] 0 1))) Pr))]))))))))))))))))))))))))))))))))))))))
theorem hz':cY cZ (aQ JJ I2 PX GA [V.fn 73 [V.agg [A S,A R]] [],V.pd [A W,A U,A Q,A x5,A x6,A Z,A Y,A x9],V.pd [A Ps],V.pd [A Pr]]) (azx S R W U Q x5 x6 Z Y x9 Ps Pr):=bD
def j5:Int:=bif decide (gZ 4 (D L (b5 [A (E (1000*aX S R W U)),A (E (1000*aX S R Q x5)),A (E (1000*aX S R x6 Z)),A (E (1000*aX S R Y x9))] 0 1))<0) then cz (dO (gZ 4 (D L (b5 [A (E (1000*aX S R W U)),A (E (1000*aX S R Q x5)),A (E (1000*aX S R x6 Z)),A (E (1000*aX S R Y x9))] 0 1))) Pr) else cz (dO (gZ 4 (D L (b5 [A (E (1000*aX S R W U)),A (E (1000*aX S R Q x5)),A (E (1000*aX S R x6 Z)),A (E (1000*aX S R Y x9))] 0 1))) Ps)
def ke:Int:=bif decide (fX 4 (D L (b5 [A (E (1000*aX S R W U)),A (E (1000*aX S R Q x5)),A (E (1000*aX S R x6 Z)),A (E (1000*aX S R Y x9))] 0 1))<0) then cz (eC (fX 4 (D L (b5 [A (E (1000*aX S R W U)),A (E (1000*aX S R Q x5)),A (E (1000*aX S R x6 Z)),A (E (1000*aX S R Y x9))] 0 1))) Ps) else cz (eC (fX 4 (D L (b5 [A (E (1000*aX S R W U)),A (E (1000*aX S R Q x5)),A (E (1000*aX S R x6 Z)),A (E (1000*aX S R Y x9))] 0 1))) Pr)
def uw:V:=.tup [A (j5 S R W U Q x5 x6 Z Y x9 Ps Pr),A (ke S R W U Q x5 x6 Z Y x9 Ps Pr)]
theorem id8 (hp:(Ps=0->False)/\(Pr=0->False)):aT cM (azx S R W U Q x5 x6 Z Y x9 Ps Pr) (uw S R W U Q x5 x6 Z Y x9 Ps Pr):=ed (ac (ac (ac (ao (ac (ac (ed (ac (ac (ac (ao (ac (ac (ed (ac (ac (ac (ao (ac (ac (ed (ac (ac (ac (ao (ac (ac (gW (aI (by first|assumption|((first|exact hp.1|exact hp.2|decide))) (ac (aI (by first|assumption|((first|exact hp.1|exact hp.2|decide))) (ac (C2 (λh0=>C2 (λM=>aI (by first|assumption|((first|exact hp.1|exact hp.2|decide))) (ac (ao (ac (aI (by first|assumption|((first|exact hp.1|exact hp.2|decide))) (ac (ao (ac (B5 (by unfold uw j5 ke;try rw[h0];try rw[M];rfl)))))))))) (λM=>aI (by first|assumption|((first|exact hp.1|exact hp.2|decide))) (ac (ao (ac (aI (by first|assumption|((first|exact hp.1|exact hp.2|decide))) (ac (ao (ac (B5 (by unfold uw j5 ke;try rw[h0];try rw[M];rfl))))))))))) (λh0=>C2 (λM=>aI (by first|assumption|((first|exact hp.1|exact hp.2|decide))) (ac (ao (ac (aI (by first|assumption|((first|exact hp.1|exact hp.2|decide))) (ac (ao (ac (B5 (by unfold uw j5 ke;try rw[h0];try rw[M];rfl)))))))))) (λM=>aI (by first|assumption|((first|exact hp.1|exact hp.2|decide))) (ac (ao (ac (aI (by first|assumption|((first|exact hp.1|exact hp.2|decide))) (ac (ao (ac (B5 (by unfold uw j5 ke;try rw[h0];try rw[M];rfl))))))))))))))))))))))))))))))))))))))))))))
def frR:aE:=bP [.fn 73 [.agg aM] [],.pd [tI,tI,tI,tI,tI,tI,tI,tI],.pd L,.pd L] (λ
 |[.fn _ [.agg [.int _ S,.int _ R]] [],.pd [.int _ W,.int _ U,.int _ Q,.int _ x5,.int _ x6,.int _ Z,.int _ Y,.int _ x9],.pd [.int _ Ps],.pd [.int _ Pr]]=>(Ps=0->False)/\(Pr=0->False)|_=>False) λ
 |[.fn _ [.agg [.int _ S,.int _ R]] [],.pd [.int _ W,.int _ U,.int _ Q,.int _ x5,.int _ x6,.int _ Z,.int _ Y,.int _ x9],.pd [.int _ Ps],.pd [.int _ Pr]]=>uw S R W U Q x5 x6 Z Y x9 Ps Pr|_=>.any
theorem isW:b9 frR 68:=aU Gm λ_ hp=>da (hz' ..) (id8 _ _ _ _ _ _ _ _ _ _ _ _ hp)
def Jn (p:List V->Bool) (Qa B:aE):aE:=λds=>cond (p ds) (Qa ds) (B ds)
theorem Hh {P:Program} {f:FuncId} (p:List V->Bool) (Qa B:aE) (hA:(vP Qa).Ok P f) (hB:(vP B).Ok P f):(vP (Jn p Qa B)).Ok P f:=by
 have key:∀ {w0 args lh At},vP (Jn p Qa B) w0 args lh At->vP Qa w0 args lh At∨vP B w0 args lh At:=by
  intro w0 args lh At ⟨ds,d,yas,r,M,N,h3⟩;unfold Jn at N;cases hc:p ds with
  |true=>rw[hc]at N;exact .inl ⟨ds,d,yas,r,M,N,h3⟩|false=>rw[hc]at N;exact .inr ⟨ds,d,yas,r,M,N,h3⟩
 exact ⟨λB m lh w args vs At hrel hargs S4=>(key S4).elim (λh=>hA.1 B m lh w args vs At hrel hargs h) (λh=>hB.1 B m lh w args vs At hrel hargs h),
  λ_ _ _ _ _ hk ⟨ds,d,p,r,M,N,h3,h4,h5⟩=>⟨ds,d,p,r,M,N,h3,h4,hk _ _ h5⟩,λ_ _ _ _ ⟨_,_,_,_,_,_,_,_,h⟩=>h⟩
def akU:List V->Bool
 |.fn n _ _::_=>Nat.beq n (match (.fn 72 [] []:V) with|.fn k _ _=>k|_=>0)|_=>false
def adq:aE:=Jn akU dvY frR
theorem aex:(vP adq).Ok Tryz.prog 68:=Hh _ _ _ ig8 isW
end
end Go.Dx
namespace Go.Dx
open Go.IntKind (i64 u64 u8)
open Go.Sx
variable (H:Nat) (G:be) (S R:Int) (T:Nat) (O:be) (W U:Int) (n4:Nat) (f4:be) (n6:Nat) (f6:be)
noncomputable section
theorem tf (a l h:Int):dC a l h=!bW a l h:=by
 unfold dC bW;by_cases M:a<l
 ·rw[BX M,eQ (show ¬l<=a by omega)];rfl
 ·rw[eQ M,BX (show l<=a by omega)]
  by_cases N:h<a
  ·rw[BX N,cond_false,cond_true];exact eQ K
  ·rw[eQ N,cond_false,cond_true];exact BX K
theorem qn {n:Nat} {p Pw:Nat->Bool} (h:∀ i,i<n->p i=Pw i):gS n p=gS n Pw:=by
 cases hq:gS n Pw with
 |true=>obtain⟨i,hi,hp⟩:=BM.1 hq;exact cV i hi (by rw[h i hi];exact hp)
 |false=>
   refine c8 λi hi=>?_;rw[h i hi];cases hp:Pw i with
   |false=>rfl|true=>rw[cV i hi hp]at hq;cases hq
theorem j7 (n:Nat) (f:be):ky n f=!wh n f:=by unfold ky Kb Lq;rw[mA];unfold gS wh;congr 1;congr 1;funext i;rw[tf];rfl
theorem na1 (s:ByteArray):∀ (k i:Nat) (r:List UInt8),s.size-i=k->(ByteArray.toList.loop s i r).length=r.length+k:=by
 intro k;induction k with
 |zero=>
   intro i r h;rw[ByteArray.toList.loop];have:¬i<s.size:=by omega
   simp[this]
 |succ k ih=>
   intro i r h;rw[ByteArray.toList.loop];have:i<s.size:=by omega
   simp only[this,EN];rw[ih (i+1) _ K];simp;omega
theorem auM (s:ByteArray):(s.toList==(⟨#[]⟩:ByteArray).toList)=decide (s.size=0):=by
 have e:(⟨#[]⟩:ByteArray).toList=[]:=by decide +kernel
 rw[e];have hl:s.toList.length=s.size:=by unfold ByteArray.toList;rw[na1 s s.size 0 [] K];simp
 by_cases h:s.size=0
 ·rw[BX h];have:s.toList=[]:=List.eq_nil_of_length_eq_zero K;rw[this];rfl
 ·rw[eQ h]
  cases hs:s.toList with
  |nil=>rw[hs]at hl;simp at hl;omega|cons a l=>rfl
theorem mQ {α:Type} {p:α->Bool}:∀ {l:List α},l.dropWhile p=[]↔∀ x∈l,p x=true
 |[]=>by simp
 |a::l=>by
   rw[List.dropWhile_cons];cases h:p a with
   |true=>simp only[EN];rw[mQ];simp[h]|false=>simp[h]
theorem hwl (l cs:List UInt8):Lib.trimS l cs=[]↔∀ b∈l,cs.contains b=true:=by
 unfold Lib.trimS Lib.trimLeftS Lib.trimRightS;rw[mQ];constructor
 ·intro h
  have M:l.reverse.dropWhile (cs.contains ·)=[]:=by
   cases hd:l.reverse.dropWhile (cs.contains ·) with
   |nil=>rfl
   |cons a r=>have ha:cs.contains a=true:=h a (by rw[hd];simp);have hh:=List.head_dropWhile_not (cs.contains ·) (l:=l.reverse) (by rw[hd];simp);simp only[hd,List.head_cons]at hh;rw[ha]at hh;cases hh
  rw[mQ]at M;exact λb hb=>M b (by simpa using hb)
 ·intro h b hb
  have:b∈l.reverse:=by have:=List.mem_reverse.1 hb;exact(List.dropWhile_sublist _).subset this
  exact h b (by simpa using this)
def Jk (b:Nat):Bool:=(decide (97<=b)&&decide (b<=122))||((decide (48<=b)&&decide (b<=57))||decide (b=45))
theorem AU (b:UInt8):([97,98,99,100,101,102,103,104,105,106,107,108,109,110,111,112,113,114,115,116,117,118,119,120,121,122,48,49,50,51,52,53,54,55,56,57,45]:List UInt8).contains b=Jk b.toNat:=by
 have key:∀n:Fin 256,([97,98,99,100,101,102,103,104,105,106,107,108,109,110,111,112,113,114,115,116,117,118,119,120,121,122,48,49,50,51,52,53,54,55,56,57,45]:List UInt8).contains (UInt8.ofNat n.val)=Jk n.val:=by decide +kernel
 have:=key ⟨b.toNat,b.toNat_lt⟩;simpa using this
theorem avj {l:List UInt8} {i:Nat} (h:i<l.length):l.getD i 0=l[i]:=by simp[List.getD,h]
theorem B2 (s:ByteArray) (i:Nat):(!FE s i)=(Jk (s.data.toList.getD i 0).toNat&&(decide (0<i)||(decide (97<=(s.data.toList.getD i 0).toNat)&&decide ((s.data.toList.getD i 0).toNat<=122)))):=by unfold FE Jk;generalize (s.data.toList.getD i 0).toNat=b;rw[HH];simp only[JN,G6,D2,Gy,E0];split<;>split<;>(try split)<;>simp_all<;>omega
theorem auP (s:ByteArray):pf s=nQ s:=by
 unfold pf nQ;rw[auM];have RI:s.size=s.data.toList.length:=by rw[JH];rfl
 by_cases h0:s.size=0
 ·rw[BX h0,h0];rfl
 rw[eQ h0];have e0:decide (0<(s.size:Int))=true:=BX K;rw[e0];by_cases nH:(s.size:Int)<=24
 case neg=>rw[eQ nH];simp
 rw[BX nH];simp only[HK,cond_true,K6];rw[auM];rw[HH];have ht:(zS s (ByteArray.mk (Array.mk [97,98,99,100,101,102,103,104,105,106,107,108,109,110,111,112,113,114,115,116,117,118,119,120,121,122,48,49,50,51,52,53,54,55,56,57,45]))).size=0↔∀ b∈s.data.toList,Jk b.toNat=true:=by
  rw[show(zS s (ByteArray.mk (Array.mk [97,98,99,100,101,102,103,104,105,106,107,108,109,110,111,112,113,114,115,116,117,118,119,120,121,122,48,49,50,51,52,53,54,55,56,57,45]))).size=(Lib.trimS s.data.toList [97,98,99,100,101,102,103,104,105,106,107,108,109,110,111,112,113,114,115,116,117,118,119,120,121,122,48,49,50,51,52,53,54,55,56,57,45]).length from by simp[zS,ByteArray.size]];rw[List.length_eq_zero_iff,hwl];constructor
  ·intro h b hb;rw[← AU];exact h b hb
  ·intro h b hb;rw[AU];exact h b hb
 have hb:dw s.size (λi=>!FE s i)=true↔(∀ b∈s.data.toList,Jk b.toNat=true)/\97<=(s.data.toList.getD 0 0).toNat/\(s.data.toList.getD 0 0).toNat<=122:=by
  rw[uG];constructor
  ·intro h
   refine⟨λb hb=>?_,?_⟩
   ·obtain⟨i,hi,rfl⟩:=List.getElem_of_mem hb;have:=h i K;rw[B2,D2]at this;rw[avj hi]at this;exact this.1
   ·have:=h 0 K
    rw[B2]at this;simp only[D2,Gy,E0]at this;rcases this.2 with M|M
    ·omega
    ·exact M
  ·rintro⟨M,N,h3⟩ i hi
   rw[B2];have Rn:i<s.data.toList.length:=by omega
   rw[M _ (by rw[avj Rn];exact List.getElem_mem Rn)];by_cases hz:i=0
   ·subst hz;rw[BX N,BX h3];rfl
   ·simp;omega
 rw[hb,← ht];cases hd:decide ((zS s (ByteArray.mk (Array.mk [97,98,99,100,101,102,103,104,105,106,107,108,109,110,111,112,113,114,115,116,117,118,119,120,121,122,48,49,50,51,52,53,54,55,56,57,45]))).size=0) with
 |false=>have:=Dp hd;simp[this]
 |true=>
   have:=DU hd;simp only[cond_true,this,Dq];rw[show s.data.1.getD 0 0=s.data.toList.getD 0 0 from rfl];generalize (s.data.toList.getD 0 0).toNat=b;by_cases g:97<=b
   ·rw[BX (show(97:Int)<=(b:Int) by omega)];simp only[cond_true,E0];omega
   ·rw[eQ (show ¬(97:Int)<=(b:Int) by omega)];simp;omega
theorem yak (x y:Int):uD x y=!nY x y:=by unfold uD nY;exact j7 _ _
section
variable (n:Nat) (f:be)
include n f
theorem af7 (s:ByteArray):vk n f s=gS n λk=>(sv (aA (f k))).toList==s.toList:=by unfold vk LY;rw[mA];rfl
theorem yac (s:ByteArray):uk n f s=gS n λk=>(sv (aA (f k))).toList==s.toList:=by unfold uk LC;rw[mA];rfl
theorem ak0:lY n f=gS n λi=>!nY (av (f i)) (aP (f i)):=by unfold lY Lh;rw[mA];exact qn λi _=>yak _ _
end
theorem auH (i:Nat):LJ H (D bd G) i=cR H G i:=by unfold LJ cR HQ HS Qy;rw[auP,af7,ak0];simp only[De,Nat.sub_zero,EB,tf,H4];rfl
theorem aml (i:Nat):OU T (D bq O) i=cT O i:=by
 show pR (av (O i)) (aP (O i)) (bV (O i)) (bf (O i)) (cu (O i))=_;unfold cT pR xm;rw[j7];show(bif !!nY _ _ then _ else _)=_;generalize nY _ _=p;generalize bV (O i)=a;generalize bf (O i)=z;generalize cu (O i)=w;cases p
 ·rfl
 ·simp only [HM,HK,cond_true]
  rw[tf];cases ha:bW a 1 20000
  ·simp only [HK,HM,cond_true,cond_false]
   by_cases hw:1<=w/\w<=1000
   ·have e:bW w 1 1000=false:=by unfold bW;rw[eQ K,cond_false];exact eQ K
    rw[e,C8 K K];unfold bW;by_cases hz:z<0
    ·rw[BX hz];rfl
    ·rw[eQ hz]
     by_cases WO:w<=z
     ·rw[BX (show w-1<z by omega),BX WO];rfl
     ·rw[eQ (show ¬w-1<z by omega),eQ WO,eQ (show ¬1000<w by omega)];rfl
   ·have e:bW w 1 1000=true:=by
     unfold bW;by_cases M:w<1
     ·rw[BX M];rfl
     ·rw[eQ M,cond_false];exact BX K
    rw[e];have:(bif bif decide (z<0) then true else decide (w<=z) then true else decide (1000<w))=true:=by
     by_cases hz:z<0
     ·rw[BX hz];rfl
     ·rw[eQ hz,cond_false]
      by_cases N:w<=z
      ·rw[BX N];rfl
      ·rw[eQ N,cond_false];exact BX K
    rw[this];cases !bW z 0 (E (w-1))<;>rfl
  ·rfl
theorem aeD:mR S R W U=bif bif bif bif bif decide (S<0) then true else decide (R<=S) then true else decide (1000<R) then true else decide (W<0) then true else decide (U<=W) then true else decide (1000<U):=by
 have key:∀ a b:Int,((bif !bW b 1 1000 then bW a 0 (E (b-1)) else true)=true)↔(a<0∨b<=a∨1000<b):=by
  intro a b;unfold bW;by_cases M:b<1
  ·rw[BX M];simp;omega
  ·rw [eQ M]
   by_cases N:1000<b
   ·rw[BX N];simp;omega
   ·rw[eQ N,C8 K K];simp only[cond_false,HK,cond_true,JN];split<;>simp_all<;>omega
 have e1:=key S R;have e2:=key W U;have:mR S R W U=(bif !(bif !bW R 1 1000 then bW S 0 (E (R-1)) else true) then(bif !bW U 1 1000 then bW W 0 (E (U-1)) else true) else true):=by unfold mR;cases bW R 1 1000<;>cases bW S 0 (E (R-1))<;>rfl
 rw[this];generalize (bif !bW R 1 1000 then bW S 0 (E (R-1)) else true)=p at e1 ⊢;generalize (bif !bW U 1 1000 then bW W 0 (E (U-1)) else true)=Pw at e2 ⊢;rw[HH];simp only[JN];cases p<;>cases Pw<;>simp_all<;>omega
theorem R53 (i:Nat):OV n4 (D bu f4) i=cF f4 i:=by
 show pW (av (f4 i)) (aP (f4 i)) (bV (f4 i)) (bf (f4 i)) (aB (aA (I (I (I (I (f4 i))))))) (λj=>al gV (bL (aA (I (I (I (I (f4 i)))))) j))=_;unfold cF pW HT;rw[j7];have:∀n (f:be),ug n f=gS n λj=>NW (f j):=by intro n f;unfold ug Ml;rw[mA];exact qn λj _=>by rw[aeD];rfl
 rw[this];rfl
theorem awU (p Pw r t:Bool) (B:Int):(bif p then bif !Pw then bif !r then bif t then 7 else B else 7 else 7 else 7)=(bif bif bif bif !p then true else Pw then true else r then true else t then 7 else B):=by cases p<;>cases Pw<;>cases r<;>cases t<;>rfl
theorem fc3 (i:Nat):LL n6 (D aV f6) i=cC n6 f6 i:=by unfold LL cC nf RF;rw[auP,yac,j7];simp only[De,Nat.sub_zero,EB];unfold Me;simp only[tf,H4];rw[awU];rfl
theorem fG {n:Nat} {c d:Nat->Int} (h:∀i,c i=d i):gp n c=gp n d/\d8 n c=d8 n d:=by have:c=d:=funext h;rw[this];exact⟨rfl,rfl⟩
theorem ic0 :
 (nD H G T O n4 f4 n6 f6,nt H G T O n4 f4 n6 f6,jX H G T O n4 f4 n6 f6)=HO H G T O n4 f4 n6 f6:=by
 unfold nD nt jX HO Mp z1 z2 z3 Am AP rq zV rl Aw qY AT q6;rw[(fG (auH H G)).1,(fG (auH H G)).2,(fG (aml T O)).1,(fG (aml T O)).2,(fG (R53 n4 f4)).1,(fG (R53 n4 f4)).2,(fG (fc3 n6 f6)).1,(fG (fc3 n6 f6)).2];cases (bif bif bif decide (8<(H:Int)) then true else decide (12<(T:Int)) then true else decide (8<(n4:Int)) then true else decide (24<(n6:Int)))
 ·simp only [cond_false]
  cases M:d8 H (cR H G)!=0
  ·simp only [cond_false]
   cases N:d8 T (cT O)!=0
   ·simp only [cond_false]
    cases h3:d8 n4 (cF f4)!=0
    ·simp only[cond_false]
     cases h4:d8 n6 (cC n6 f6)!=0
     ·rfl
     ·rfl
    ·rfl
   ·rfl
  ·rfl
 ·rfl
theorem aqj (ts:List Ty) (f:be):D ts (D ts f)=D ts f:=by funext i;exact d9 ts _
theorem hmN {n:Nat} {c:Nat->Int} (h:d8 n c=0):∀ i,i<n->c i=0:=by
 unfold d8 at h;rcases fd1 (n:=n) (p:=λi=>c i !=0) with ⟨_,N⟩|⟨j,M,N,h3,_⟩
 ·intro i hi;have:=N i hi;simpa using this
 ·rw[N]at h
  have:((j:Int)==-1)=false:=by rw[L9];omega
  rw[this,cond_false,De]at h;rw[h]at h3;cases h3
section
variable {H:Nat} {G:be} {T:Nat} {O:be} {n4:Nat} {f4:be} {n6:Nat} {f6:be} {i j m l:Int}
structure adm (H:Nat) (G:be) (T:Nat) (O:be) (n4:Nat) (f4:be) (n6:Nat) (f6:be):Prop where
 l0:H<=8
 l2:T<=12
 l4:n4<=8
 l6:n6<=24
 rd:∀i,i<H->cR H G i=0
 tr:∀i,i<T->cT O i=0
 fr:∀i,i<n4->cF f4 i=0
 cl:∀i,i<n6->cC n6 f6 i=0
theorem lE {n:Nat} {c:Nat->Int} {k:Int} {z:Int×Int×Int} (h:(Am n c k z).2.2=0):(∀ i,i<n->c i=0)/\z.2.2=0:=by
 unfold Am at h;cases hb:d8 n c !=0 with
 |true=>rw[hb]at h;simp only[cond_true]at h;rw[h]at hb;cases hb
 |false=>rw[hb]at h;exact⟨hmN (by simpa using hb),h⟩
theorem KW (h:gN H G T O n4 f4 n6 f6=0):adm H G T O n4 f4 n6 f6:=by
 unfold gN HO at h;cases hl:Mp H G T O n4 f4 n6 f6 with
 |true=>rw[hl]at h;cases h
 |false=>
   rw[hl,cond_false]at h;obtain⟨M,h⟩:=lE h;unfold z1 at h;obtain⟨N,h⟩:=lE h;unfold z2 at h;obtain⟨h3,h⟩:=lE h;unfold z3 at h;obtain⟨h4,_⟩:=lE h;unfold Mp at hl;simp only[JN,Bool.ite_eq_false_distrib]at hl;have:H<=8/\T<=12/\n4<=8/\n6<=24:=by refine⟨?_,?_,?_,?_⟩<;>(apply Classical.byContradiction;intro hn)<;>simp_all<;>omega
   exact⟨this.1,this.2.1,this.2.2.1,this.2.2.2,M,N,h3,h4⟩
def Sa (i m:Int):Bool:=bif decide (i<0) then true else decide (m<=i)
def EH (e i m:Int):Int:=bif e==0 then(bif Sa i m then 4 else 0) else e
theorem Gu:jX H G T O n4 f4 n6 f6=gN H G T O n4 f4 n6 f6:=congrArg (λt=>t.2.2) (ic0 H G T O n4 f4 n6 f6)
theorem iu5 {i:Int} {m:Nat} (hm:m<=9223372036854775807):bW i 0 (E ((m:Int)-1))=Sa i m:=by
 unfold bW Sa;rw[C8 K K];by_cases h:i<0
 ·rw[BX h];rfl
 ·rw[eQ h,cond_false,cond_false]
  by_cases g:(m:Int)<=i
  ·rw[BX g];exact BX K
  ·rw[eQ g];exact eQ K
theorem arV {i:Int} {m:Nat} (hm:gN H (D bd G) T (D bq O) n4 (D bu f4) n6 (D aV f6)=0->m<=9223372036854775807) :
 MC H (D bd G) T (D bq O) n4 (D bu f4) n6 (D aV f6) 2 (D L (b5 [A i,A m] 0 1))=EH (gN H (D bd G) T (D bq O) n4 (D bu f4) n6 (D aV f6)) i m:=by
 unfold MC YW EH;simp only[aqj,Gu];cases he:gN H (D bd G) T (D bq O) n4 (D bu f4) n6 (D aV f6)==0 with
 |false=>rfl
 |true=>rw[cond_true,cond_true];have:=hm (EM he);rw[← iu5 this];show(bif !(true&&!bW i 0 (E ((m:Int)-1))) then _ else _)=_;rw[Bool.true_and,H4]
theorem adY {i m:Int}:jj H (D bd G) T (D bq O) n4 (D bu f4) n6 (D aV f6) i m=EH (gN H (D bd G) T (D bq O) n4 (D bu f4) n6 (D aV f6)) i m:=by
 unfold jj sX EH Sa;simp only[aqj];generalize gN H (D bd G) T (D bq O) n4 (D bu f4) n6 (D aV f6)=e;by_cases he:e=0
 ·subst he;cases (bif decide (i<0) then true else decide (m<=i))<;>rfl
 ·rw[show(e==0)=false from by simpa using he];rfl
end
end
end Go.Dx
namespace Go.Dx
open Go.IntKind (i64 u64 u8)
open Go.Sx Go.Proofs
variable (H:Nat) (G:be) (S R:Int) (T:Nat) (O:be) (W U Q:Int) (n5:Nat) (q:be) (x5:Int) (n7:Nat) (f7:be) (n9:Nat) (f9:be) (Pq:Nat) (Pp:be) (QE:Nat) (Q3:be) (QH:Nat) (Q5:be) (Py:Int)
noncomputable section
structure Cy (H:Nat) (G:be) (T:Nat) (O:be):Prop where
 l0:H<=10
 l2:T<=20
 tb:∀i,i<H->iN (D ap G) i=0
 lm:∀i,i<T->mh H (D B4 O) i=0
theorem ye {H:Nat} {G:be} {T:Nat} {O:be} (h:dh H G T O=0):Cy H G T O:=by
 unfold dh zp at h;cases hl:(bif decide (10<(H:Int)) then true else decide (20<(T:Int))) with
 |true=>rw[hl]at h;cases h
 |false=>
   rw[hl]at h;obtain⟨M,N⟩:=lE h;obtain⟨h3,_⟩:=lE N;have a:(decide (10<(H:Int)))=false:=by cases hh:decide (10<(H:Int)) with|false=>rfl|true=>rw[hh]at hl;cases hl
   rw[a]at hl;have b:=Dp hl;have a:=Dp a;exact⟨K,K,M,h3⟩
theorem zB {x a b:Int} (h:aG x a b=true):a<=x/\x<=b:=by
 unfold aG at h;cases M:decide (a<=x) with
 |false=>rw[M]at h;cases h|true=>rw[M]at h;exact⟨DU M,DU h⟩
theorem NO {a b:Bool} (h:MB a b=false):a=true/\b=true:=by unfold MB at h;cases a<;>cases b<;>first|exact⟨rfl,rfl⟩|cases h
def Mu (x:List V):Nat:=aB (aA (I (I (I x))))
def zE (x:List V):Nat->List V:=bL (aA (I (I (I x))))
structure qU (x:List V):Prop where
 u:2<=aB (aA (I x))/\aB (aA (I x))<=12
 v:2<=aB (aA (I (I x)))/\aB (aA (I (I x)))<=12
 n:Mu x=aB (aA (I x))
 row:∀i,i<Mu x->aB (aA (zE x i))=aB (aA (I (I x)))
 side:0<=cu x/\cu x<=10000000
 sky:0<=bE x/\bE x<=10000000
 val:∀i,i<Mu x->∀j,j<aB (aA (zE x i))->0<=av (bL (aA (zE x i)) j)/\av (bL (aA (zE x i)) j)<=10000000
theorem lQ {b:Bool} {k z:Int} (h:(bif b then k else z)=0) (hk:k≠0):b=false/\z=0:=by
 cases b with
 |true=>exact absurd h hk|false=>exact⟨rfl,h⟩
theorem EF {b:Bool} (h:(!b)=false):b=true:=by cases b<;>first|rfl|cases h
theorem Fs {a b:Bool} (h:(a&&b)=true):a=true/\b=true:=by cases a<;>cases b<;>first|exact⟨rfl,rfl⟩|cases h
theorem awY {n:Nat} {p:Nat->Bool} (h:gS n p=false):∀ i,i<n->p i=false:=λi hi=>by
 cases hp:p i with
 |false=>rfl|true=>rw[cV i hi hp]at h;cases h
theorem FK {G:be} {a:Nat} (h:iN (D ap G) a=0):qU (G a):=by
 unfold iN at h;obtain⟨_,h⟩:=lQ h aR;obtain⟨_,h⟩:=lQ h aR;unfold F2 at h;obtain⟨M,h⟩:=lQ h aR;obtain⟨_,h⟩:=lQ h aR;obtain⟨_,h⟩:=lQ h aR;obtain⟨N,h⟩:=lQ h aR;obtain⟨h3,h⟩:=lQ h aR;obtain⟨h4,_⟩:=lQ h aR;obtain⟨u,v⟩:=NO M;have u:=zB u;have v:=zB v;have g:m7 (cu (G a)) (bE (G a))=true:=(Fs (EF h4)).1;have w:dw (Mu (G a)) (ju (aB (aA (I (I (G a))))) (D [.sl L] (zE (G a))))=true:=(Fs (EF h4)).2;have row:∀i,i<Mu (G a)->aB (aA (zE (G a) i))=aB (aA (I (I (G a)))):=λi hi=>by have:=awY h3 i hi;have:((aB (aA (zE (G a) i)):Int)!=(aB (aA (I (I (G a)))):Int))=false:=this;have:=EM (by simpa using this:((aB (aA (zE (G a) i)):Int)==(aB (aA (I (I (G a)))):Int))=true);omega
 unfold m7 at g;have g1:aG (cu (G a)) 0 10000000=true:=by
  cases hh:aG (cu (G a)) 0 10000000 with
  |true=>rfl|false=>rw[hh]at g;cases g
 rw[g1]at g
 exact ⟨⟨by have:=u.1;exact Int.ofNat_le.1 this,by have:=u.2;exact Int.ofNat_le.1 this⟩,⟨by have:=v.1;exact Int.ofNat_le.1 this,by have:=v.2;exact Int.ofNat_le.1 this⟩,
  by have:((Mu (G a):Int)!=(aB (aA (I (G a))):Int))=false:=N
     have:=EM (by simpa using this:((Mu (G a):Int)==(aB (aA (I (G a))):Int))=true);omega,
  row,zB g1,zB g,λi hi j hj=>by rw[row i hi]at hj;exact zB (dA (dA w i hi) j hj)⟩
structure arT (H:Nat) (x:List V):Prop where
 t:0<=aP x/\aP x<H
 kind:1<=bV x/\bV x<=3
 lum:1<=bf x/\bf x<=1000000
theorem Sw {H:Nat} {O:be} {a:Nat} (hn:H<=10) (h:mh H (D B4 O) a=0):arT H (O a):=by unfold mh at h;obtain⟨_,h⟩:=lQ h aR;obtain⟨_,h⟩:=lQ h aR;unfold Rr LQ at h;obtain⟨M,h⟩:=lQ h aR;obtain⟨N,h⟩:=lQ h aR;obtain⟨h3,h⟩:=lQ h aR;have M:=zB (EF M:aG (aP (O a)) 0 (E ((H:Int)-1))=true);have N:=zB (EF N:aG (bV (O a)) 1 3=true);have h3:=zB ((Fs (EF h3)).1:aG (bf (O a)) 1 1000000=true);rw[C8 K K]at M;exact⟨⟨M.1,K⟩,N,h3⟩
def Hd (dx dy:Int):Prop:=(-1000<=dx/\dx<=1000)/\(-1000<=dy/\dy<=1000)/\(dx≠0∨dy≠0)
def Bd (x:Int):Prop:=-1000000000<=x/\x<=1000000000
theorem UG {a b:Int} (ha:Bd a) (hb:-1000<=b/\b<=1000):-1000000000000<=a*b/\a*b<=1000000000000:=by unfold Bd at ha;have h:=GL (show a.natAbs<=1000000000 by omega) (show b.natAbs<=1000 by omega);rw[← Int.natAbs_mul]at h;omega
theorem sqB {a:Int} (ha:-1000<=a/\a<=1000):0<=a*a/\a*a<=1000000/\(a≠0->1<=a*a):=by have h:=GL (show a.natAbs<=1000 by omega) (show a.natAbs<=1000 by omega);rw[← Int.natAbs_mul_self' a];refine⟨K,K,λh0=>?_⟩;have:1<=a.natAbs*a.natAbs:=GL (show 1<=a.natAbs by omega) (show 1<=a.natAbs by omega);omega
theorem Jh {dx dy:Int} (h:Hd dx dy):1<=cm dx dy/\cm dx dy<=2000000:=by
 obtain⟨a,b,c⟩:=h;have M:=sqB a;have N:=sqB b;unfold cm;rw[C8 (x:=dx*dx) K K,C8 (x:=dy*dy) K K,C8 K K];rcases c with c|c
 ·have:=M.2.2 c;omega
 ·have:=N.2.2 c;omega
theorem wQ (x:Int):cz x=fp x:=by unfold cz fp;omega
theorem m70 {n:Nat}:fZ n<=n:=by
 have h:=(qO n).1;cases hr:fZ n with
 |zero=>omega
 |succ k=>rw[hr]at h;have:=GL (show 1<=k+1 by omega) (D7 (k+1));omega
theorem i13 {n:Nat} (h:1<=n):1<=fZ n:=by
 have N:=(qO n).2;cases hr:fZ n with
 |zero=>rw[hr]at N;omega|succ k=>omega
theorem tv {x:Int} (h:x<=3999999999999999999):eb x=dL x:=by unfold eb dL mf oX;rw[show min x 4611686018427387903=x by omega,show min x 3999999999999999999=x by omega]
theorem Hy {x:Int} (h:x<=3999999999999999999):dG x=E9 x:=by unfold dG E9;rw[tv h]
theorem sZ {x:Int} (M:1<=x):1<=dL x/\dL x<=3999999999999999999:=by
 unfold dL;have a:=i13 (n:=oX x) (by unfold oX;omega);have b:=m70 (n:=oX x);have:oX x<=3999999999999999999:=by unfold oX;omega
 omega
theorem FY {x:Int} (M:1<=x):1<=E9 x:=by
 have:=sZ M;unfold E9;cases decide (E (dL x*dL x)<x) with
 |true=>show 1<=E (dL x+1);rw[C8 K K];omega|false=>exact this.1
theorem rts {s:Int} (h:1<=s/\s<=2000000):Ke s:=by unfold Ke;rw[C8 (x:=1000000*s) K K];exact⟨λh0=>by have:=FY (x:=1000000*s) K;omega,λh0=>by have:=(sZ (x:=1000000*s) K).1;omega⟩
def JY (x:Int):Prop:=-2000000000000<=x/\x<=2000000000000
theorem rv {a:Int} (h:JY a):E (1000*a)=1000*a:=by unfold JY at h;exact C8 K K
section
variable {a b c d s:Int} (ha:JY a) (hb:JY b) (hc:JY c) (hd:JY d) (hs:1<=s/\s<=2000000)
include a b c d s ha hb hc hd hs
theorem c64 :
 (bif decide (min (min (min (min (E (1000*a)) (E (1000*a))) (E (1000*b))) (E (1000*c))) (E (1000*d))<0)
   then cz (dO (min (min (min (min (E (1000*a)) (E (1000*a))) (E (1000*b))) (E (1000*c))) (E (1000*d))) (eb (E (1000000*s))))
   else cz (dO (min (min (min (min (E (1000*a)) (E (1000*a))) (E (1000*b))) (E (1000*c))) (E (1000*d))) (dG (E (1000000*s)))))=Iz (min (min (min (min a a) c) b) d) s:=by
 have hm:JY (min (min (min (min a a) c) b) d):=by unfold JY at *;omega
 rw[rv ha,rv hb,rv hc,rv hd];unfold Iz;rw[rv hm,wQ,wQ,tv (by rw[C8 K K];omega),Hy (by rw[C8 K K];omega)];rw[show min (min (min (min (1000*a) (1000*a)) (1000*b)) (1000*c)) (1000*d)=1000*min (min (min (min a a) c) b) d by omega];rw[show decide (1000*min (min (min (min a a) c) b) d<0)=decide (min (min (min (min a a) c) b) d<0) from decide_eq_decide.2 K];rfl
theorem c68 :
 (bif decide (max (max (max (max (E (1000*a)) (E (1000*a))) (E (1000*b))) (E (1000*c))) (E (1000*d))<0)
   then cz (eC (max (max (max (max (E (1000*a)) (E (1000*a))) (E (1000*b))) (E (1000*c))) (E (1000*d))) (dG (E (1000000*s))))
   else cz (eC (max (max (max (max (E (1000*a)) (E (1000*a))) (E (1000*b))) (E (1000*c))) (E (1000*d))) (eb (E (1000000*s)))))=Iy (max (max (max (max a a) c) b) d) s:=by
 have hm:JY (max (max (max (max a a) c) b) d):=by unfold JY at *;omega
 rw[rv ha,rv hb,rv hc,rv hd];unfold Iy;rw[rv hm,wQ,wQ,tv (by rw[C8 K K];omega),Hy (by rw[C8 K K];omega)];rw[show max (max (max (max (1000*a) (1000*a)) (1000*b)) (1000*c)) (1000*d)=1000*max (max (max (max a a) c) b) d by omega];rw[show decide (1000*max (max (max (max a a) c) b) d<0)=decide (max (max (max (max a a) c) b) d<0) from decide_eq_decide.2 K];rfl
end
theorem Hw {dx dy x y:Int} (h:Hd dx dy) (hx:Bd x) (hy:Bd y):JY (E (E (x*dy)-E (y*dx))):=by have M:=UG hx h.2.1;have N:=UG hy h.1;unfold JY;rw[C8 (x:=x*dy) K K,C8 (x:=y*dx) K K,C8 K K];omega
theorem Hz {dx dy x y:Int} (h:Hd dx dy) (hx:Bd x) (hy:Bd y):JY (E (E (x*dx)+E (y*dy))):=by have M:=UG hx h.1;have N:=UG hy h.2.1;unfold JY;rw[C8 (x:=x*dx) K K,C8 (x:=y*dy) K K,C8 K K];omega
def I9:bm:=(68,.con adq)::I2
theorem Gi:aZ Tryz.prog Bs C3 I9:=.con aex (Gm)
theorem aaB {ts:List Ty} {ds:List V} (h:al ts ds=ds):ma ts ds []=mb ts ds []:=by have:=gE ts ds [];rw[h]at this;exact this
theorem fl4 (a b c d:Int):D L (lM (bb 3 (bb 2 (bb 1 (λ_=>[A a]) λ_=>[A b]) λ_=>[A c]) λ_=>[A d]))=lM (bb 3 (bb 2 (bb 1 (λ_=>[A a]) λ_=>[A b]) λ_=>[A c]) λ_=>[A d]):=by funext i;unfold D lM bb;cases Nat.blt i 3<;>cases Nat.blt i 2<;>cases Nat.blt i 1<;>rfl
def abA:RT Empty:=.brt (.obt (.brf (.obt (.brf (.obt (.obt (.obt (.obt (.brt (.obt (.brt (.obt (.brf (.obt (.obt (.obt (.obt (.brt (.obt (.brf (.obt (.brt (.obt (.obt (.obt (.obt (.brt (.obt (.brt (.obt (.brt (.obt (.obt (.obt (.obt (.brf (.obe ([Ty.sl L,tI]) ([V.sl 4 (lM (bb 3 (bb 2 (bb 1 (λx=>[A (E (E (S*x5)-E (W*Q)))]) λx=>[A (E (E (R*x5)-E (W*Q)))]) λx=>[A (E (E (S*x5)-E (U*Q)))]) λx=>[A (E (E (R*x5)-E (U*Q)))])),A (E (E (Q*Q)+E (x5*x5)))]) (.obp ((1:Nat)<=(4:Nat)/\(E9 (E ((1000000:Int)*E (E (Q*Q)+E (x5*x5))))=(0:Int)->False)/\(dL (E ((1000000:Int)*E (E (Q*Q)+E (x5*x5))))=(0:Int)->False)) (.obt (.obt (.obe ([Ty.sl L,tI]) ([V.sl 4 (lM (bb 3 (bb 2 (bb 1 (λx=>[A (E (E (S*Q)+E (W*x5)))]) λx=>[A (E (E (R*Q)+E (W*x5)))]) λx=>[A (E (E (S*Q)+E (U*x5)))]) λx=>[A (E (E (R*Q)+E (U*x5)))])),A (E (E (Q*Q)+E (x5*x5)))]) (.obp ((1:Nat)<=(4:Nat)/\(E9 (E ((1000000:Int)*E (E (Q*Q)+E (x5*x5))))=(0:Int)->False)/\(dL (E ((1000000:Int)*E (E (Q*Q)+E (x5*x5))))=(0:Int)->False)) (.obt (.obt (.ret (V.agg [A (il 4 (lM (bb 3 (bb 2 (bb 1 (λx=>[A (E (E (S*x5)-E (W*Q)))]) λx=>[A (E (E (R*x5)-E (W*Q)))]) λx=>[A (E (E (S*x5)-E (U*Q)))]) λx=>[A (E (E (R*x5)-E (U*Q)))])) (E (E (Q*Q)+E (x5*x5)))),A (ip 4 (lM (bb 3 (bb 2 (bb 1 (λx=>[A (E (E (S*x5)-E (W*Q)))]) λx=>[A (E (E (R*x5)-E (W*Q)))]) λx=>[A (E (E (S*x5)-E (U*Q)))]) λx=>[A (E (E (R*x5)-E (U*Q)))])) (E (E (Q*Q)+E (x5*x5)))),A (il 4 (lM (bb 3 (bb 2 (bb 1 (λx=>[A (E (E (S*Q)+E (W*x5)))]) λx=>[A (E (E (R*Q)+E (W*x5)))]) λx=>[A (E (E (S*Q)+E (U*x5)))]) λx=>[A (E (E (R*Q)+E (U*x5)))])) (E (E (Q*Q)+E (x5*x5)))),A (ip 4 (lM (bb 3 (bb 2 (bb 1 (λx=>[A (E (E (S*Q)+E (W*x5)))]) λx=>[A (E (E (R*Q)+E (W*x5)))]) λx=>[A (E (E (S*Q)+E (U*x5)))]) λx=>[A (E (E (R*Q)+E (U*x5)))])) (E (E (Q*Q)+E (x5*x5))))]))))))))))))))))))))))))))))))))))))))))))))))
theorem yaB:cY cZ (aQ JJ I9 PX agw [A S,A R,A W,A U,A Q,A x5]) (abA S R W U Q x5):=bD
def kP:Int:=il 4 (lM (bb 3 (bb 2 (bb 1 (λx=>[A (E (E (S*x5)-E (W*Q)))]) λx=>[A (E (E (R*x5)-E (W*Q)))]) λx=>[A (E (E (S*x5)-E (U*Q)))]) λx=>[A (E (E (R*x5)-E (U*Q)))])) (E (E (Q*Q)+E (x5*x5)))
def kX:Int:=ip 4 (lM (bb 3 (bb 2 (bb 1 (λx=>[A (E (E (S*x5)-E (W*Q)))]) λx=>[A (E (E (R*x5)-E (W*Q)))]) λx=>[A (E (E (S*x5)-E (U*Q)))]) λx=>[A (E (E (R*x5)-E (U*Q)))])) (E (E (Q*Q)+E (x5*x5)))
def kR:Int:=il 4 (lM (bb 3 (bb 2 (bb 1 (λx=>[A (E (E (S*Q)+E (W*x5)))]) λx=>[A (E (E (R*Q)+E (W*x5)))]) λx=>[A (E (E (S*Q)+E (U*x5)))]) λx=>[A (E (E (R*Q)+E (U*x5)))])) (E (E (Q*Q)+E (x5*x5)))
def kU:Int:=ip 4 (lM (bb 3 (bb 2 (bb 1 (λx=>[A (E (E (S*Q)+E (W*x5)))]) λx=>[A (E (E (R*Q)+E (W*x5)))]) λx=>[A (E (E (S*Q)+E (U*x5)))]) λx=>[A (E (E (R*Q)+E (U*x5)))])) (E (E (Q*Q)+E (x5*x5)))
def TZ:V:=.agg [A (kP S R W U Q x5),A (kX S R W U Q x5),A (kR S R W U Q x5),A (kU S R W U Q x5)]
theorem aje (hp:Ke (E (E (Q*Q)+E (x5*x5)))):aT cM (abA S R W U Q x5) (TZ S R W U Q x5):=ed (ac (gW (ac (gW (ac (ac (ac (ac (ed (ac (ed (ac (gW (ac (ac (ac (ac (ed (ac (gW (ac (ed (ac (ac (ac (ac (ed (ac (ed (ac (ed (ac (ac (ac (ac (gW (acC (by exact aaB (congrArg (λf=>[V.sl 4 f,_]) (fl4 ..))) (aI (by first|assumption|(exact⟨aR,hp⟩)) (ac (ac (acC (by exact aaB (congrArg (λf=>[V.sl 4 f,_]) (fl4 ..))) (aI (by first|assumption|(exact⟨aR,hp⟩)) (ac (ac (B5 (by unfold TZ kP kX kR kU;rfl))))))))))))))))))))))))))))))))))))))))))))))
def abj:aE:=bP [tI,tI,tI,tI,tI,tI] (λ
 |[.int _ S,.int _ R,.int _ W,.int _ U,.int _ Q,.int _ x5]=>Ke (E (E (Q*Q)+E (x5*x5)))|_=>False) λ
 |[.int _ S,.int _ R,.int _ W,.int _ U,.int _ Q,.int _ x5]=>TZ S R W U Q x5|_=>.any
theorem ahG:b9 abj 75:=aU Gi λ_ hp=>da (yaB ..) (aje _ _ _ _ _ _ hp)
def acy:RT Empty:=.cb (.cb (.cb (.obp ((dG (E ((1000000:Int)*cm S R))=(0:Int)->False)/\(eb (E ((1000000:Int)*cm S R))=(0:Int)->False)) (.obt (.obp ((dG (E ((1000000:Int)*cm S R))=(0:Int)->False)/\(eb (E ((1000000:Int)*cm S R))=(0:Int)->False)) (.obt (.ret (V.agg [A (jW S R W Q W x5 U Q U x5 (dG (E (1000000*cm S R))) (eb (E (1000000*cm S R)))),A (j6 S R W Q W x5 U Q U x5 (dG (E (1000000*cm S R))) (eb (E (1000000*cm S R)))),A (j5 S R W Q W x5 U Q U x5 (dG (E (1000000*cm S R))) (eb (E (1000000*cm S R)))),A (ke S R W Q W x5 U Q U x5 (dG (E (1000000*cm S R))) (eb (E (1000000*cm S R))))]))))))))
theorem np3:cY cZ (aQ JJ I9 u0 CN [V.agg [A S,A R],A W,A U,A Q,A x5]) (acy S R W U Q x5):=bD
def hval0:Int:=jW S R W Q W x5 U Q U x5 (dG (E (1000000*cm S R))) (eb (E (1000000*cm S R)))
def fzb14:Int:=j6 S R W Q W x5 U Q U x5 (dG (E (1000000*cm S R))) (eb (E (1000000*cm S R)))
def iza10:Int:=j5 S R W Q W x5 U Q U x5 (dG (E (1000000*cm S R))) (eb (E (1000000*cm S R)))
def hsrc2:Int:=ke S R W Q W x5 U Q U x5 (dG (E (1000000*cm S R))) (eb (E (1000000*cm S R)))
theorem aws {S R W U Q x5:Int} (hd:Hd S R) (N:Bd W) (h3:Bd U) (h4:Bd Q) (h5:Bd x5):jW S R W Q W x5 U Q U x5 (dG (E (1000000*cm S R))) (eb (E (1000000*cm S R)))=kP W U Q x5 S R:=c64 (Hw hd N h4) (Hw hd N h5) (Hw hd h3 h4) (Hw hd h3 h5) (Jh hd)
theorem awZ {S R W U Q x5:Int} (hd:Hd S R) (N:Bd W) (h3:Bd U) (h4:Bd Q) (h5:Bd x5):j6 S R W Q W x5 U Q U x5 (dG (E (1000000*cm S R))) (eb (E (1000000*cm S R)))=kX W U Q x5 S R:=c68 (Hw hd N h4) (Hw hd N h5) (Hw hd h3 h4) (Hw hd h3 h5) (Jh hd)
theorem axa {S R W U Q x5:Int} (hd:Hd S R) (N:Bd W) (h3:Bd U) (h4:Bd Q) (h5:Bd x5):j5 S R W Q W x5 U Q U x5 (dG (E (1000000*cm S R))) (eb (E (1000000*cm S R)))=kR W U Q x5 S R:=c64 (Hz hd N h4) (Hz hd N h5) (Hz hd h3 h4) (Hz hd h3 h5) (Jh hd)
theorem axv {S R W U Q x5:Int} (hd:Hd S R) (N:Bd W) (h3:Bd U) (h4:Bd Q) (h5:Bd x5):ke S R W Q W x5 U Q U x5 (dG (E (1000000*cm S R))) (eb (E (1000000*cm S R)))=kU W U Q x5 S R:=c68 (Hz hd N h4) (Hz hd N h5) (Hz hd h3 h4) (Hz hd h3 h5) (Jh hd)
theorem ae0 (hp:Hd S R/\Bd W/\Bd U/\Bd Q/\Bd x5):aT cM (acy S R W U Q x5) (.agg [A (kP W U Q x5 S R),A (kX W U Q x5 S R),A (kR W U Q x5 S R),A (kU W U Q x5 S R)]):=by
 obtain⟨hd,N,h3,h4,h5⟩:=hp;have hs:=Jh hd;have hr:=rts hs;have hw:E (1000000*cm S R)<=3999999999999999999:=by rw[C8 K K];omega
 unfold Ke at hr;rw[← Hy hw,← tv hw]at hr;exact ao (ac (ao (ac (ao (ac (aI hr (ac (aI hr (ac (B5 (by rw[aws hd N h3 h4 h5,awZ hd N h3 h4 h5,axa hd N h3 h4 h5,axv hd N h3 h4 h5])))))))))))
def abZ:aE:=bP [.agg aM,tI,tI,tI,tI] (λ
 |[.agg [.int _ S,.int _ R],.int _ W,.int _ U,.int _ Q,.int _ x5]=>Hd S R/\Bd W/\Bd U/\Bd Q/\Bd x5|_=>False) λ
 |[.agg [.int _ S,.int _ R],.int _ W,.int _ U,.int _ Q,.int _ x5]=>.agg [A (kP W U Q x5 S R),A (kX W U Q x5 S R),A (kR W U Q x5 S R),A (kU W U Q x5 S R)]|_=>.any
theorem aiO:b9 abZ 46:=aU Gi λ_ hp=>da (np3 ..) (ae0 _ _ _ _ _ _ hp)
def NC:bm:=(75,.con abj)::(46,.con abZ)::I9
theorem hC':aZ Tryz.prog Bs C3 NC:=.con ahG (.con aiO (Gi))
theorem wd {v:Int} {n:Nat} (h:(!bF v (-1) (E ((n:Int)-1)))=false) (N:decide (0<=v)=true) (hn:true=true->n<=9223372036854775807):decide (0<=v/\v<(n:Int))=true:=by have:=zB (x:=v) (EF h);have hn:=hn rfl;rw[C8 K K]at this;have:=DU N;exact BX K
def N4 (x:Int):Prop:=(0<=x/\x<QE)/\(0<=x/\x<QH)/\∀i:Nat,i<T->0<=aP (O i)/\aP (O i)<H
theorem zT {H T:Nat} {O:be} {QE QH:Nat} {x v:Int} (h:N4 H T O QE QH x) (hv:decide (0<=v/\v<(T:Int))=true):decide (0<=aP (O v.toNat)/\aP (O v.toNat)<(H:Int))=true:=by have:=DU hv;exact BX (h.2.2 v.toNat K)
def acD:RT Empty:=dm (Q,n5,q,n7,f7,n9,f9,Pq,Pp) (.ob (dI Py QE) (.ob (dI Py QH) (.am T (.cb (.br (!bF (av (Q3 Py.toNat)) (-1) (E ((T:Int)-1))) (.ret (A 4)) (.cb (.obi (.br (!!bF (av (Q5 Py.toNat)) 0 200000) (.ob (!!bF (av (Q5 Py.toNat)) 0 200000) (.cb (.obi (.br (!!bF (aP (Q5 Py.toNat)) 0 600) (.ob (!!bF (aP (Q5 Py.toNat)) 0 600) (.cb (.br (!bF (bV (Q5 Py.toNat)) 0 1000) (.ret (A 7)) (.br (decide (0<=av (Q3 Py.toNat))) (.ob (dI (av (Q3 Py.toNat)) T) (.ob (dI (aP (O (av (Q3 Py.toNat)).toNat)) H) (.cb (.br (decide (100000000000<E (max (rh (aB (aA (I (I (I (G (aP (O (av (Q3 Py.toNat)).toNat)).toNat)))))) (λi=>al [Ty.sl L] (bL (aA (I (I (I (G (aP (O (av (Q3 Py.toNat)).toNat)).toNat))))) i)) (cu (G (aP (O (av (Q3 Py.toNat)).toNat)).toNat))) (bE (G (aP (O (av (Q3 Py.toNat)).toNat)).toNat))*bf (O (av (Q3 Py.toNat)).toNat)))) (.ret (A 7)) (.ret (A 0)))))) (.ret (A 0)))))) (.ret (A 7)))))) (.ret (A 7))))))))))
theorem ie4:cY cZ (aQ JJ NC u0 aik [V.agg [V.sl H (D ap G),V.sl T (D B4 O),A Q,V.sl n5 (D bd q),V.sl n7 (D bq f7),V.sl n9 (D bu f9),V.sl Pq (D aV Pp),V.sl QE (D L Q3),V.sl QH (D cI Q5)],A Py]) (acD H G T O Q n5 q n7 f7 n9 f9 Pq Pp QE Q3 QH Q5 Py):=bD
def gK:Int:=bif !bF (av (Q3 Py.toNat)) (-1) (E ((T:Int)-1)) then 4 else bif !!bF (av (Q5 Py.toNat)) 0 200000 then bif !!bF (aP (Q5 Py.toNat)) 0 600 then bif !bF (bV (Q5 Py.toNat)) 0 1000 then 7 else bif decide (0<=av (Q3 Py.toNat)) then bif decide (100000000000<E (max (rh (aB (aA (I (I (I (G (aP (O (av (Q3 Py.toNat)).toNat)).toNat)))))) (λi=>al [Ty.sl L] (bL (aA (I (I (I (G (aP (O (av (Q3 Py.toNat)).toNat)).toNat))))) i)) (cu (G (aP (O (av (Q3 Py.toNat)).toNat)).toNat))) (bE (G (aP (O (av (Q3 Py.toNat)).toNat)).toNat))*bf (O (av (Q3 Py.toNat)).toNat))) then 7 else 0 else 0 else 7 else 7
def tH:V:=dm (H,Q,n5,q,n7,f7,n9,f9,Pq,Pp,QE,QH) (A (gK G T O Q3 Q5 Py))
theorem alF (hp:N4 H T O QE QH Py):aT cM (acD H G T O Q n5 q n7 f7 n9 f9 Pq Pp QE Q3 QH Q5 Py) (tH H G T O Q n5 q n7 f7 n9 f9 Pq Pp QE Q3 QH Q5 Py):=aF (by first|assumption|(first|exact BX hp.1|exact BX hp.2.1|exact wd h0 h4 a0|exact zT hp (wd h0 h4 a0))) (aF (by first|assumption|(first|exact BX hp.1|exact BX hp.2.1|exact wd h0 h4 a0|exact zT hp (wd h0 h4 a0))) (D3 (λa0=>ao (ac (C2 (λh0=>B5 (by unfold tH gK;try rw[h0];rfl)) (λh0=>ao (ac (B1 (C2 (λM=>aF (by first|assumption|(first|exact BX hp.1|exact BX hp.2.1|exact wd h0 h4 a0|exact zT hp (wd h0 h4 a0))) (ao (ac (B1 (C2 (λN=>aF (by first|assumption|(first|exact BX hp.1|exact BX hp.2.1|exact wd h0 h4 a0|exact zT hp (wd h0 h4 a0))) (ao (ac (C2 (λh3=>B5 (by unfold tH gK;try rw[h0];try rw[M];try rw[N];try rw[h3];rfl)) (λh3=>C2 (λh4=>aF (by first|assumption|(first|exact BX hp.1|exact BX hp.2.1|exact wd h0 h4 a0|exact zT hp (wd h0 h4 a0))) (aF (by first|assumption|(first|exact BX hp.1|exact BX hp.2.1|exact wd h0 h4 a0|exact zT hp (wd h0 h4 a0))) (ao (ac (C2 (λh5=>B5 (by unfold tH gK;try rw[h0];try rw[M];try rw[N];try rw[h3];try rw[h4];try rw[h5];rfl)) (λh5=>B5 (by unfold tH gK;try rw[h0];try rw[M];try rw[N];try rw[h3];try rw[h4];try rw[h5];rfl))))))) (λh4=>B5 (by unfold tH gK;try rw[h0];try rw[M];try rw[N];try rw[h3];try rw[h4];rfl))))))) (λN=>B5 (by unfold tH gK;try rw[h0];try rw[M];try rw[N];rfl))))))) (λM=>B5 (by unfold tH gK;try rw[h0];try rw[M];rfl)))))))))))
def ad1:aE:=bP [.agg [.sl ap,.sl B4,tI,.sl bd,.sl bq,.sl bu,.sl aV,.sl L,.sl cI],tI] (λ
 |[.agg [.sl H G,.sl T O,.int _ Q,.sl n5 q,.sl n7 f7,.sl n9 f9,.sl Pq Pp,.sl QE Q3,.sl QH Q5],.int _ Py]=>N4 H T O QE QH Py|_=>False) λ
 |[.agg [.sl H G,.sl T O,.int _ Q,.sl n5 q,.sl n7 f7,.sl n9 f9,.sl Pq Pp,.sl QE Q3,.sl QH Q5],.int _ Py]=>tH H G T O Q n5 q n7 f7 n9 f9 Pq Pp QE Q3 QH Q5 Py|_=>.any
theorem agM:b9 ad1 109:=aU hC' λ_ hp=>da (ie4 ..) (alF _ _ _ _ _ _ _ _ _ _ _ _ _ _ _ _ _ _ hp)
theorem auQ {p:Nat->Int} {z:Int}:∀ k:Nat,1<=k->Br p z k=max z (Br p (p 0) k)
 |0,h=>absurd h aR|1,_=>by show max z (p 0)=max z (max (p 0) (p 0));rw[Int.max_self]
 |k+2,_=>by show max (Br p z (k+1)) (p (k+1))=max z (max (Br p (p 0) (k+1)) (p (k+1)));rw[auQ (k+1) K,Int.max_assoc]
theorem Ce {n5:Nat} {q:be} {z:Int} (h:∀ i,i<n5->1<=aB (aA (q i))):sA n5 q z=rh n5 q z:=by
 unfold sA rh;have:∀ k,k<=n5->Br (λi=>Dw q i) z k=Io q z k:=λk=>by
  induction k with
  |zero=>intro _;rfl
  |succ k ih=>intro hk;show max (Br (λi=>Dw q i) z k) (Dw q k)=Br (λj=>av (bL (aA (q k)) j)) (Io q z k) (aB (aA (q k)));rw[ih K,auQ _ (h k K)];rfl
 exact this n5 (D7 _)
def Il (x:List V):Int:=rh (Mu x) (D [.sl L] (zE x)) (cu x)
def A2 (H:Nat) (G:be) (Q:Int):Int:=bif !bF Q (-1) (E ((H:Int)-1)) then 4 else bif decide (0<=Q) then(bif decide (10000<Il (G Q.toNat)) then 7 else 0) else 0
def N2 (x:List V):Bool:=decide (100000000000<E (max (Il (G (aP x).toNat)) (bE ((G (aP x).toNat)))*bf x))
def Ba (a b c d e g:Bool):Int:=bif !a then 4 else bif !!b then(bif !!c then(bif !d then 7 else bif e then(bif g then 7 else 0) else 0) else 7) else 7
def u7 (G:be) (T:Nat) (O Q3 Q5:be) (i:Nat):Int:=Ba (bF (av ((Q3 i))) (-1) (E ((T:Int)-1))) (bF (av ((Q5 i))) 0 200000) (bF (aP ((Q5 i))) 0 600) (bF (bV ((Q5 i))) 0 1000) (decide (0<=av ((Q3 i)))) (N2 G (O (av ((Q3 i))).toNat))
theorem at5 (O Q3 Q5:be) (i:Nat):gK (D ap G) T (D B4 O) (D L Q3) (D cI Q5) i=u7 G T O Q3 Q5 i:=by unfold gK u7 Ba N2 Il;rfl
section
variable {a b c d e g:Bool}
include a b c d e g
theorem aoj (h:a=false):Ba a b c d e g=4:=by subst h;rfl
theorem ic13 (h:a=true) (N:b=false):Ba a b c d e g=7:=by subst h N;rfl
theorem aso (h:a=true) (N:b=true) (h3:c=false):Ba a b c d e g=7:=by subst h N h3;rfl
theorem ane (h:a=true) (N:b=true) (h3:c=true) (h4:d=false):Ba a b c d e g=7:=by subst h N h3 h4;rfl
theorem aq2 (h:a=true) (N:b=true) (h3:c=true) (h4:d=true) (h5:e=false):Ba a b c d e g=0:=by subst h N h3 h4 h5;rfl
theorem asN (h:a=true) (N:b=true) (h3:c=true) (h4:d=true) (h5:e=true) (h6:g=true):Ba a b c d e g=7:=by subst h N h3 h4 h5 h6;rfl
theorem ao9 (h:a=true) (N:b=true) (h3:c=true) (h4:d=true) (h5:e=true) (h6:g=false):Ba a b c d e g=0:=by subst h N h3 h4 h5 h6;rfl
end
def EK (Pq QE QH:Nat):Bool:=bif(QE:Int)!=(Pq:Int) then true else(QH:Int)!=(Pq:Int)
def VW:Int×Int×Int:=bif dh H (D ap G) T (D B4 O)!=0 then(1,0,dh H (D ap G) T (D B4 O)) else bif gN n5 (D bd q) n7 (D bq f7) n9 (D bu f9) Pq (D aV Pp)!=0 then(2,0,gN n5 (D bd q) n7 (D bq f7) n9 (D bu f9) Pq (D aV Pp)) else bif A2 H G Q !=0 then(3,0,A2 H G Q) else bif EK Pq QE QH then(4,0,2) else Am Pq (u7 G T O Q3 Q5) 4 (0,0,0)
def qv:Int:=(VW H G T O Q n5 q n7 f7 n9 f9 Pq Pp QE Q3 QH Q5).1
def qw:Int:=(VW H G T O Q n5 q n7 f7 n9 f9 Pq Pp QE Q3 QH Q5).2.1
def iW:Int:=(VW H G T O Q n5 q n7 f7 n9 f9 Pq Pp QE Q3 QH Q5).2.2
theorem xq {Pq QE QH:Nat} (h:EK Pq QE QH=false):QE=Pq/\QH=Pq:=by
 unfold EK at h;cases M:((QE:Int)!=(Pq:Int)) with
 |true=>rw[M]at h;cases h
 |false=>rw[M]at h;have h:((QH:Int)!=(Pq:Int))=false:=h;have M:=EM (by simpa using M:((QE:Int)==(Pq:Int))=true);have h:=EM (by simpa using h:((QH:Int)==(Pq:Int))=true);omega
def AK:bm:=(109,.con ad1)::NC
theorem Fv:aZ Tryz.prog Bs C3 AK:=.con agM (hC')
theorem yZ {x:Int} (h:(x !=0)=false):x=0:=EM (by simpa using h:(x==0)=true)
theorem ato {x:Int} (h:x≠0):(x !=0)=true:=by simpa using h
theorem RH {b:Bool} (h:(!b)=true):b=false:=by cases b<;>first|rfl|cases h
theorem wc {b:Bool} (h:(!!b)=true):b=true:=by cases b<;>first|rfl|cases h
theorem Rp {b:Bool} (h:(!!b)=false):b=false:=by cases b<;>first|rfl|cases h
section
variable {Q1:Type} {Nx:Q1->V->Prop} {r:V} {b:Bool} {x y:RT Q1}
include Q1 Nx r b x y
theorem B0 (h:b=true) (hx:aT Nx x r):aT Nx (.br b x y) r:=C2 (λ_=>hx) (λh'=>by rw[h]at h';cases h')
theorem CH (h:b=false) (hx:aT Nx y r):aT Nx (.br b x y) r:=C2 (λh'=>by rw[h]at h';cases h') (λ_=>hx)
end
theorem qU.of_el {G:be} {i:Nat} (h:qU (D ap G i)):qU (G i):=⟨h.u,h.v,h.n,h.row,h.side,h.sky,h.val⟩
theorem Bc {x:List V} (h:qU x):∀i:Nat,i<aB (aA (I (I (I x))))->1<=aB (aA (bL (aA (I (I (I x)))) i)):=λi hi=>by have M:=h.row i hi;have N:=h.v.1;show 1<=aB (aA (zE x i));omega
theorem A7 {x:List V} (h:qU x):∀i:Nat,i<Mu x->1<=aB (aA (D [.sl L] (zE x) i)):=Bc h
theorem KT {Q:Int} {H:Nat} (h:bF Q (-1) (E ((H:Int)-1))=true) (N:decide (0<=Q)=true) (hn:H<=9223372036854775807):decide (0<=Q/\Q<(H:Int))=true:=by have:=zB h;rw[C8 K K]at this;have:=DU N;exact BX K
inductive tj where|L0 (_:Int)
def rdL:tj->bS×List Ax×Option Ex
 |.L0 Pt=>([(9,A Pt),(8,A (Pq:Int)),(1,V.pl 0 0)],[Ax.cells [V.sl H (D ap G),V.sl T (D B4 O),A Q,V.sl n5 (D bd q),V.sl n7 (D bq f7),V.sl n9 (D bu f9),V.sl Pq (D aV Pp),V.sl QE (D L Q3),V.sl QH (D cI Q5)] 35],none)
def agI:tj->JJ
 |.L0 _=>(0,[])
def azA:Bh (cq JJ):=aQ JJ AK u0 aiT [V.agg [V.sl H (D ap G),V.sl T (D B4 O),A Q,V.sl n5 (D bd q),V.sl n7 (D bq f7),V.sl n9 (D bu f9),V.sl Pq (D aV Pp),V.sl QE (D L Q3),V.sl QH (D cI Q5)]]
def R23 (cx:List Cx):Lp JJ:=eX (eJ (azA H G T O Q n5 q n7 f7 n9 f9 Pq Pp QE Q3 QH Q5) [false,false,false,true,false,false])
def ael:JJ->Lp JJ
 |(0,cx)=>R23 H G T O Q n5 q n7 f7 n9 f9 Pq Pp QE Q3 QH Q5 cx|(_,cx)=>R23 H G T O Q n5 q n7 f7 n9 f9 Pq Pp QE Q3 QH Q5 cx
def auf:LD JJ tj:=⟨agI,ael H G T O Q n5 q n7 f7 n9 f9 Pq Pp QE Q3 QH Q5,rdL H G T O Q n5 q n7 f7 n9 f9 Pq Pp QE Q3 QH Q5⟩
def xt (H:Nat) (G:be) (T:Nat) (O:be) (Q:Int) (n5:Nat) (q:be) (n7:Nat) (f7:be) (n9:Nat) (f9:be) (Pq:Nat) (Pp:be) (QE:Nat) (Q3:be) (QH:Nat) (Q5:be):tj->RT tj
 |.L0 Pt=>.br (decide (Pt<(Pq:Int))) (.obp (((0:Int)<=Pt/\Pt<(QE:Int))/\((0:Int)<=Pt/\Pt<(QH:Int))/\∀(i:Nat),i<T->(0:Int)<=aP (O i)/\aP (O i)<(H:Int)) (.obt (.br (gK (D ap G) T (D B4 O) (D L Q3) (D cI Q5) Pt !=0) (.ret (V.tup [A 4,A Pt,A (gK (D ap G) T (D B4 O) (D L Q3) (D cI Q5) Pt)])) (.next DX (tj.L0 (E (Pt+1))) [])))) (.ret (V.tup H9))
def Nm:RT tj:=dm (Q3,Q5) (.obp ((aD H G)/\aD T O) (.obt (.br (dh H (D ap G) T (D B4 O)!=0) (.ret (V.tup [A 1,A 0,A (dh H (D ap G) T (D B4 O))])) (.obp ((aD n5 q)/\aD Pq Pp) (.obt (.br (gN n5 (D bd q) n7 (D bq f7) n9 (D bu f9) Pq (D aV Pp)!=0) (.ret (V.tup [A 2,A 0,A (gN n5 (D bd q) n7 (D bq f7) n9 (D bu f9) Pq (D aV Pp))])) (.am H (.cb (.br (!bF Q (-1) (E ((H:Int)-1))) (.ret (V.tup [A 3,A 0,A 4])) (.iv (.obi (.obj (decide (0<=Q)) (dI Q H) (.obi (.br (decide (0<=Q)) (.ob (decide (0<=Q)) (.cb (.br (decide (10000<rh (aB (aA (I (I (I (G Q.toNat)))))) (λi=>al [Ty.sl L] (bL (aA (I (I (I (G Q.toNat))))) i)) (cu (G Q.toNat)))) (.ret (V.tup [A 3,A 0,A 7])) (.am Pq (.am QE (.ii (.asm ((!(QE:Int)!=(Pq:Int))=true->QH<=9223372036854775807) (.ii (.obi (.br (bif(QE:Int)!=(Pq:Int) then true else(QH:Int)!=(Pq:Int)) (.ret (V.tup [A 4,A 0,A 2])) (.enter DX (tj.L0 0) []))))))))))) (.am Pq (.am QE (.ii (.asm ((!(QE:Int)!=(Pq:Int))=true->QH<=9223372036854775807) (.ii (.obi (.br (bif(QE:Int)!=(Pq:Int) then true else(QH:Int)!=(Pq:Int)) (.ret (V.tup [A 4,A 0,A 2])) (.enter DX (tj.L0 0) []))))))))))))))))))))))
theorem iw7:dZ AK u0 (auf H G T O Q n5 q n7 f7 n9 f9 Pq Pp QE Q3 QH Q5) (azA H G T O Q n5 q n7 f7 n9 f9 Pq Pp QE Q3 QH Q5) (Nm H G T O Q n5 q n7 f7 n9 f9 Pq Pp QE Q3 QH Q5) (xt H G T O Q n5 q n7 f7 n9 f9 Pq Pp QE Q3 QH Q5):=⟨bD,λs=>by cases s<;>exact bD⟩
theorem ae3 (hn:Pq<=9223372036854775807) (hT:∀i,i<H->qU (G i)) (hL:∀i:Nat,i<T->0<=aP (O i)/\aP (O i)<H):Ev (xt H G T O Q n5 q n7 f7 n9 f9 Pq Pp Pq Q3 Pq Q5) (.L0 0) (Ms (Am Pq (u7 G T O Q3 Q5) 4 (0,0,0))):=by refine ku (n:=Pq) hn (λi=>u7 G T O Q3 Q5 i !=0) (P:=λi=>Ev (xt H G T O Q n5 q n7 f7 n9 f9 Pq Pp Pq Q3 Pq Q5) (.L0 i) _) (λi Q7 hj next=>Ev.of rfl (dt Q7 (aI ⟨⟨K,K⟩,⟨K,K⟩,hL⟩ (ac ?_)))) (λhj=>Ev.of rfl (dl (B5 (by rw[mr 4 _ hj];rfl))));rw[show gK (D ap G) T (D B4 O) (D L Q3) (D cI Q5) i=u7 G T O Q3 Q5 i from at5 ..];exact C2 (λh=>B5 (by rw[kV 4 _ Q7 h hj];rfl)) (λh=>aL (next h))
theorem hxx (hp:aD H G/\aD T O/\aD n5 q/\aD Pq Pp):aT (Ev (xt H G T O Q n5 q n7 f7 n9 f9 Pq Pp QE Q3 QH Q5)) (Nm H G T O Q n5 q n7 f7 n9 f9 Pq Pp QE Q3 QH Q5) (.tup [A (qv H G T O Q n5 q n7 f7 n9 f9 Pq Pp QE Q3 QH Q5),A (qw H G T O Q n5 q n7 f7 n9 f9 Pq Pp QE Q3 QH Q5),A (iW H G T O Q n5 q n7 f7 n9 f9 Pq Pp QE Q3 QH Q5)]):=by
 obtain⟨p0,p2,p5,p11⟩:=hp;show aT _ _ (Ms (VW H G T O Q n5 q n7 f7 n9 f9 Pq Pp QE Q3 QH Q5));unfold VW;refine aI ⟨p0,p2⟩ (ac (C2 (λh=>B5 (by rw[h];rfl)) (λh=>?_)));rw[h];have V2:=ye (H:=H) (G:=D ap G) (T:=T) (O:=D B4 O) (yZ h);have hT:∀i,i<H->qU (G i):=λi hi=>qU.of_el (FK (V2.tb i hi));have hL:∀i:Nat,i<T->0<=aP (O i)/\aP (O i)<H:=λi hi=>(Sw V2.l0 (V2.lm i hi)).t;refine aI ⟨p5,p11⟩ (ac (C2 (λh'=>B5 (by rw[h'];rfl)) (λh'=>?_)));rw[h'];have V3:=KW (H:=n5) (G:=D bd q) (T:=n7) (O:=D bq f7) (n4:=n9) (f4:=D bu f9) (n6:=Pq) (f6:=D aV Pp) (yZ h');refine bC λU1=>ao (ac (C2 (λM=>?_) (λM=>?_)))
 ·have hk:A2 H G Q=4:=by
   unfold A2;rw[show bF Q (-1) (E ((H:Int)-1))=false from RH M];rfl
  exact B5 (by rw[hk];rfl)
 ·have M:bF Q (-1) (E ((H:Int)-1))=true:=EF M
  refine B1 (B1 (B1 (B1 (B1 (DY (λN=>?_) (B1 (C2 (λN=>?_) (λN=>?_))))))))
  ·exact KT M N U1
  ·have hx:=DU (KT M N U1)
   refine aF N (ao (ac (C2 (λh3=>?_) (λh3=>?_))))
   ·have hk:A2 H G Q=7:=by
     unfold A2 Il;rw[M,N];exact congrArg (λb=>bif b then(7:Int) else 0) h3
    exact B5 (by rw[hk];rfl)
   have hk:A2 H G Q=0:=by unfold A2 Il;rw[M,N];exact congrArg (λb=>bif b then(7:Int) else 0) h3
   rw[hk];cases hl:EK Pq QE QH with
   |true=>exact D3 λ_=>D3 λ_=>B1 (B1 (D3 λ_=>B1 (B1 (B1 (B0 hl (B5 rfl))))))
   |false=>obtain⟨e1,e2⟩:=xq hl;refine D3 λ_=>D3 λ_=>B1 (B1 (D3 λ_=>B1 (B1 (B1 (CH hl (aH ?_))))));subst e1 e2;exact ae3 _ _ _ _ _ _ _ _ _ _ _ _ _ _ _ (by have:=V3.l6;omega) hT hL
  ·have hk:A2 H G Q=0:=by
    unfold A2;rw[M,N];rfl
   rw[hk];cases hl:EK Pq QE QH with
   |true=>exact D3 λ_=>D3 λ_=>B1 (B1 (D3 λ_=>B1 (B1 (B1 (B0 hl (B5 rfl))))))
   |false=>obtain⟨e1,e2⟩:=xq hl;refine D3 λ_=>D3 λ_=>B1 (B1 (D3 λ_=>B1 (B1 (B1 (CH hl (aH ?_))))));subst e1 e2;exact ae3 _ _ _ _ _ _ _ _ _ _ _ _ _ _ _ (by have:=V3.l6;omega) hT hL
theorem ahC (hp:aD H (D ap G)/\aD T (D B4 O)/\aD n5 (D bd q)/\aD Pq (D aV Pp)):aT (Ev (xt H G T O Q n5 q n7 f7 n9 f9 Pq Pp QE Q3 QH Q5)) (Nm H G T O Q n5 q n7 f7 n9 f9 Pq Pp QE Q3 QH Q5) (.tup [A (qv H (D ap G) T (D B4 O) Q n5 (D bd q) n7 (D bq f7) n9 (D bu f9) Pq (D aV Pp) QE (D L Q3) QH (D cI Q5)),A (qw H (D ap G) T (D B4 O) Q n5 (D bd q) n7 (D bq f7) n9 (D bu f9) Pq (D aV Pp) QE (D L Q3) QH (D cI Q5)),A (iW H (D ap G) T (D B4 O) Q n5 (D bd q) n7 (D bq f7) n9 (D bu f9) Pq (D aV Pp) QE (D L Q3) QH (D cI Q5))]):=hxx H G T O Q n5 q n7 f7 n9 f9 Pq Pp QE Q3 QH Q5 hp
def ach:aE:=bP [.agg [.sl ap,.sl B4,tI,.sl bd,.sl bq,.sl bu,.sl aV,.sl L,.sl cI]] (λ
 |[.agg [.sl H G,.sl T O,.int _ Q,.sl n5 q,.sl n7 f7,.sl n9 f9,.sl Pq Pp,.sl QE Q3,.sl QH Q5]]=>aD H G/\aD T O/\aD n5 q/\aD Pq Pp|_=>False) λ
 |[.agg [.sl H G,.sl T O,.int _ Q,.sl n5 q,.sl n7 f7,.sl n9 f9,.sl Pq Pp,.sl QE Q3,.sl QH Q5]]=>.tup [A (qv H G T O Q n5 q n7 f7 n9 f9 Pq Pp QE Q3 QH Q5),A (qw H G T O Q n5 q n7 f7 n9 f9 Pq Pp QE Q3 QH Q5),A (iW H G T O Q n5 q n7 f7 n9 f9 Pq Pp QE Q3 QH Q5)]|_=>.any
theorem aj2:b9 ach 59:=aU Fv λ_ hp=>kr (iw7 ..) (ahC _ _ _ _ _ _ _ _ _ _ _ _ _ _ _ _ _ hp)
inductive rn where|L0 (_:Int)
def m51:rn->bS×List Ax×Option Ex
 |.L0 Pt=>([(82,A Pt),(81,A (QE:Int)),(80,V.sl QE (D L Q3)),(1,V.pl 0 0)],[Ax.cells [V.sl H (D ap G),V.sl T (D B4 O),A Q,V.sl n5 (D bd q),V.sl n7 (D bq f7),V.sl n9 (D bu f9),V.sl Pq (D aV Pp),V.sl QE (D L Q3),V.sl QH (D cI Q5)] 35],none)
def amr:rn->JJ
 |.L0 _=>(0,[])
def yaO:Bh (cq JJ):=aQ JJ AK u0 ai8 [V.agg [V.sl H (D ap G),V.sl T (D B4 O),A Q,V.sl n5 (D bd q),V.sl n7 (D bq f7),V.sl n9 (D bu f9),V.sl Pq (D aV Pp),V.sl QE (D L Q3),V.sl QH (D cI Q5)]]
def aaK (cx:List Cx):Lp JJ:=eX (eJ (yaO H G T O Q n5 q n7 f7 n9 f9 Pq Pp QE Q3 QH Q5) [false,false,false,true,false,false])
def aei:JJ->Lp JJ
 |(0,cx)=>aaK H G T O Q n5 q n7 f7 n9 f9 Pq Pp QE Q3 QH Q5 cx|(_,cx)=>aaK H G T O Q n5 q n7 f7 n9 f9 Pq Pp QE Q3 QH Q5 cx
def asZ:LD JJ rn:=⟨amr,aei H G T O Q n5 q n7 f7 n9 f9 Pq Pp QE Q3 QH Q5,m51 H G T O Q n5 q n7 f7 n9 f9 Pq Pp QE Q3 QH Q5⟩
def yf (H:Nat) (G:be) (T:Nat) (O:be) (Q:Int) (n5:Nat) (q:be) (n7:Nat) (f7:be) (n9:Nat) (f9:be) (Pq:Nat) (Pp:be) (QE:Nat) (Q3:be) (QH:Nat) (Q5:be):rn->RT rn
 |.L0 Pt=>.br (decide (Pt<(QE:Int))) (.ob (dI Pt QE) (.ob (dI Pt QH) (.am T (.cb (.br (!gH (av (Q3 Pt.toNat)) (-1) (E ((T:Int)-1))) (.ret (V.tup [A 4,A Pt,A 4])) (.cb (.obi (.br (!!gH (av (Q5 Pt.toNat)) 0 200000) (.ob (!!gH (av (Q5 Pt.toNat)) 0 200000) (.cb (.obi (.br (!!gH (aP (Q5 Pt.toNat)) 0 600) (.ob (!!gH (aP (Q5 Pt.toNat)) 0 600) (.cb (.br (!gH (bV (Q5 Pt.toNat)) 0 1000) (.ret (V.tup [A 4,A Pt,A 7])) (.br (decide (av (Q3 Pt.toNat)<0)) (.next DX (rn.L0 (E (Pt+1))) []) (.ob (dI (av (Q3 Pt.toNat)) T) (.ob (dI (aP (O (av (Q3 Pt.toNat)).toNat)) H) (.obp (∀(i:Nat),i<aB (aA (I (I (I (G (aP (O (av (Q3 Pt.toNat)).toNat)).toNat)))))->(1:Nat)<=aB (aA (bL (aA (I (I (I (G (aP (O (av (Q3 Pt.toNat)).toNat)).toNat))))) i))) (.obt (.br (decide (100000000000<E (max (sA (aB (aA (I (I (I (G (aP (O (av (Q3 Pt.toNat)).toNat)).toNat)))))) (λi=>al [Ty.sl L] (bL (aA (I (I (I (G (aP (O (av (Q3 Pt.toNat)).toNat)).toNat))))) i)) (cu (G (aP (O (av (Q3 Pt.toNat)).toNat)).toNat))) (bE (G (aP (O (av (Q3 Pt.toNat)).toNat)).toNat))*bf (O (av (Q3 Pt.toNat)).toNat)))) (.ret (V.tup [A 4,A Pt,A 7])) (.next DX (rn.L0 (E (Pt+1))) [])))))))))) (.ret (V.tup [A 4,A Pt,A 7])))))) (.ret (V.tup [A 4,A Pt,A 7])))))))))) (.ret (V.tup H9))
def Pd:RT rn:=dm (Q3,Q5) (.obp ((aD H G)/\aD T O) (.obt (.br (b7 H (D ap G) T (D B4 O)!=0) (.ret (V.tup [A 1,A 0,A (b7 H (D ap G) T (D B4 O))])) (.obp ((aD n5 q)/\aD Pq Pp) (.obt (.br (jX n5 (D bd q) n7 (D bq f7) n9 (D bu f9) Pq (D aV Pp)!=0) (.ret (V.tup [A 2,A 0,A (jX n5 (D bd q) n7 (D bq f7) n9 (D bu f9) Pq (D aV Pp))])) (.am Pq (.am H (.cb (.br (!gH Q (-1) (E ((H:Int)-1))) (.ret (V.tup [A 3,A 0,A 4])) (.iv (.obi (.obj (decide (0<=Q)) (dI Q H) (.obi (.br (decide (0<=Q)) (.ob (decide (0<=Q)) (.obp (∀(i:Nat),i<aB (aA (I (I (I (G Q.toNat)))))->(1:Nat)<=aB (aA (bL (aA (I (I (I (G Q.toNat))))) i))) (.obt (.br (decide (10000<sA (aB (aA (I (I (I (G Q.toNat)))))) (λi=>al [Ty.sl L] (bL (aA (I (I (I (G Q.toNat))))) i)) (cu (G Q.toNat)))) (.ret (V.tup [A 3,A 0,A 7])) (.am QE (.ii (.asm ((!(QE:Int)!=(Pq:Int))=true->QH<=9223372036854775807) (.ii (.obi (.br (bif(QE:Int)!=(Pq:Int) then true else(QH:Int)!=(Pq:Int)) (.ret (V.tup [A 4,A 0,A 2])) (.am QE (.enter DX (rn.L0 0) [])))))))))))) (.am QE (.ii (.asm ((!(QE:Int)!=(Pq:Int))=true->QH<=9223372036854775807) (.ii (.obi (.br (bif(QE:Int)!=(Pq:Int) then true else(QH:Int)!=(Pq:Int)) (.ret (V.tup [A 4,A 0,A 2])) (.am QE (.enter DX (rn.L0 0) [])))))))))))))))))))))))
theorem mnZ:dZ AK u0 (asZ H G T O Q n5 q n7 f7 n9 f9 Pq Pp QE Q3 QH Q5) (yaO H G T O Q n5 q n7 f7 n9 f9 Pq Pp QE Q3 QH Q5) (Pd H G T O Q n5 q n7 f7 n9 f9 Pq Pp QE Q3 QH Q5) (yf H G T O Q n5 q n7 f7 n9 f9 Pq Pp QE Q3 QH Q5):=⟨bD,λs=>by cases s<;>exact bD⟩
theorem ao0 (hn:Pq<=9223372036854775807) (hT:∀ i,i<H->qU (G i)) (hL:∀ i:Nat,i<T->0<=aP (O i)/\aP (O i)<H):Ev (yf H G T O Q n5 q n7 f7 n9 f9 Pq Pp Pq Q3 Pq Q5) (.L0 0) (Ms (Am Pq (u7 G T O Q3 Q5) 4 (0,0,0))):=by
 refine ku (n:=Pq) hn (λi=>u7 G T O Q3 Q5 i !=0) (P:=λi=>Ev (yf H G T O Q n5 q n7 f7 n9 f9 Pq Pp Pq Q3 Pq Q5) (.L0 i) _) (λi Q7 hj next=>Ev.of rfl (dt Q7 (cX Q7 (cX Q7 (bC λiz19=>ao (ac ?_)))))) (λhj=>Ev.of rfl (dl (B5 (by rw[mr 4 _ hj];rfl))));have Qu:∀e,e≠0->u7 G T O Q3 Q5 i=e->dq (V.tup [A 4,A i,A e])=dq (Ms (Am Pq (u7 G T O Q3 Q5) 4 (0,0,0))):=λe he hc=>by rw[kV 4 _ Q7 (by rw[hc];exact ato he) hj,hc];rfl
 have QG:u7 G T O Q3 Q5 i=0->(u7 G T O Q3 Q5 i !=0)=false:=λh=>by rw[h];rfl
 refine C2 (λh0=>B5 (Qu 4 aR (aoj (RH h0)))) (λh0=>ao (ac (B1 (C2 (λM=>aF M (ao (ac (B1 ?_)))) (λM=>B5 (Qu 7 aR (ic13 (EF h0) (Rp M))))))));refine C2 (λN=>aF N (ao (ac ?_))) (λN=>B5 (Qu 7 aR (aso (EF h0) (wc M) (Rp N))));refine C2 (λh3=>B5 (Qu 7 aR (ane (EF h0) (wc M) (wc N) (RH h3)))) (λh3=>?_);refine C2 (λh4=>aL (next (QG (aq2 (EF h0) (wc M) (wc N) (EF h3) (eQ (λhh:0<=av (Q3 (i:Int).toNat)=>by have:=DU h4;omega)))))) (λh4=>?_);have h5:decide (0<=av (Q3 (i:Int).toNat))=true:=BX (by have:=Dp h4;omega);have hv:=KT (EF h0) h5 iz19;have XG:=DU hv;have ht:=hL (av (Q3 (i:Int).toNat)).toNat K;have hr:=hT (aP (O (av (Q3 (i:Int).toNat)).toNat)).toNat K;refine aF hv (aF (BX ht) (aI (Bc hr) (ac ?_)));have hb:∀b,decide (100000000000<E (max (sA (Mu (G (aP (O (av (Q3 (i:Int).toNat)).toNat)).toNat)) (D [.sl L] (zE (G (aP (O (av (Q3 (i:Int).toNat)).toNat)).toNat))) (cu (G (aP (O (av (Q3 (i:Int).toNat)).toNat)).toNat))) (bE (G (aP (O (av (Q3 (i:Int).toNat)).toNat)).toNat))*bf (O (av (Q3 (i:Int).toNat)).toNat)))=b->N2 G (O (av (Q3 i)).toNat)=b:=λb h=>by rw[Ce (A7 hr)]at h;exact h
 exact C2 (λh6=>B5 (Qu 7 aR (asN (EF h0) (wc M) (wc N) (EF h3) h5 (hb true h6)))) (λh6=>aL (next (QG (ao9 (EF h0) (wc M) (wc N) (EF h3) h5 (hb false h6)))))
theorem hy1 (hp:aD H G/\aD T O/\aD n5 q/\aD Pq Pp):aT (Ev (yf H G T O Q n5 q n7 f7 n9 f9 Pq Pp QE Q3 QH Q5)) (Pd H G T O Q n5 q n7 f7 n9 f9 Pq Pp QE Q3 QH Q5) (.tup [A (qv H G T O Q n5 q n7 f7 n9 f9 Pq Pp QE Q3 QH Q5),A (qw H G T O Q n5 q n7 f7 n9 f9 Pq Pp QE Q3 QH Q5),A (iW H G T O Q n5 q n7 f7 n9 f9 Pq Pp QE Q3 QH Q5)]):=by
 obtain⟨p0,p2,p5,p11⟩:=hp;show aT _ _ (Ms (VW H G T O Q n5 q n7 f7 n9 f9 Pq Pp QE Q3 QH Q5));unfold VW;rw[← show b7 H (D ap G) T (D B4 O)=dh H (D ap G) T (D B4 O) from congrArg (λt=>t.2.2) (qy ..),← Gu];refine aI ⟨p0,p2⟩ (ac (C2 (λh=>B5 (by rw[h];rfl)) (λh=>?_)));rw[h];have V2:=ye (H:=H) (G:=D ap G) (T:=T) (O:=D B4 O) ((congrArg (λt=>t.2.2) (qy ..)).symm.trans (yZ h));have hT:∀i,i<H->qU (G i):=λi hi=>qU.of_el (FK (V2.tb i hi));have hL:∀i:Nat,i<T->0<=aP (O i)/\aP (O i)<H:=λi hi=>(Sw V2.l0 (V2.lm i hi)).t;refine aI ⟨p5,p11⟩ (ac (C2 (λh'=>B5 (by rw[h'];rfl)) (λh'=>?_)));rw[h'];have V3:=KW (H:=n5) (G:=D bd q) (T:=n7) (O:=D bq f7) (n4:=n9) (f4:=D bu f9) (n6:=Pq) (f6:=D aV Pp) (Gu.symm.trans (yZ h'));refine D3 λ_=>?_;refine bC λU1=>ao (ac (C2 (λM=>?_) (λM=>?_)))
 ·have hk:A2 H G Q=4:=by
   unfold A2;rw[show bF Q (-1) (E ((H:Int)-1))=false from RH M];rfl
  exact B5 (by rw[hk];rfl)
 ·have M:bF Q (-1) (E ((H:Int)-1))=true:=EF M
  refine B1 (B1 (B1 (B1 (B1 (DY (λN=>?_) (B1 (C2 (λN=>?_) (λN=>?_))))))))
  ·exact KT M N U1
  ·have hx:=DU (KT M N U1)
   refine aF N (aI (Bc (hT _ K)) (ac (C2 (λh3=>?_) (λh3=>?_))))
   ·have hk:A2 H G Q=7:=by
     unfold A2 Il;rw[M,N,← Ce (A7 (hT Q.toNat K))];exact congrArg (λb=>bif b then(7:Int) else 0) h3
    exact B5 (by rw[hk];rfl)
   have hk:A2 H G Q=0:=by unfold A2 Il;rw[M,N,← Ce (A7 (hT Q.toNat K))];exact congrArg (λb=>bif b then(7:Int) else 0) h3
   rw[hk];cases hl:EK Pq QE QH with
   |true=>exact D3 λ_=>B1 (B1 (D3 λ_=>B1 (B1 (B1 (B0 hl (B5 rfl))))))
   |false=>obtain⟨e1,e2⟩:=xq hl;refine D3 λ_=>B1 (B1 (D3 λ_=>B1 (B1 (B1 (CH hl (D3 λ_=>aH ?_))))));subst e1 e2;exact ao0 _ _ _ _ _ _ _ _ _ _ _ _ _ _ _ (by have:=V3.l6;omega) hT hL
  ·have hk:A2 H G Q=0:=by
    unfold A2;rw[M,N];rfl
   rw[hk];cases hl:EK Pq QE QH with
   |true=>exact D3 λ_=>B1 (B1 (D3 λ_=>B1 (B1 (B1 (B0 hl (B5 rfl))))))
   |false=>obtain⟨e1,e2⟩:=xq hl;refine D3 λ_=>B1 (B1 (D3 λ_=>B1 (B1 (B1 (CH hl (D3 λ_=>aH ?_))))));subst e1 e2;exact ao0 _ _ _ _ _ _ _ _ _ _ _ _ _ _ _ (by have:=V3.l6;omega) hT hL
theorem alQ (hp:aD H (D ap G)/\aD T (D B4 O)/\aD n5 (D bd q)/\aD Pq (D aV Pp)):aT (Ev (yf H G T O Q n5 q n7 f7 n9 f9 Pq Pp QE Q3 QH Q5)) (Pd H G T O Q n5 q n7 f7 n9 f9 Pq Pp QE Q3 QH Q5) (.tup [A (qv H (D ap G) T (D B4 O) Q n5 (D bd q) n7 (D bq f7) n9 (D bu f9) Pq (D aV Pp) QE (D L Q3) QH (D cI Q5)),A (qw H (D ap G) T (D B4 O) Q n5 (D bd q) n7 (D bq f7) n9 (D bu f9) Pq (D aV Pp) QE (D L Q3) QH (D cI Q5)),A (iW H (D ap G) T (D B4 O) Q n5 (D bd q) n7 (D bq f7) n9 (D bu f9) Pq (D aV Pp) QE (D L Q3) QH (D cI Q5))]):=hy1 H G T O Q n5 q n7 f7 n9 f9 Pq Pp QE Q3 QH Q5 hp
def acL:aE:=bP [.agg [.sl ap,.sl B4,tI,.sl bd,.sl bq,.sl bu,.sl aV,.sl L,.sl cI]] (λ
 |[.agg [.sl H G,.sl T O,.int _ Q,.sl n5 q,.sl n7 f7,.sl n9 f9,.sl Pq Pp,.sl QE Q3,.sl QH Q5]]=>aD H G/\aD T O/\aD n5 q/\aD Pq Pp|_=>False) λ
 |[.agg [.sl H G,.sl T O,.int _ Q,.sl n5 q,.sl n7 f7,.sl n9 f9,.sl Pq Pp,.sl QE Q3,.sl QH Q5]]=>.tup [A (qv H G T O Q n5 q n7 f7 n9 f9 Pq Pp QE Q3 QH Q5),A (qw H G T O Q n5 q n7 f7 n9 f9 Pq Pp QE Q3 QH Q5),A (iW H G T O Q n5 q n7 f7 n9 f9 Pq Pp QE Q3 QH Q5)]|_=>.any
theorem azr:b9 acL 23:=aU Fv λ_ hp=>kr (mnZ ..) (alQ _ _ _ _ _ _ _ _ _ _ _ _ _ _ _ _ _ hp)
end
end Go.Dx
