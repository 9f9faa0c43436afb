/- Part 5 of a proof. No conditions. -/
import Derived.Test.YtefgedeiipggkaaGreatDoorLb4
import Derived.Lib.ConvBytes
import Derived.Lib.Walk
import Derived.WalkKit
import Derived.IntWalk
set_option maxRecDepth 100000
set_option linter.unusedVariables false
set_option linter.unusedSimpArgs false
namespace Go.Dx
open Go.IntKind (i64 u64 u8)
open Go.Sx Go.Proofs
variable (H:Nat) (G:be) (R:Nat) (N:be) (n4:Nat) (f4:be) (n6:Nat) (f6:be) (n8:Nat) (f8:be) (Y x9:Int)
noncomputable section
def EW:bo:=(107,.con C24)::(50,.con C23)::wa
theorem Hz:ba Tryz.prog AQ AS EW:=.con awO (.con auV (GW))
inductive ZG where|L0 (_ _:Int)
def arA:ZG->bT×List AD×Option Ex
 |.L0 PW QO=>([(8,D PW),(7,D QO),(6,D (nu H (A aZ G) R (A bj N) n4 (A bm f4) n6 (A aV f6))),(5,D (nE H (A aZ G) R (A bj N) n4 (A bm f4) n6 (A aV f6))),(14,D (j6 H (A aZ G) R (A bj N) n4 (A bm f4) n6 (A aV f6))),(13,D (nu H (A aZ G) R (A bj N) n4 (A bm f4) n6 (A aV f6))),(12,D (nE H (A aZ G) R (A bj N) n4 (A bm f4) n6 (A aV f6))),(9,V.tup [D (nE H (A aZ G) R (A bj N) n4 (A bm f4) n6 (A aV f6)),D (nu H (A aZ G) R (A bj N) n4 (A bm f4) n6 (A aV f6)),D (j6 H (A aZ G) R (A bj N) n4 (A bm f4) n6 (A aV f6))]),(11,V.tup [D (nE H (A aZ G) R (A bj N) n4 (A bm f4) n6 (A aV f6)),D (nu H (A aZ G) R (A bj N) n4 (A bm f4) n6 (A aV f6)),D (j6 H (A aZ G) R (A bj N) n4 (A bm f4) n6 (A aV f6))]),(10,Cq H G R N n4 f4 n6 f6),(4,D 0),(2,V.pl 0 0),(0,Cq H G R N n4 f4 n6 f6),(1,V.sl n8 (A L f8))],[AD.cells [V.sl H (A aZ G),V.sl R (A bj N),V.sl n4 (A bm f4),V.sl n6 (A aV f6)] 31],none)
def awD:ZG->JJ
 |.L0 ..=>(0,[])
def apj:AN (cr JJ):=aQ JJ EW u0 ar5 [Cq H G R N n4 f4 n6 f6,V.sl n8 (A L f8)]
def dvX (cx:List Cx):Lp JJ:=eX (eC (apj H G R N n4 f4 n6 f6 n8 f8) [])
def ayC:JJ->Lp JJ
 |(0,cx)=>dvX H G R N n4 f4 n6 f6 n8 f8 cx|(_,cx)=>dvX H G R N n4 f4 n6 f6 n8 f8 cx
def D44:LD JJ ZG:=⟨awD,ayC H G R N n4 f4 n6 f6 n8 f8,arA H G R N n4 f4 n6 f6 n8 f8⟩
def Mp (H:Nat) (G:be) (R:Nat) (N:be) (n4:Nat) (f4:be) (n6:Nat) (f6:be) (n8:Nat) (f8:be):ZG->RT ZG
 |.L0 PW QO=>.am n8 (.ii (.br (bif decide (PW<(n8:Int)) then QO==0 else false) (.ob (decide (0<=PW/\PW<(n8:Int))) (.ob (decide (0<=E (PW+1)/\E (PW+1)<(n8:Int))) (.cb (.br (bY (aA (f8 PW.toNat)) 0 (E (aA (f8 (E (PW+1)).toNat)-1))) (.next Az (ZG.L0 (E (PW+2)) 4) []) (.next Az (ZG.L0 (E (PW+2)) QO) []))))) (.ret (D QO))))
def OY:RT ZG:=dm (n8,f8) (.obp ((aC H G)/\aC n6 f6) (.obt (.enter Az (ZG.L0 0 (j6 H (A aZ G) R (A bj N) n4 (A bm f4) n6 (A aV f6))) [])))
theorem atx:d0 EW u0 (D44 H G R N n4 f4 n6 f6 n8 f8) (apj H G R N n4 f4 n6 f6 n8 f8) (OY H G R N n4 f4 n6 f6 n8 f8) (Mp H G R N n4 f4 n6 f6 n8 f8):=⟨bF,λs=>by cases s<;>exact bF⟩
def TR (k:Nat):Bool:=bY (aA (f8 (2*k))) 0 (E (aA (f8 (2*k+1))-1))
def Zt (e:Int):Int:=bif e==0 then(bif gW (n8 / 2) (TR f8) then 4 else 0) else e
def M1:Int:=Zt n8 f8 (j6 H (A aZ G) R (A bj N) n4 (A bm f4) n6 (A aV f6))
theorem adG (i e:Int) (he:(e==0)=false):Ev (Mp H G R N n4 f4 n6 f6 n8 f8) (.L0 i e) (D e):=Ev.of rfl (Af λ_=>AE (AE (cW (by rw[he];cases decide (i<(n8:Int))<;>rfl) (AF rfl))))
theorem asv (hm:n8 % 2=0) (hn:n8<=100):∀ k:Nat,k<=n8 / 2->(∀ j,j<k->TR f8 j=false)->Ev (Mp H G R N n4 f4 n6 f6 n8 f8) (.L0 ((2*k:Nat):Int) 0) (D (bif gW (n8 / 2) (TR f8) then 4 else 0)):=by
 refine dv λk hk ih hj=>Ev.of rfl (Af λ_=>AE (AE (AP (λh=>?_) (λh=>?_))))
 ·have Pj:2*k<n8:=by
   by_cases hh:((2*k:Nat):Int)<(n8:Int)
   ·omega
   ·rw[eM hh]at h;cases h
  have w1:E (((2*k:Nat):Int)+1)=((2*k+1:Nat):Int):=by rw[AX K K];omega
  have w2:E (((2*k:Nat):Int)+2)=((2*(k+1):Nat):Int):=by rw[AX K K];omega
  refine aF (AG K) (aF (AG (by rw[w1];omega)) (AM (ac (AP (λhb=>aK ?_) (λhb=>aK ?_)))))
  ·rw[w1]at hb;simp only[Bt]at hb;rw[cZ (p:=TR f8) k K hb,cond_true];exact adG H G R N n4 f4 n6 f6 n8 f8 _ 4 rfl
  ·rw[w1]at hb
   simp only[Bt]at hb;rw[w2];refine ih K (λj h3=>?_);by_cases e:j=k
   ·subst e;exact hb
   ·exact hj j K
 ·have e:k=n8 / 2:=by
   by_cases hh:((2*k:Nat):Int)<(n8:Int)
   ·rw[AG hh]at h;cases h
   ·omega
  rw[show gW (n8 / 2) (TR f8)=false from da λj h=>hj j K];exact AF rfl
theorem apR (hm:n8 % 2=0) (hn:n8<=100) (e:Int):Ev (Mp H G R N n4 f4 n6 f6 n8 f8) (.L0 0 e) (D (Zt n8 f8 e)):=by
 unfold Zt;cases he:e==0 with
 |false=>exact adG H G R N n4 f4 n6 f6 n8 f8 0 e he
 |true=>have:e=0:=DU he;subst this;exact asv H G R N n4 f4 n6 f6 n8 f8 hm hn 0 K (λj h=>by omega)
theorem ak2 (hp:(aC H G/\aC n6 f6)/\n8 % 2=0/\n8<=100):aU (Ev (Mp H G R N n4 f4 n6 f6 n8 f8)) (OY H G R N n4 f4 n6 f6 n8 f8) (D (M1 H G R N n4 f4 n6 f6 n8 f8)):=aI hp.1 (ac (aH (apR H G R N n4 f4 n6 f6 n8 f8 hp.2.1 hp.2.2 _)))
theorem awa (hp:(aC H (A aZ G)/\aC n6 (A aV f6))/\n8 % 2=0/\n8<=100):aU (Ev (Mp H G R N n4 f4 n6 f6 n8 f8)) (OY H G R N n4 f4 n6 f6 n8 f8) (D (M1 H (A aZ G) R (A bj N) n4 (A bm f4) n6 (A aV f6) n8 (A L f8))):=ak2 H G R N n4 f4 n6 f6 n8 f8 hp
def C44:aD:=bP [.agg [.sl aZ,.sl bj,.sl bm,.sl aV],.sl L] (λ
 |[.agg [.sl H G,.sl R N,.sl n4 f4,.sl n6 f6],.sl n8 f8]=>(aC H G/\aC n6 f6)/\n8 % 2=0/\n8<=100|_=>False) λ
 |[.agg [.sl H G,.sl R N,.sl n4 f4,.sl n6 f6],.sl n8 f8]=>D (M1 H G R N n4 f4 n6 f6 n8 f8)|_=>.any
theorem ayJ:b7 C44 98:=aT Hz λ_ hp=>kt (atx ..) (awa _ _ _ _ _ _ _ _ _ _ hp)
def m91:RT Empty:=.obp ((aC H G)/\aC n6 f6) (.obt (.ret (D (gR H (A aZ G) R (A bj N) n4 (A bm f4) n6 (A aV f6)))))
theorem aqx:cV cX (aQ JJ EW u0 awk [Cq H G R N n4 f4 n6 f6]) (m91 H G R N n4 f4 n6 f6):=bF
def sW:Int:=gR H (A aZ G) R (A bj N) n4 (A bm f4) n6 (A aV f6)
def Lz:V:=D (sW H G R N n4 f4 n6 f6)
theorem ay4 (hp:aC H G/\aC n6 f6):aU cN (m91 H G R N n4 f4 n6 f6) (Lz H G R N n4 f4 n6 f6):=aI (by first|assumption|(exact hp)) (ac (AF (by unfold Lz sW;rfl)))
def C91:aD:=bP [.agg [.sl aZ,.sl bj,.sl bm,.sl aV]] (λ
 |[.agg [.sl H G,.sl R N,.sl n4 f4,.sl n6 f6]]=>aC H G/\aC n6 f6|_=>False) λ
 |[.agg [.sl H G,.sl R N,.sl n4 f4,.sl n6 f6]]=>Lz H G R N n4 f4 n6 f6|_=>.any
theorem axa:b7 C91 171:=aT Hz λ_ hp=>c7 (aqx ..) (ay4 _ _ _ _ _ _ _ _ hp)
def UA:bo:=(98,.con C44)::(171,.con C91)::EW
theorem hb':ba Tryz.prog AQ AS UA:=.con ayJ (.con axa (Hz))
def m50:RT Empty:=.obp ((aC H G)/\aC n6 f6) (.obt (.iv (.ii (.obi (.br (bif sW H (A aZ G) R (A bj N) n4 (A bm f4) n6 (A aV f6)==0 then bif decide (Y<0) then true else decide (x9<=Y) else false) (.ret (D 4)) (.ret (D (sW H (A aZ G) R (A bj N) n4 (A bm f4) n6 (A aV f6)))))))))
theorem atL:cV cX (aQ JJ UA u0 awJ [Cq H G R N n4 f4 n6 f6,D Y,D x9]) (m50 H G R N n4 f4 n6 f6 Y x9):=bF
def jv:Int:=bif bif sW H (A aZ G) R (A bj N) n4 (A bm f4) n6 (A aV f6)==0 then bif decide (Y<0) then true else decide (x9<=Y) else false then 4 else sW H (A aZ G) R (A bj N) n4 (A bm f4) n6 (A aV f6)
def KO:V:=D (jv H G R N n4 f4 n6 f6 Y x9)
theorem awL (hp:aC H G/\aC n6 f6):aU cN (m50 H G R N n4 f4 n6 f6 Y x9) (KO H G R N n4 f4 n6 f6 Y x9):=aI (by first|assumption|(exact hp)) (ac (AE (AE (AE (AE (AE (AE (AE (AP (λh0=>AF (by unfold KO jv;try rw[h0];rfl)) (λh0=>AF (by unfold KO jv;try rw[h0];rfl)))))))))))
def C50:aD:=bP [.agg [.sl aZ,.sl bj,.sl bm,.sl aV],tI,tI] (λ
 |[.agg [.sl H G,.sl R N,.sl n4 f4,.sl n6 f6],.int _ Y,.int _ x9]=>aC H G/\aC n6 f6|_=>False) λ
 |[.agg [.sl H G,.sl R N,.sl n4 f4,.sl n6 f6],.int _ Y,.int _ x9]=>KO H G R N n4 f4 n6 f6 Y x9|_=>.any
theorem aAf:b7 C50 117:=aT hb' λ_ hp=>c7 (atL ..) (awL _ _ _ _ _ _ _ _ _ _ hp)
end
end Go.Dx
namespace Go.Dx
open Go.IntKind (i64 u64 u8)
open Go.Sx Go.Proofs
noncomputable section
attribute [local irreducible] M1 jv sW
end
end Go.Dx
namespace Go.Proofs
open Go.RowKit Go.Dx
def Bs (b:Int) (i:Int):Bool:=bif !(bif decide (97<=b) then decide (b<=122) else false) then(bif i==0 then true else bif !(bif decide (48<=b) then decide (b<=57) else false) then b !=45 else false) else false
def kG (s:ByteArray):Bool:=dz s.size (λi=>!Bs ((s.data.toList.getD i 0).toNat:Int) i)&&decide (0<s.size/\s.size<=24)
theorem NR {p:Prop} (h:p):Hid p:=h
theorem hne (w:World) (e:TypeId) (s:ByteArray):Below w.heap.size w (Lib.bytesWorld w e s):=by refine⟨rfl,rfl,rfl,?_,λb hb=>Lib.bytesWorld_at_old w e s b hb⟩;rw[Lib.bytesWorld_size];omega
theorem pV (x k:Nat):Bs (x:Int) (k:Int)=true↔¬ (97<=x/\x<=122)/\(k=0∨¬ (48<=x/\x<=57)/\x≠45):=by
 have key:∀(p1 p2 p3 p4 p5 p6:Bool),(bif !(bif p1 then p2 else false) then(bif p3 then true else bif !(bif p4 then p5 else false) then p6 else false) else false)=true↔¬(p1=true/\p2=true)/\(p3=true∨¬(p4=true/\p5=true)/\p6=true):=by decide
 unfold Bs;rw[key];simp only[DJ,E4,bne_iff_ne,ne_eq];omega
theorem ia0 {s:ByteArray} {k x:Nat} (hk:k<s.size) (hx:(s.data.toList.getD k 0).toNat=x) (h:¬(97<=x/\x<=122)/\(k=0∨¬(48<=x/\x<=57)/\x≠45)):kG s=false:=by unfold kG;rw[gq k hk (by rw[hx,(pV x k).2 h];rfl)];rfl
theorem hpp {s:ByteArray} {k x:Nat} (Rh:∀ j:Nat,j<k->Bs ((s.data.toList.getD j 0).toNat:Int) j=false) (hx:(s.data.toList.getD k 0).toNat=x) (h:¬ (¬ (97<=x/\x<=122)/\(k=0∨¬ (48<=x/\x<=57)/\x≠45))):∀ j:Nat,j<k+1->Bs ((s.data.toList.getD j 0).toNat:Int) j=false:=λj hj=>by
 by_cases e:j=k
 ·subst e
  rw[hx];cases hb:Bs (x:Int) j with
  |false=>rfl|true=>exact(h ((pV x j).1 hb)).elim
 ·exact Rh j K
theorem hsp {s:ByteArray} (Rh:∀j:Nat,j<s.size->Bs ((s.data.toList.getD j 0).toNat:Int) j=false):kG s=decide (0<s.size/\s.size<=24):=by unfold kG;rw[fQ λi hi=>by rw[Rh i hi];rfl];rfl
theorem adp (s:ByteArray):s.toList=[]↔s.size=0:=by rw[ByteArray.toList_eq];obtain⟨⟨l⟩⟩:=s;show l=[]↔l.length=0;exact List.length_eq_zero_iff.symm
set_option maxHeartbeats 4000000 in
theorem Tryz.name_calls (s:ByteArray) (w:World) (hs:s.size<=9223372036854775807):Calls Tryz.prog 131 #[.string s] w λe w'=>e=.returned (.bool (kG s))/\Below w.heap.size w w':=by
 have hB:∀t,t<s.size->(Lib.bytesWorld w 5 s).cell? ⟨w.heap.size,t,none⟩=some (.int .u8 (s.data.toList.getD t 0).toNat):=λt ht=>Lib.bytesWorld_cell w 5 s t ht;have hbel:=hne w 5 s
 go_enter Tryz.func131,Tryz.ntmps131
 go_wp2
 rw[Lib.run_convert_string_bytes w 9 221 5 s (u:=.string) bD bD bD];simp only[Result.andThen];rw[Oper.upon_value];obtain⟨W1,hW1⟩:∃W1,W1=Lib.bytesWorld w 5 s:=⟨_,rfl⟩;rw[← hW1]at hB hbel ⊢;have bb1:=NR hW1;have HB:=NR hB;clear hW1 hB
 go_wp2
 go_loop [9] (λi=>∃k:Nat,k<=s.size/\i=.int .i64 k/\Hid (∀j:Nat,j<k->Bs ((s.data.toList.getD j 0).toNat:Int) j=false)) (λi=>s.size-(intOf i).toNat)
 case atStart=>exact⟨0,Bc _,rfl,λj hj=>absurd hj (Fj _)⟩
 case round=>
  obtain⟨k,hk,rfl,Rh⟩:=hrel;by_cases hkn:k<s.size
  ·have Sz:=HB.out k hkn
   generalize hx:(s.data.toList.getD k 0).toNat=x at Sz;have Hx:=NR hx;clear hx
   go_wp2
   all_goals first
    | (go_ret
       have hb:=ia0 hkn Hx (by clear HB Rh Hx Sz bb1 hbel;try simp only[EY,Bool.not_eq_false',decide_eq_false_iff_not,DJ,E4,bne_iff_ne,ne_eq,KV,bne_eq_false_iff_eq]at *;omega);rw[hb];exact⟨rfl,hbel⟩)
    |exact⟨⟨k+1,K,by first|rfl|(congr 1;omega),hpp Rh Hx (by clear HB Rh Hx Sz bb1 hbel;try simp only[EY,Bool.not_eq_false',decide_eq_false_iff_not,DJ,E4,bne_iff_ne,ne_eq,KV,bne_eq_false_iff_eq]at *;omega)⟩,by simp[intOf];omega⟩|skip
   trace_state
  ·obtain rfl:k=s.size:=by omega
   have he:=hsp Rh
   go_wp2
   ·go_ret
    rename_i h _;rw[(adp s).1 h];exact⟨rfl,hbel⟩
   ·go_ret
    rename_i h _;refine⟨?_,hbel⟩;have h0:s.size≠0:=λe=>h ((adp s).2 e);have e1:s.toList.isEmpty=false:=by cases hl:s.toList with|nil=>exact(h hl).elim|cons a l=>rfl
    have e2:decide (0<s.size)=true:=J3 K;have e3:decide ((s.size:Int)<=24)=decide (s.size<=24):=decide_eq_decide.2 K;rw[e2];show Ending.returned (.bool (!s.toList.isEmpty&&decide ((s.size:Int)<=24)))=_;rw[e1,e3];rfl
end Go.Proofs
namespace Go.Dx
open Go.Sx Go.Proofs
noncomputable section
def PK:aD:=bP [.str] (λ
 |[.str s]=>s.size<=9223372036854775807|_=>False) λ
 |[.str s]=>.bool (kG s)|_=>.any
theorem ant:(vP PK).Ok Tryz.prog 131:=by refine⟨λB m lh w args vs PR hrel hargs Rh=>?_,λ_ _ _ _ _ hk ⟨ds,d,p,r,M,Q,h3,h4,h5⟩=>⟨ds,d,p,r,M,Q,h3,h4,hk _ _ h5⟩,λ_ _ _ _ ⟨_,_,_,_,_,_,_,_,h⟩=>h⟩;obtain⟨ds,d,p,r,M,Q,⟨SK,h3⟩,h4,h5⟩:=Rh;simp only[PK,bP,Ak,Prod.mk.injEq]at Q;obtain⟨rfl,rfl,rfl⟩:=Q;have SH:=(kz [.str] ds [] [] rfl SK).1;simp only[bQ,dG]at SH;obtain⟨e1,e2,e3⟩:=SH;rw[e2,e3]at e1;generalize sv (av ds)=s at e1;subst e1;simp only[lQ,Ti]at h3 h4 h5;simp only[bK,vr]at M;obtain⟨_,_,rfl,rfl,rfl⟩:=M;simp only[aE,AW]at hargs;obtain⟨_,_,rfl,rfl,rfl⟩:=hargs;refine⟨⟨_,Tryz.func131,by kernel_rfl,by kernel_rfl⟩,(Tryz.name_calls s w h3).mono λe w' ⟨he,hb⟩=>?_⟩;exact⟨_,_,m,lh,he,by simp only[dj,AW],jI.refl _ _,bk.below hrel hb,h5⟩
end
end Go.Dx
namespace Go.Dx
open Go.IntKind (i64 u64 u8)
open Go.Sx Go.Proofs
variable (H:Nat) (G:be) (T:Int) (s0:ByteArray) (n1:Nat) (f1:be) (S:Int) (R:Nat) (N:be) (W:Int) (s2:ByteArray) (n3:Nat) (f3:be) (U:Int) (n4:Nat) (f4:be) (O:Int) (n5:Nat) (q:be) (x5 x6:Int) (n7:Nat) (f7:be) (Z Y x9 PV PT PZ Pk:Int) (Qs:Nat) (TJ:be) (Z4:Nat) (TK:be)
noncomputable section
def uh:bo:=(117,.con C50)::(131,.con PK)::UA
theorem oX:ba Tryz.prog AQ AS uh:=.con aAf (.con ant (hb'))
def adE:RT Empty:=.ii (.obi (.ret (V.bool (bif decide (S<=T) then decide (T<=W) else false))))
theorem ix0:cV cX (aQ JJ uh u0 ajX [D T,D S,D W]) (adE T S W):=bF
def aB:Bool:=bif decide (S<=T) then decide (T<=W) else false
def Qt:V:=.bool (aB T S W)
theorem agn:aU cN (adE T S W) (Qt T S W):=AE (AE (AE (AF (by unfold Qt aB;rfl))))
def On:aD:=bP cg (λ_=>True) λ|[.int _ T,.int _ S,.int _ W]=>Qt T S W|_=>.any
theorem hfl:b7 On 82:=aT oX λ_ hp=>c7 (ix0 ..) (agn _ _ _)
def aaB:RT Empty:=.iv (.iv (.obi (.ret (V.bool (bif bif decide (W<=T) then decide (T<=S) else false then decide (S<=U) else false)))))
theorem wrE:cV cX (aQ JJ uh u0 am9 [V.agg [D T,D S],D W,D U]) (aaB T S W U):=bF
def gi:Bool:=bif bif decide (W<=T) then decide (T<=S) else false then decide (S<=U) else false
def Tr:V:=.bool (gi T S W U)
theorem anJ:aU cN (aaB T S W U) (Tr T S W U):=AE (AE (AE (AE (AE (AE (AE (AE (AE (AF (by unfold Tr gi;rfl))))))))))
def abZ:aD:=bP [.agg aM,tI,tI] (λ_=>True) λ|[.agg [.int _ T,.int _ S],.int _ W,.int _ U]=>Tr T S W U|_=>.any
theorem ahA:b7 abZ 83:=aT oX λ_ hp=>c7 (wrE ..) (anJ _ _ _ _)
def acA:RT Empty:=.ii (.obi (.ret (V.bool (bif decide (S<=T) then decide (T<=W) else false))))
theorem na1:cV cX (aQ JJ uh u0 fc3 [D T,D S,D W]) (acA T S W):=bF
def fp:Bool:=bif decide (S<=T) then decide (T<=W) else false
def O8:V:=.bool (fp T S W)
theorem ae2:aU cN (acA T S W) (O8 T S W):=AE (AE (AE (AF (by unfold O8 fp;rfl))))
def aeK:aD:=bP cg (λ_=>True) λ|[.int _ T,.int _ S,.int _ W]=>O8 T S W|_=>.any
theorem ah2:b7 aeK 44:=aT oX λ_ hp=>c7 (na1 ..) (ae2 _ _ _)
def aaI:RT Empty:=.ii (.obi (.ret (V.bool (bif decide (S<=T) then decide (T<=W) else false))))
theorem yak:cV cX (aQ JJ uh u0 ani [D T,D S,D W]) (aaI T S W):=bF
def bg:Bool:=bif decide (S<=T) then decide (T<=W) else false
def NB:V:=.bool (bg T S W)
theorem alH:aU cN (aaI T S W) (NB T S W):=AE (AE (AE (AF (by unfold NB bg;rfl))))
def abT:aD:=bP cg (λ_=>True) λ|[.int _ T,.int _ S,.int _ W]=>NB T S W|_=>.any
theorem anH:b7 abT 47:=aT oX λ_ hp=>c7 (yak ..) (alH _ _ _)
def abQ:RT Empty:=.ii (.obi (.ret (V.bool (bif decide (S<=T) then decide (T<=W) else false))))
theorem ty2:cV cX (aQ JJ uh u0 aht [D T,D S,D W]) (abQ T S W):=bF
def aG:Bool:=bif decide (S<=T) then decide (T<=W) else false
def QR:V:=.bool (aG T S W)
theorem aih:aU cN (abQ T S W) (QR T S W):=AE (AE (AE (AF (by unfold QR aG;rfl))))
def aaS:aD:=bP cg (λ_=>True) λ|[.int _ T,.int _ S,.int _ W]=>QR T S W|_=>.any
theorem akb:b7 aaS 166:=aT oX λ_ hp=>c7 (ty2 ..) (aih _ _ _)
def ad3:RT Empty:=dm (n1,f1,n3,f3,n5,q,Z,Y) (.ret (V.str s0))
theorem inT:cV cX (aQ JJ uh u0 akT [V.agg [V.str s0,V.sl n1 (A L f1),V.sl n3 (A L f3),V.sl n5 (A [Ty.sl L] q),D Z,D Y]]) (ad3 s0 n1 f1 n3 f3 n5 q Z Y):=bF
def Rf:V:=dm (n1,f1,n3,f3,n5,q,Z,Y) (.str (s0))
theorem aha:aU cN (ad3 s0 n1 f1 n3 f3 n5 q Z Y) (Rf s0 n1 f1 n3 f3 n5 q Z Y):=AF (by unfold Rf ; rfl)
def ael:aD:=bP [.agg al] (λ_=>True) λ|[.agg [.str s0,.sl n1 f1,.sl n3 f3,.sl n5 q,.int _ Z,.int _ Y]]=>Rf s0 n1 f1 n3 f3 n5 q Z Y|_=>.any
theorem aj8:b7 ael 77:=aT oX λ_ hp=>c7 (inT ..) (aha _ _ _ _ _ _ _ _ _)
def ac7:RT Empty:=dm (S,W,U,O,x5,x6,Z,Y,x9,PV,PT,PZ,Pk) (.ret (V.str s0))
theorem yag:cV cX (aQ JJ uh u0 ai9 [V.agg [V.str s0,D S,D W,D U,D O,D x5,D x6,D Z,D Y,D x9,D PV,D PT,D PZ,D Pk]]) (ac7 s0 S W U O x5 x6 Z Y x9 PV PT PZ Pk):=bF
def Ow:V:=dm (S,W,U,O,x5,x6,Z,Y,x9,PV,PT,PZ,Pk) (.str (s0))
theorem ann:aU cN (ac7 s0 S W U O x5 x6 Z Y x9 PV PT PZ Pk) (Ow s0 S W U O x5 x6 Z Y x9 PV PT PZ Pk):=AF (by unfold Ow ; rfl)
def ack:aD:=bP [.agg ao] (λ_=>True) λ|[.agg [.str s0,.int _ S,.int _ W,.int _ U,.int _ O,.int _ x5,.int _ x6,.int _ Z,.int _ Y,.int _ x9,.int _ PV,.int _ PT,.int _ PZ,.int _ Pk]]=>Ow s0 S W U O x5 x6 Z Y x9 PV PT PZ Pk|_=>.any
theorem alm:b7 ack 80:=aT oX λ_ hp=>c7 (yag ..) (ann _ _ _ _ _ _ _ _ _ _ _ _ _ _)
def aeP:RT Empty:=.ob (decide (S≠0)) (.br (decide (T.tmod S<0)) (.ob (decide (S≠0)) (.ret (D (E (E (T.tdiv S)-1))))) (.ob (decide (S≠0)) (.ret (D (E (T.tdiv S))))))
theorem if3:cV cX (aQ JJ uh u0 amk [D T,D S]) (aeP T S):=bF
def dT:Int:=bif decide (T.tmod S<0) then E (E (T.tdiv S)-1) else E (T.tdiv S)
def KH:V:=D (dT T S)
theorem aiK (hp:S≠0):aU cN (aeP T S) (KH T S):=aF (by first|assumption|(simp[hp])) (AP (λh0=>aF (by first|assumption|(simp[hp])) (AF (by unfold KH dT;try rw[h0];rfl))) (λh0=>aF (by first|assumption|(simp[hp])) (AF (by unfold KH dT;try rw[h0];rfl))))
def abv:aD:=bP aM (λ
 |[.int _ T,.int _ S]=>S≠0|_=>False) λ
 |[.int _ T,.int _ S]=>KH T S|_=>.any
theorem age:b7 abv 115:=aT oX λ_ hp=>c7 (if3 ..) (aiK _ _ hp)
def abK:RT Empty:=.ob (decide (S≠0)) (.ob (decide (S≠0)) (.br (decide (T.tmod S<0)) (.ret (D (E (E (T.tdiv S)-1)))) (.ret (D (E (T.tdiv S))))))
theorem aaq:cV cX (aQ JJ uh u0 agp [D T,D S]) (abK T S):=bF
def fS:Int:=bif decide (T.tmod S<0) then E (E (T.tdiv S)-1) else E (T.tdiv S)
def Fo:V:=D (fS T S)
theorem alA (hp:S≠0):aU cN (abK T S) (Fo T S):=aF (by first|assumption|(simp[hp])) (aF (by first|assumption|(simp[hp])) (AP (λh0=>AF (by unfold Fo fS;try rw[h0];rfl)) (λh0=>AF (by unfold Fo fS;try rw[h0];rfl))))
def adi:aD:=bP aM (λ
 |[.int _ T,.int _ S]=>S≠0|_=>False) λ
 |[.int _ T,.int _ S]=>Fo T S|_=>.any
theorem he':b7 adi 96:=aT oX λ_ hp=>c7 (aaq ..) (alA _ _ hp)
def ab3:RT Empty:=.ob (decide (S≠0)) (.ob (decide (S≠0)) (.br (decide (T.tmod S<0)) (.ret (D (E (E (T.tdiv S)-1)))) (.ret (D (E (T.tdiv S))))))
theorem ih0:cV cX (aQ JJ uh u0 agE [V.agg [D T,D S]]) (ab3 T S):=bF
def dS:Int:=bif decide (T.tmod S<0) then E (E (T.tdiv S)-1) else E (T.tdiv S)
def DW:V:=D (dS T S)
theorem afw (hp:S≠0):aU cN (ab3 T S) (DW T S):=aF (by first|assumption|(simp[hp])) (aF (by first|assumption|(simp[hp])) (AP (λh0=>AF (by unfold DW dS;try rw[h0];rfl)) (λh0=>AF (by unfold DW dS;try rw[h0];rfl))))
def abV:aD:=bP [.agg aM] (λ
 |[.agg [.int _ T,.int _ S]]=>S≠0|_=>False) λ
 |[.agg [.int _ T,.int _ S]]=>DW T S|_=>.any
theorem yaO:b7 abV 29:=aT oX λ_ hp=>c7 (ih0 ..) (afw _ _ hp)
def aaO:RT Empty:=.ob (decide (S≠0)) (.br (decide (T.tmod S<0)) (.ob (decide (S≠0)) (.ret (D (E (E (T.tdiv S)-1))))) (.ob (decide (S≠0)) (.ret (D (E (T.tdiv S))))))
theorem ip2:cV cX (aQ JJ uh u0 anF [D T,D S]) (aaO T S):=bF
def fq:Int:=bif decide (T.tmod S<0) then E (E (T.tdiv S)-1) else E (T.tdiv S)
def JY:V:=D (fq T S)
theorem anu (hp:S≠0):aU cN (aaO T S) (JY T S):=aF (by first|assumption|(simp[hp])) (AP (λh0=>aF (by first|assumption|(simp[hp])) (AF (by unfold JY fq;try rw[h0];rfl))) (λh0=>aF (by first|assumption|(simp[hp])) (AF (by unfold JY fq;try rw[h0];rfl))))
def adA:aD:=bP aM (λ
 |[.int _ T,.int _ S]=>S≠0|_=>False) λ
 |[.int _ T,.int _ S]=>JY T S|_=>.any
theorem aiS:b7 adA 39:=aT oX λ_ hp=>c7 (ip2 ..) (anu _ _ hp)
def tG:bo:=(82,.con On)::(83,.con abZ)::(44,.con aeK)::(47,.con abT)::(166,.con aaS)::(77,.con ael)::(80,.con ack)::(115,.con abv)::(96,.con adi)::(29,.con abV)::(39,.con adA)::uh
theorem q6:ba Tryz.prog AQ AS tG:=.con hfl (.con ahA (.con ah2 (.con anH (.con akb (.con aj8 (.con alm (.con age (.con he' (.con yaO (.con aiS (oX)))))))))))
def aaK:RT Empty:=.obp (nz S) (.obt (.ret (D (E (0-dT (E (0-T)) S)))))
theorem aaj:cV cX (aQ JJ tG u0 aiA [D T,D S]) (aaK T S):=bF
def eQ:Int:=E (0-dT (E (0-T)) S)
def Tm:V:=D (eQ T S)
theorem amX (hp:S≠0):aU cN (aaK T S) (Tm T S):=aI (by first|assumption|(exact hp)) (ac (AF (by unfold Tm eQ;rfl)))
def ad2:aD:=bP aM (λ
 |[.int _ T,.int _ S]=>S≠0|_=>False) λ
 |[.int _ T,.int _ S]=>Tm T S|_=>.any
theorem agx:b7 ad2 116:=aT q6 λ_ hp=>c7 (aaj ..) (amX _ _ hp)
def adB:RT Empty:=.obp (nz S) (.obt (.ret (D (E (0-fS (E (0-T)) S)))))
theorem iw8:cV cX (aQ JJ tG u0 ag3 [D T,D S]) (adB T S):=bF
def iA:Int:=E (0-fS (E (0-T)) S)
def J5:V:=D (iA T S)
theorem ahB (hp:S≠0):aU cN (adB T S) (J5 T S):=aI (by first|assumption|(exact hp)) (ac (AF (by unfold J5 iA;rfl)))
def acZ:aD:=bP aM (λ
 |[.int _ T,.int _ S]=>S≠0|_=>False) λ
 |[.int _ T,.int _ S]=>J5 T S|_=>.any
theorem hbv:b7 acZ 97:=aT q6 λ_ hp=>c7 (iw8 ..) (ahB _ _ hp)
def aay:RT Empty:=.obp (nz S) (.obt (.ret (D (E (0-dS (E (0-T)) S)))))
theorem iw5:cV cX (aQ JJ tG u0 ajn [V.agg [D T,D S]]) (aay T S):=bF
def eV:Int:=E (0-dS (E (0-T)) S)
def Jq:V:=D (eV T S)
theorem al1 (hp:S≠0):aU cN (aay T S) (Jq T S):=aI (by first|assumption|(exact hp)) (ac (AF (by unfold Jq eV;rfl)))
def aca:aD:=bP [.agg aM] (λ
 |[.agg [.int _ T,.int _ S]]=>S≠0|_=>False) λ
 |[.agg [.int _ T,.int _ S]]=>Jq T S|_=>.any
theorem azK:b7 aca 31:=aT q6 λ_ hp=>c7 (iw5 ..) (al1 _ _ hp)
def aaM:RT Empty:=.obp (nz S) (.obt (.ret (D (E (0-fq (E (0-T)) S)))))
theorem yal:cV cX (aQ JJ tG u0 akU [D T,D S]) (aaM T S):=bF
def gK:Int:=E (0-fq (E (0-T)) S)
def S0:V:=D (gK T S)
theorem agD (hp:S≠0):aU cN (aaM T S) (S0 T S):=aI (by first|assumption|(exact hp)) (ac (AF (by unfold S0 gK;rfl)))
def abE:aD:=bP aM (λ
 |[.int _ T,.int _ S]=>S≠0|_=>False) λ
 |[.int _ T,.int _ S]=>S0 T S|_=>.any
theorem ahn:b7 abE 41:=aT q6 λ_ hp=>c7 (yal ..) (agD _ _ hp)
def aaA:RT Empty:=.obi (.br (decide (T<=S)) (.ob (decide (T<=S)) (.ob (decide (T<=S)) (.ob (decide (T<=S)) (.cb (.obi (.br (aG T W U) (.ob (aG T W U) (.ob (aG T W U) (.ob (aG T W U) (.cb (.ret (V.bool (aG S W U))))))) (.ret (V.kb false)))))))) (.ret (V.kb false)))
theorem mkE:cV cX (aQ JJ tG u0 anb [V.agg [D T,D S],D W,D U]) (aaA T S W U):=bF
def fy:Bool:=bif decide (T<=S) then bif aG T W U then aG S W U else false else false
def EF:V:=.bool (fy T S W U)
theorem akp:aU cN (aaA T S W U) (EF T S W U):=AE (AP (λh0=>aF (by first|assumption|(fail)) (aF (by first|assumption|(fail)) (aF (by first|assumption|(fail)) (AM (ac (AE (AP (λM=>aF (by first|assumption|(fail)) (aF (by first|assumption|(fail)) (aF (by first|assumption|(fail)) (AM (ac (AF (by unfold EF fy;try rw[h0];try rw[M];rfl))))))) (λM=>AF (by unfold EF fy;try rw[h0];try rw[M];rfl))))))))) (λh0=>AF (by unfold EF fy;try rw[h0];rfl)))
def adZ:aD:=bP [.agg aM,tI,tI] (λ_=>True) λ|[.agg [.int _ T,.int _ S],.int _ W,.int _ U]=>EF T S W U|_=>.any
theorem afn:b7 adZ 205:=aT q6 λ_ hp=>c7 (mkE ..) (akp _ _ _ _)
def aeO:RT Empty:=.cb (.ret (V.bool !aB T S W))
theorem x17:cV cX (aQ JJ tG u0 ba1 [D T,V.pd [D S],V.pd [D W]]) (aeO T S W):=bF
def sS:Bool:=!aB T S W
def QD:V:=.bool (sS T S W)
theorem ag7:aU cN (aeO T S W) (QD T S W):=AM (ac (AF (by unfold QD sS;rfl)))
def aev:aD:=bP [tI,.pd L,.pd L] (λ_=>True) λ|[.int _ T,.pd [.int _ S],.pd [.int _ W]]=>QD T S W|_=>.any
theorem amH:b7 aev 177:=aT q6 λ_ hp=>c7 (x17 ..) (ag7 _ _ _)
theorem R23 (n:Nat) (p:Nat->Bool):dz (n+1) p=bif dz n p then p n else false:=by
 cases h:dz n p with
 |false=>
   cases Q:dz (n+1) p with
   |false=>rfl|true=>rw[fQ λi hi=>dB Q i K]at h;cases h
 |true=>
   cases h3:p n with
   |false=>rw[gq n K h3];rfl
   |true=>rw[fQ λi hi=>by
      by_cases e:i=n
      ·subst e;exact h3
      ·exact dB h i K];rfl
theorem R85 {Pe:Type} {Nx:Pe->V->Prop} {r:V} {x:RT Pe} {c:Bool} {i n:Nat} (h:i<n) (hn:n<=9223372036854775807) (hc:c=true->((i:Int)==0)=false) (hx:aU Nx x r):aU Nx (.obj c (decide (0<=E ((i:Int)-1)/\E ((i:Int)-1)<(n:Int))) x) r:=⟨λhb=>by
 have h0:(i:Int)≠0:=by have:=hc hb;simpa using this
 exact AG (by rw[AX K K];omega),hx⟩
def UK (i:Nat):Bool:=bif(i:Int)==0 then true else decide (aA (G (E ((i:Int)-1)).toNat)<aA (G (i:Int).toNat))
def rng (i:Nat):Bool:=aG (aA (G (i:Int).toNat)) (-5000) 5000
inductive vo where|L0 (_:Int)
def x11:vo->bT×List AD×Option Ex
 |.L0 PW=>([(3,D PW),(2,V.kb false),(0,V.sl H (A L G))],[],none)
def ai5:vo->JJ
 |.L0 _=>(0,[])
def fa2:AN (cr JJ):=aQ JJ tG u0 ajz [V.sl H (A L G)]
def abl (cx:List Cx):Lp JJ:=eX (eC (fa2 H G) [])
def af9:JJ->Lp JJ
 |(0,cx)=>abl H G cx|(_,cx)=>abl H G cx
def apT:LD JJ vo:=⟨ai5,af9 H G,x11 H G⟩
def Cm:vo->RT vo
 |.L0 PW=>.am H (.br (decide (PW<(H:Int))) (.ob (dI (E (PW-1)) H) (.ob (dI PW H) (.br (decide (aA (G PW.toNat)<=aA (G (E (PW-1)).toNat))) (.ret (V.kb false)) (.next [] (vo.L0 (E (PW+1))) [])))) (.ret (V.kb true)))
def M3:RT vo:=dm (H,G) (.enter [] (vo.L0 1) [])
theorem smT:d0 tG u0 (apT H G) (fa2 H G) (M3 H G) (Cm H G):=⟨bF,λs=>by cases s<;>exact bF⟩
def ff:Bool:=dz H (UK G)
theorem hxy:aU (Ev (Cm H G)) (M3 H G) (.bool (ff H G)):=by
 have key:=dv (n:=H) (P:=λi=>1<=i->(∀ j,j<i->UK G j=true)->Ev (Cm H G) (.L0 i) (.bool (ff H G))) λi hi ih M hj=>by
  refine Ev.of rfl (bC λhn=>AP (λh=>?_) (λh=>AF ?_))
  ·have Pj:i<H:=by have:=As h;omega
   have h0:((i:Int)==0)=false:=by simp;omega
   refine aF (AG (by rw[AX K K];omega)) (aF (AG K) (AP (λhb=>AF ?_) (λhb=>aK ?_)))
   ·have hr:UK G i=false:=by unfold UK;rw[h0];exact eM (by have:=As hb;omega)
    simp only[dj];unfold ff;rw[gq i Pj hr]
   ·have hr:UK G i=true:=by unfold UK;rw[h0];exact AG (by have:=D2 hb;omega)
    rw[kH Pj hn];refine ih Pj K λj Q=>?_;by_cases e:j=i
    ·subst e;exact hr
    ·exact hj j K
  ·have:i=H:=by have:=D2 h;omega
   subst this;simp only[dj];unfold ff;rw[fQ hj]
 by_cases h0:H=0
 ·subst h0;exact aH (Ev.of rfl (bC λ_=>cW rfl (AF rfl)))
 ·exact aH (key 1 K K λj hj=>by
   have:j=0:=by omega
   subst this;rfl)
theorem agC:aU (Ev (Cm H G)) (M3 H G) (.bool (ff H (A L G))):=hxy H G
def aby:aD:=bP [.sl L] (λ_=>True) λ|[.sl H G]=>.bool (ff H G)|_=>.any
theorem ahm:b7 aby 135:=aT q6 λ_ hp=>kt (smT ..) (agC _ _)
inductive vU where|L0 (_:Int)
def ngP:vU->bT×List AD×Option Ex
 |.L0 PW=>([(3,D PW),(21,V.kb false),(17,V.bool (bif bif decide ((↑s0.size:Int)<1) then true else decide (24<(↑s0.size:Int)) then true else decide ((↑(s0.data.1.getD 0 0).toNat:Int)<97))),(16,V.bool (bif bif decide ((↑s0.size:Int)<1) then true else decide (24<(↑s0.size:Int)) then true else decide ((↑(s0.data.1.getD 0 0).toNat:Int)<97))),(12,V.bool (bif decide ((↑s0.size:Int)<1) then true else decide (24<(↑s0.size:Int)))),(11,V.bool (bif decide ((↑s0.size:Int)<1) then true else decide (24<(↑s0.size:Int)))),(7,V.bool (decide ((↑s0.size:Int)<1))),(6,V.bool (decide ((↑s0.size:Int)<1))),(5,D (↑s0.size:Int)),(4,V.str s0),(2,V.kb false),(0,V.str s0)],[],none)
def aeY:vU->JJ
 |.L0 _=>(0,[])
def hco:AN (cr JJ):=aQ JJ tG u0 aky [V.str s0]
def S73 (cx:List Cx):Lp JJ:=eX (eC (hco s0) [false])
def alu:JJ->Lp JJ
 |(0,cx)=>S73 s0 cx|(_,cx)=>S73 s0 cx
def aq7:LD JJ vU:=⟨aeY,alu s0,ngP s0⟩
def Ho:vU->RT vU
 |.L0 PW=>.br (decide (PW<(↑s0.size:Int))) (.ob (decide (0<=PW/\PW<(↑s0.size:Int))) (.ii (.obj (decide (97<=(↑(s0.data.1.getD PW.toNat 0).toNat:Int))) (decide (0<=PW/\PW<(↑s0.size:Int))) (.iv (.obj (!bif decide (97<=(↑(s0.data.1.getD PW.toNat 0).toNat:Int)) then decide ((↑(s0.data.1.getD PW.toNat 0).toNat:Int)<=122) else false) (decide (0<=PW/\PW<(↑s0.size:Int))) (.iv (.obj ((!bif decide (97<=(↑(s0.data.1.getD PW.toNat 0).toNat:Int)) then decide ((↑(s0.data.1.getD PW.toNat 0).toNat:Int)<=122) else false)&&decide (48<=(↑(s0.data.1.getD PW.toNat 0).toNat:Int))) (decide (0<=PW/\PW<(↑s0.size:Int))) (.iv (.ii (.obj (!bif bif decide (97<=(↑(s0.data.1.getD PW.toNat 0).toNat:Int)) then decide ((↑(s0.data.1.getD PW.toNat 0).toNat:Int)<=122) else false then true else bif decide (48<=(↑(s0.data.1.getD PW.toNat 0).toNat:Int)) then decide ((↑(s0.data.1.getD PW.toNat 0).toNat:Int)<=57) else false) (decide (0<=PW/\PW<(↑s0.size:Int))) (.ii (.br (!bif bif bif decide (97<=(↑(s0.data.1.getD PW.toNat 0).toNat:Int)) then decide ((↑(s0.data.1.getD PW.toNat 0).toNat:Int)<=122) else false then true else bif decide (48<=(↑(s0.data.1.getD PW.toNat 0).toNat:Int)) then decide ((↑(s0.data.1.getD PW.toNat 0).toNat:Int)<=57) else false then true else(↑(s0.data.1.getD PW.toNat 0).toNat:Int)==45) (.ret (V.kb false)) (.next [] (vU.L0 (E (PW+1))) []))))))))))))) (.ret (V.kb true))
def QF:RT vU:=.iv (.obj (!bif decide ((↑s0.size:Int)<1) then true else decide (24<(↑s0.size:Int))) (decide ((0:Int)<=0/\0<(↑s0.size:Int))) (.ii (.obi (.obj (!bif bif decide ((↑s0.size:Int)<1) then true else decide (24<(↑s0.size:Int)) then true else decide ((↑(s0.data.1.getD 0 0).toNat:Int)<97)) (decide ((0:Int)<=0/\0<(↑s0.size:Int))) (.ii (.br (bif bif bif decide ((↑s0.size:Int)<1) then true else decide (24<(↑s0.size:Int)) then true else decide ((↑(s0.data.1.getD 0 0).toNat:Int)<97) then true else decide (122<(↑(s0.data.1.getD 0 0).toNat:Int))) (.ret (V.kb false)) (.enter [] (vU.L0 0) [])))))))
theorem aat:d0 tG u0 (aq7 s0) (hco s0) (QF s0) (Ho s0):=⟨bF,λs=>by cases s<;>exact bF⟩
def Av:Bool:=bif bif bif decide ((↑s0.size:Int)<1) then true else decide (24<(↑s0.size:Int)) then true else decide ((↑(s0.data.1.getD 0 0).toNat:Int)<97) then true else decide (122<(↑(s0.data.1.getD 0 0).toNat:Int))
def oq (ii:Nat):Bool:=!bif bif bif decide (97<=(↑(s0.data.1.getD ii 0).toNat:Int)) then decide ((↑(s0.data.1.getD ii 0).toNat:Int)<=122) else false then true else bif decide (48<=(↑(s0.data.1.getD ii 0).toNat:Int)) then decide ((↑(s0.data.1.getD ii 0).toNat:Int)<=57) else false then true else(↑(s0.data.1.getD ii 0).toNat:Int)==45
def ms:Bool:=bif Av s0 then false else dz s0.size λi=>!oq s0 i
theorem ayY {c:Bool} {n:Nat} (h:(!bif decide ((n:Int)<1) then true else c)=true):decide ((0:Int)<=0/\0<(n:Int))=true:=by
 cases hs:decide ((n:Int)<1) with
 |true=>rw[hs]at h;cases h|false=>exact AG ⟨K,by have:=D2 hs;omega⟩
theorem avY {c d:Bool} {n:Nat} (h:(!bif bif decide ((n:Int)<1) then true else c then true else d)=true):decide ((0:Int)<=0/\0<(n:Int))=true:=by
 cases hs:decide ((n:Int)<1) with
 |true=>rw[hs]at h;cases h|false=>exact AG ⟨K,by have:=D2 hs;omega⟩
theorem ahT (hp:s0.size<=9223372036854775807):aU (Ev (Ho s0)) (QF s0) (.bool (ms s0)):=by
 unfold QF
 repeat (first|refine AE ?_|refine Ba ayY ?_|refine Ba avY ?_)
 refine AP (λh=>AF ?_) (λh=>aH ?_)
 ·unfold ms;rw[show Av s0=true from h];rfl
 ·unfold ms;rw[show Av s0=false from h,cond_false]
  refine ky hp (oq s0) (P:=λi=>Ev (Ho s0) (.L0 i) (.bool (dz s0.size λi=>!oq s0 i))) (λi Pj hj next=>Ev.of rfl (dt Pj (c8 Pj (by
   repeat (first|refine AE ?_|refine qw Pj ?_)
   refine AP (λhb=>AF ?_) (λhb=>aK (next hb));simp only[dj];rw[gq i Pj (by rw[show oq s0 i=true from hb];rfl)]))))
   (λhj=>Ev.of rfl (dp (AF ?_)))
  simp only[dj];rw[fQ λi hi=>by rw[hj i hi];rfl]
def adD:aD:=bP [.str] (λ
 |[.str s0]=>s0.size<=9223372036854775807|_=>False) λ
 |[.str s0]=>.bool (ms s0)|_=>.any
theorem afl:b7 adD 203:=aT q6 λ_ hp=>kt (aat ..) (ahT _ hp)
inductive tR where|L0 (_:Int) (_:Bool) (_:Bool)
def jfw:tR->bT×List AD×Option Ex
 |.L0 PW Tq Wg=>([(5,D PW),(4,V.bool Tq),(3,V.bool Wg),(2,V.bool (aG (H:Int) 2 12)),(8,V.bool (aG (H:Int) 2 12)),(7,D (H:Int)),(6,V.sl H (A L G)),(0,V.sl H (A L G))],[],none)
def anr:tR->JJ
 |.L0 ..=>(0,[])
def eqs:AN (cr JJ):=aQ JJ tG u0 akX [V.sl H (A L G)]
def abY (cx:List Cx):Lp JJ:=eX (eC (eqs H G) [])
def aj4:JJ->Lp JJ
 |(0,cx)=>abY H G cx|(_,cx)=>abY H G cx
def aoA:LD JJ tR:=⟨anr,aj4 H G,jfw H G⟩
def yB:tR->RT tR
 |.L0 PW Tq Wg=>.am H (.br (decide (PW<(H:Int))) (.ii (.obj (Wg) (dI PW H) (.obi (.br (Wg) (.ob (Wg) (.cb (.iv (.obj (Tq&&!PW==0) (dI PW H) (.iv (.obj (Tq&&!PW==0) (dI (E (PW-1)) H) (.iv (.ii (.next [] (tR.L0 (E (PW+1)) (bif Tq then bif PW==0 then true else decide (aA (G (E (PW-1)).toNat)<aA (G PW.toNat)) else false) (aG (aA (G PW.toNat)) (-5000) 5000)) []))))))))) (.iv (.obj (Tq&&!PW==0) (dI PW H) (.iv (.obj (Tq&&!PW==0) (dI (E (PW-1)) H) (.iv (.ii (.next [] (tR.L0 (E (PW+1)) (bif Tq then bif PW==0 then true else decide (aA (G (E (PW-1)).toNat)<aA (G PW.toNat)) else false) (false)) []))))))))))) (.ret (V.tup [V.bool (aG (H:Int) 2 12),V.bool Wg,V.bool Tq])))
def RJ:RT tR:=dm G (.am H (.cb (.enter [] (tR.L0 0 (true) (true)) [])))
theorem m24:d0 tG u0 (aoA H G) (eqs H G) (RJ H G) (yB H G):=⟨bF,λs=>by cases s<;>exact bF⟩
def lN:Bool:=dz H (rng G)
theorem i20 (H:Nat) (G:be):aU (Ev (yB H G)) (RJ H G) (.tup [.bool (aG (H:Int) 2 12),.bool (lN H G),.bool (ff H G)]):=by
 refine bC λhn=>AM (ac (aH (E3 hn (P:=λx=>Ev (yB H G) (.L0 x (dz x.toNat (UK G)) (dz x.toNat (rng G))) (.tup [.bool (aG (H:Int) 2 12),.bool (lN H G),.bool (ff H G)])) (λi Pj nx=>?_) (Ev.of rfl (Af λ_=>dp (AF (by simp only[Bt];rfl)))))));have nx':Ev (yB H G) (.L0 (E ((i:Int)+1)) (bif dz i (UK G) then UK G i else false) (bif dz i (rng G) then rng G i else false)) (.tup [.bool (aG (H:Int) 2 12),.bool (lN H G),.bool (ff H G)]):=by have:=nx;rw[show(E ((i:Int)+1)).toNat=i+1 by rw[kH Pj hn];rfl,R23,R23]at this;exact this
 simp only[Bt];have hcc:∀b:Bool,(b&&!(i:Int)==0)=true->((i:Int)==0)=false:=λb h=>by cases b<;>cases he:((i:Int)==0)<;>simp_all
 refine Ev.of rfl (Af λ_=>dt Pj (AE (AE (qw Pj (AE (AP (λhb=>aF hb (AM (ac ?_))) (λhb=>?_)))))))
 ·repeat (first|refine AE ?_|refine qw Pj ?_|refine R85 Pj hn (hcc _) ?_)
  rw[hb,cond_true]at nx';exact aK nx'
 ·repeat (first|refine AE ?_|refine qw Pj ?_|refine R85 Pj hn (hcc _) ?_)
  rw[hb,cond_false]at nx';exact aK nx'
theorem am2 (H:Nat) (G:be):aU (Ev (yB H G)) (RJ H G) (.tup [.bool (aG (H:Int) 2 12),.bool (lN H (A L G)),.bool (ff H (A L G))]):=i20 H G
def ad6:aD:=bP [.sl L] (λ_=>True) λ|[.sl H G]=>.tup [.bool (aG (H:Int) 2 12),.bool (lN H G),.bool (ff H G)]|_=>.any
theorem afW:b7 ad6 204:=aT q6 λ_ hp=>kt (m24 ..) (am2 _ _)
def NO:bo:=(116,.con ad2)::(97,.con acZ)::(31,.con aca)::(41,.con abE)::(205,.con adZ)::(177,.con aev)::(135,.con aby)::(203,.con adD)::(204,.con ad6)::tG
theorem NE:ba Tryz.prog AQ AS NO:=.con agx (.con hbv (.con azK (.con ahn (.con afn (.con amH (.con ahm (.con afl (.con afW (q6)))))))))
inductive vA where|L0 (_:Int)
def yaW:vA->bT×List AD×Option Ex
 |.L0 PW=>([(8,D PW),(7,D (H:Int)),(6,V.sl H (A L G)),(4,D 0),(0,V.sl H (A L G)),(1,V.fn 177 [] [V.pd [D W],V.pd [D U]])],[],none)
def ali:vA->JJ
 |.L0 _=>(0,[])
def bd3:AN (cr JJ):=aQ JJ NO u0 Ja [V.sl H (A L G),V.fn 177 [] [V.pd [D W],V.pd [D U]]]
def acB (cx:List Cx):Lp JJ:=eX (eC (bd3 H G W U) [])
def ah6:JJ->Lp JJ
 |(0,cx)=>acB H G W U cx|(_,cx)=>acB H G W U cx
def aoC:LD JJ vA:=⟨ali,ah6 H G W U,yaW H G W U⟩
def Gh:vA->RT vA
 |.L0 PW=>.br (decide (PW<(H:Int))) (.ob (dI PW H) (.cb (.br (sS (aA (G PW.toNat)) W U) (.ret (D PW)) (.next [] (vA.L0 (E (PW+1))) [])))) (.ret (D (-1)))
def OL:RT vA:=dm (G,W,U) (.am H (.enter [] (vA.L0 0) []))
theorem lst:d0 NO u0 (aoC H G W U) (bd3 H G W U) (OL H G W U) (Gh H G W U):=⟨bF,λs=>by cases s<;>exact bF⟩
def Dt:Int  :=zO H λii=>sS (aA (G ii)) W U
theorem ic1:aU (Ev (Gh H G W U)) (OL H G W U) (D (Dt H G W U)):=bC λhn=>aH (pN hn λi=>rfl)
theorem ajA:aU (Ev (Gh H G W U)) (OL H G W U) (D (Dt H (A L G) W U)):=ic1 H G W U
def aa5:aD:=bP [.sl L,.fn 177 [] [.pd L,.pd L]] (λ_=>True) λ|[.sl H G,.fn _ [] [.pd [.int _ W],.pd [.int _ U]]]=>D (Dt H G W U)|_=>.any
theorem afE:b7 aa5 92:=aT NE λ_ hp=>kt (lst ..) (ajA _ _ _ _)
def O1:bo:=(92,.con aa5)::NO
theorem aaN:ba Tryz.prog AQ AS O1:=.con afE (NE)
def auI:RT Empty:=.cb (.ret (V.bool (decide (0<=Dt H (A L G) W U))))
theorem agd:cV cX (aQ JJ O1 u0 Z7 [V.sl H (A L G),V.fn 177 [] [V.pd [D W],V.pd [D U]]]) (auI H G W U):=bF
def BM:Bool:=decide (0<=Dt H (A L G) W U)
def O7:V:=.bool (BM H G W U)
theorem aov:aU cN (auI H G W U) (O7 H G W U):=AM (ac (AF (by unfold O7 BM;rfl)))
def aqL:aD:=bP [.sl L,.fn 177 [] [.pd L,.pd L]] (λ_=>True) λ|[.sl H G,.fn _ [] [.pd [.int _ W],.pd [.int _ U]]]=>O7 H G W U|_=>.any
theorem asV:b7 aqL 52:=aT aaN λ_ hp=>c7 (agd ..) (aov _ _ _ _)
def NX:bo:=(52,.con aqL)::O1
theorem aeR:ba Tryz.prog AQ AS NX:=.con asV (aaN)
def aeh:RT Empty:=.cb (.ret (V.bool !BM H (A L G) W U))
theorem nm4:cV cX (aQ JJ NX u0 hcs [V.sl H (A L G),D W,D U]) (aeh H G W U):=bF
def eh:Bool:=!BM H (A L G) W U
def Og:V:=.bool (eh H G W U)
theorem af0:aU cN (aeh H G W U) (Og H G W U):=AM (ac (AF (by unfold Og eh;rfl)))
def abr:aD:=bP [.sl L,tI,tI] (λ_=>True) λ|[.sl H G,.int _ W,.int _ U]=>Og H G W U|_=>.any
theorem alF:b7 abr 122:=aT aeR λ_ hp=>c7 (nm4 ..) (af0 _ _ _ _)
def XA:bo:=(122,.con abr)::NX
theorem NK:ba Tryz.prog AQ AS XA:=.con alF (aeR)
def acT:RT Empty:=dm (G,s2,n3,f3,q,n7,f7,x9,PV) (.am H (.am n5 (.ret (V.bool ((H:Int)!=(n5:Int))))))
theorem x25:cV cX (aQ JJ XA u0 ai7 [V.sl H (A L G),V.pd [V.str s2,V.sl n3 (A L f3),V.sl n5 (A L q),V.sl n7 (A [Ty.sl L] f7),D x9,D PV]]) (acT H G s2 n3 f3 n5 q n7 f7 x9 PV):=bF
def w5:Bool:=(H:Int)!=(n5:Int)
def NG:V:=dm (G,s2,n3,f3,q,n7,f7,x9,PV) (.bool (w5 H n5))
theorem alG:aU cN (acT H G s2 n3 f3 n5 q n7 f7 x9 PV) (NG H G s2 n3 f3 n5 q n7 f7 x9 PV):=Af (λa0=>Af (λa0=>AF (by unfold NG w5;rfl)))
def acW:aD:=bP [.sl L,.pd al] (λ_=>True) λ|[.sl H G,.pd [.str s2,.sl n3 f3,.sl n5 q,.sl n7 f7,.int _ x9,.int _ PV]]=>NG H G s2 n3 f3 n5 q n7 f7 x9 PV|_=>.any
theorem am8:b7 acW 133:=aT NK λ_ hp=>c7 (x25 ..) (alG _ _ _ _ _ _ _ _ _ _ _)
def adz:RT Empty:=.cb (.ret (V.bool !eh H (A L G) 0 10000000))
theorem nc4:cV cX (aQ JJ XA u0 afA [V.sl H (A L G)]) (adz H G):=bF
def jR:Bool:=!eh H (A L G) 0 10000000
def Ts:V:=.bool (jR H G)
theorem ag6:aU cN (adz H G) (Ts H G):=AM (ac (AF (by unfold Ts jR;rfl)))
def ach:aD:=bP [.sl L] (λ_=>True) λ|[.sl H G]=>Ts H G|_=>.any
theorem akW:b7 ach 134:=aT NK λ_ hp=>c7 (nc4 ..) (ag6 _ _)
def LG:bo:=(185,.inl agi u0)::(136,.inl akt u0)::(133,.con acW)::(134,.con ach)::XA
theorem ac6:ba Tryz.prog AQ AS LG:=iz Tryz.func185 bD (iz Tryz.func136 bD (.con am8 (.con akW (NK))))
inductive oT where|L0 (_:Int)|L2 (_ _:Int)|L3 (_ _:Int)
def B9:oT->bT×List AD×Option Ex
 |.L0 PW=>([(8,D PW),(7,D (n5:Int)),(0,V.sl n5 (A [Ty.sl L] q)),(1,V.fn 133 [] [V.pl 0 0])],[AD.cells [V.str s0,V.sl n1 (A L f1),V.sl n3 (A L f3),V.sl n5 (A [Ty.sl L] q),D Z,D Y] 88],none)|.L2 Q9 _=>([(8,D Q9),(7,D (n5:Int)),(0,V.sl n5 (A [Ty.sl L] q)),(1,V.fn 134 [] [])],[AD.cells [V.str s0,V.sl n1 (A L f1),V.sl n3 (A L f3),V.sl n5 (A [Ty.sl L] q),D Z,D Y] 88],none)|.L3 Qn _=>([(8,D Qn),(7,D (n5:Int)),(0,V.sl n5 (A [Ty.sl L] q)),(1,V.fn 134 [] [])],[AD.cells [V.str s0,V.sl n1 (A L f1),V.sl n3 (A L f3),V.sl n5 (A [Ty.sl L] q),D Z,D Y] 88],none)
def afJ:oT->JJ
 |.L0 _=>(0,[])|.L2 _ R3=>(2,[Cx.i R3])|.L3 _ Sa=>(3,[Cx.i Sa])
def hch:AN (cr JJ):=aQ JJ LG u0 alj [V.agg [V.str s0,V.sl n1 (A L f1),V.sl n3 (A L f3),V.sl n5 (A [Ty.sl L] q),D Z,D Y]]
def tQ (cx:List Cx):Lp JJ:=eX (eC (hch s0 n1 f1 n3 f3 n5 q Z Y) [true,false,true,false,true,false,true])
def hxs (cx:List Cx):Lp JJ:=eX (eC (oU LG u0 (0,[]) (tQ s0 n1 f1 n3 f3 n5 q Z Y []) (B9 s0 n1 f1 n3 f3 n5 q Z Y (.L0 (dw cx 0)))) [true,true,false])
def hzl (cx:List Cx):Lp JJ:=eX (eC (oU LG u0 (0,[]) (tQ s0 n1 f1 n3 f3 n5 q Z Y []) (B9 s0 n1 f1 n3 f3 n5 q Z Y (.L0 (dw cx 0)))) It)
def afX:JJ->Lp JJ
 |(0,cx)=>tQ s0 n1 f1 n3 f3 n5 q Z Y cx|(2,cx)=>hxs s0 n1 f1 n3 f3 n5 q Z Y cx|(3,cx)=>hzl s0 n1 f1 n3 f3 n5 q Z Y cx|(_,cx)=>tQ s0 n1 f1 n3 f3 n5 q Z Y cx
def aqX:LD JJ oT:=⟨afJ,afX s0 n1 f1 n3 f3 n5 q Z Y,B9 s0 n1 f1 n3 f3 n5 q Z Y⟩
def rZ (s0:ByteArray) (n1:Nat) (f1:be) (n3:Nat) (f3:be) (n5:Nat) (q:be) (Z Y:Int):oT->RT oT
 |.L0 PW=>.br (decide (PW<(n5:Int))) (.ob (dI PW n5) (.cb (.br (w5 (aw (av (q PW.toNat))) n3) (.br (decide (0<=PW)) (.ret (D 6)) (.am n5 (.enter Az (oT.L2 0 PW) []))) (.next Az (oT.L0 (E (PW+1))) [])))) (.brf (.am n5 (.enter Az (oT.L3 0 PW) [])))|.L2 Q9 R3=>.br (decide (Q9<(n5:Int))) (.ob (dI Q9 n5) (.cb (.br (jR (aw (av (q Q9.toNat))) λi=>ap L (bz (av (q Q9.toNat)) i)) (.ii (.br (!decide (0<=Q9)) (.ob (!decide (0<=Q9)) (.ob (!decide (0<=Q9)) (.ob (!decide (0<=Q9)) (.cb (.br (jR 2 (A L (b9 [D Z,D Y] 0 1))) (.ret (D 7)) (.ret (D 0))))))) (.ret (D 7)))) (.next Az (oT.L2 (E (Q9+1)) R3) [])))) (.obt (.obt (.brt (.obt (.obt (.obt (.cb (.br (jR 2 (A L (b9 [D Z,D Y] 0 1))) (.ret (D 7)) (.ret (D 0))))))))))|.L3 Qn Sa=>.br (decide (Qn<(n5:Int))) (.ob (dI Qn n5) (.cb (.br (jR (aw (av (q Qn.toNat))) λi=>ap L (bz (av (q Qn.toNat)) i)) (.ii (.br (!decide (0<=Qn)) (.ob (!decide (0<=Qn)) (.ob (!decide (0<=Qn)) (.ob (!decide (0<=Qn)) (.cb (.br (jR 2 (A L (b9 [D Z,D Y] 0 1))) (.ret (D 7)) (.ret (D 0))))))) (.ret (D 7)))) (.next Az (oT.L3 (E (Qn+1)) Sa) [])))) (.obt (.obt (.brt (.obt (.obt (.obt (.cb (.br (jR 2 (A L (b9 [D Z,D Y] 0 1))) (.ret (D 7)) (.ret (D 0))))))))))
def Ui:RT oT:=dm (s0,q,Z,Y) (.am n1 (.cb (.ii (.asm ((!!aB (n1:Int) 2 12)=true->n3<=9223372036854775807) (.br (!!aB (n1:Int) 2 12) (.ob (!!aB (n1:Int) 2 12) (.cb (.br (!aB (n3:Int) 2 12) (.ret (D 3)) (.cb (.obi (.br (!!eh n1 (A L f1) (-5000) 5000) (.ob (!!eh n1 (A L f1) (-5000) 5000) (.cb (.br (!eh n3 (A L f3) (-5000) 5000) (.ret (D 7)) (.cb (.obi (.br (!!ff n1 (A L f1)) (.ob (!!ff n1 (A L f1)) (.cb (.br (!ff n3 (A L f3)) (.ret (D 2)) (.am n5 (.am n1 (.obi (.br (!(n5:Int)!=(n1:Int)) (.ob (!(n5:Int)!=(n1:Int)) (.ob (!(n5:Int)!=(n1:Int)) (.am n5 (.enter Az (oT.L0 0) [])))) (.ret (D 6))))))))) (.ret (D 2)))))))) (.ret (D 7)))))))) (.ret (D 3)))))))
theorem okN:d0 LG u0 (aqX s0 n1 f1 n3 f3 n5 q Z Y) (hch s0 n1 f1 n3 f3 n5 q Z Y) (Ui s0 n1 f1 n3 f3 n5 q Z Y) (rZ s0 n1 f1 n3 f3 n5 q Z Y):=⟨bF,λs=>by cases s<;>exact bF⟩
def K3 (i:Nat):Bool:=w5 (aw (av (q i))) n3
def PF (i:Nat):Bool:=jR (aw (av (q i))) λj=>ap L (bz (av (q i)) j)
def Yo:Bool:=jR 2 (A L (b9 [D Z,D Y] 0 1))
def sO:Int:=bif gW n5 (PF q) then 7 else bif Yo Z Y then 7 else 0
def pc (n1:Nat) (f1:be) (n3:Nat) (f3:be) (n5:Nat) (q:be) (Z Y:Int):Int :=
 bif !(aB (n1:Int) 2 12&&aB (n3:Int) 2 12) then 3 else bif !(eh n1 f1 (-5000) 5000&&eh n3 f3 (-5000) 5000) then 7 else bif !(ff n1 f1&&ff n3 f3) then 2 else bif(n5:Int)!=(n1:Int) then 6 else bif gW n5 (K3 n3 q) then 6 else sO n5 q Z Y
theorem OO {Pe:Type} {Nx:Pe->V->Prop} {c d:Bool} {v r:V} {X:RT Pe} (M:(c&&d)=false->dj v=dj r) (Q:(c&&d)=true->aU Nx X r):aU Nx (.br (!!c) (.ob (!!c) (.obc (.obt (.br (!d) (.ret v) X)))) (.ret v)) r:=by
 cases c<;>cases d
 ·exact AP (λh=>by cases h) (λ_=>AF (M rfl))
 ·exact AP (λh=>by cases h) (λ_=>AF (M rfl))
 ·exact AP (λh=>aF h (AM (ac (AP (λ_=>AF (M rfl)) (λk=>by cases k))))) (λk=>by cases k)
 ·exact AP (λh=>aF h (AM (ac (AP (λk=>by cases k) (λ_=>Q rfl))))) (λk=>by cases k)
theorem yaJ (hn:n5<=9223372036854775807) (t:Int):Ev (rZ s0 n1 f1 n3 f3 n5 q Z Y) (.L3 0 t) (D (sO n5 q Z Y)):=by
 refine ky hn (PF q) (P:=λx=>Ev (rZ s0 n1 f1 n3 f3 n5 q Z Y) (.L3 x t) (D (sO n5 q Z Y))) (λi Pj hj next=>Ev.of rfl (dt Pj (c8 Pj (AM (ac (AP (λhb=>AE (AE (cW (by rw[AG (KZ i)];rfl) (AF ?_)))) (λhb=>aK (next hb)))))))) (λhj=>Ev.of rfl (dp (ac (ac (dX (ac (ac (ac (AM (ac (AP (λhb=>AF ?_) (λhb=>AF ?_))))))))))))
 ·unfold sO;rw[cZ i Pj hb];rfl
 ·unfold sO;rw[da hj,show Yo Z Y=true from hb];rfl
 ·unfold sO;rw[da hj,show Yo Z Y=false from hb];rfl
theorem ie2 (hn:n5<=9223372036854775807):Ev (rZ s0 n1 f1 n3 f3 n5 q Z Y) (.L0 0) (D (bif gW n5 (K3 n3 q) then 6 else sO n5 q Z Y)):=by
 refine ky hn (K3 n3 q) (P:=λx=>Ev (rZ s0 n1 f1 n3 f3 n5 q Z Y) (.L0 x) (D (bif gW n5 (K3 n3 q) then 6 else sO n5 q Z Y))) (λi Pj hj next=>Ev.of rfl (dt Pj (c8 Pj (AM (ac (AP (λhb=>cO (AG (KZ i)) (AF ?_)) (λhb=>aK (next hb)))))))) (λhj=>Ev.of rfl (dp (gQ (Af λ_=>aH ?_))))
 ·rw[cZ i Pj hb];rfl
 ·rw[da hj];exact yaJ s0 n1 f1 n3 f3 n5 q Z Y hn _
theorem hst:aU (Ev (rZ s0 n1 f1 n3 f3 n5 q Z Y)) (Ui s0 n1 f1 n3 f3 n5 q Z Y) (D (pc n1 f1 n3 f3 n5 q Z Y)):=by
 unfold pc;refine Af λ_=>AM (ac (AE (AE (Af λ_=>OO (λh=>by rw[h];rfl) (λh=>?_)))));rw[h];refine AM (ac (AE (OO (λh=>by rw[show(eh n1 f1 (-5000) 5000&&eh n3 f3 (-5000) 5000)=false from h];rfl) (λh=>?_))));rw[show(eh n1 f1 (-5000) 5000&&eh n3 f3 (-5000) 5000)=true from h];refine AM (ac (AE (OO (λh=>by rw[show(ff n1 f1&&ff n3 f3)=false from h];rfl) (λh=>?_))));rw[show(ff n1 f1&&ff n3 f3)=true from h];refine Af λ_=>Af λ_=>AE (AP (λh=>aF h (aF h (bC λhn=>aH ?_))) (λh=>AF ?_))
 ·rw[Mq h];exact ie2 s0 n1 f1 n3 f3 n5 q Z Y hn
 ·rw[wc h];rfl
theorem afh:aU (Ev (rZ s0 n1 f1 n3 f3 n5 q Z Y)) (Ui s0 n1 f1 n3 f3 n5 q Z Y) (D (pc n1 (A L f1) n3 (A L f3) n5 (A [.sl L] q) Z Y)):=hst s0 n1 f1 n3 f3 n5 q Z Y
def ab5:aD:=bP [.agg al] (λ_=>True) λ|[.agg [.str s0,.sl n1 f1,.sl n3 f3,.sl n5 q,.int _ Z,.int _ Y]]=>D (pc n1 f1 n3 f3 n5 q Z Y)|_=>.any
theorem aii:b7 ab5 78:=aT ac6 λ_ hp=>kt (okN ..) (afh _ _ _ _ _ _ _ _ _)
def NT:bo:=(78,.con ab5)::LG
theorem aeX:ba Tryz.prog AQ AS NT:=.con aii (ac6)
def aaW:RT Empty:=dm (s0,TJ,Z4,TK) (.cb (.obi (.br (aB U 1 1000000) (.ob (aB U 1 1000000) (.cb (.ii (.br (aB O 1 5000000) (.ob (aB O 1 5000000) (.ob (aB O 1 5000000) (.cb (.obi (.br (aB x5 0 O) (.ob (aB x5 0 O) (.cb (.obi (.br (aB x6 0 1000) (.ob (aB x6 0 1000) (.cb (.obi (.br (gi Z Y 0 1000) (.ob (gi Z Y 0 1000) (.cb (.obi (.br (gi x9 PV 0 1000) (.ob (gi x9 PV 0 1000) (.cb (.obi (.br (aB PT 1 200000) (.ob (aB PT 1 200000) (.cb (.obi (.br (aB PZ 0 1000) (.ob (aB PZ 0 1000) (.cb (.am Qs (.cb (.br (!aB S 0 (E ((Qs:Int)-1))) (.ret (D 4)) (.cb (.br (!aB W 1 3) (.ret (D 2)) (.br (!aB Pk 0 3600) (.ret (D 7)) (.ii (.obi (.br (bif W==1 then decide (0<Pk) else false) (.ret (D 2)) (.ret (D 0))))))))))))) (.am Qs (.cb (.br (!aB S 0 (E ((Qs:Int)-1))) (.ret (D 4)) (.cb (.br (!aB W 1 3) (.ret (D 2)) (.ret (D 7))))))))))) (.am Qs (.cb (.br (!aB S 0 (E ((Qs:Int)-1))) (.ret (D 4)) (.cb (.br (!aB W 1 3) (.ret (D 2)) (.ret (D 7))))))))))) (.am Qs (.cb (.br (!aB S 0 (E ((Qs:Int)-1))) (.ret (D 4)) (.cb (.br (!aB W 1 3) (.ret (D 2)) (.ret (D 7))))))))))) (.am Qs (.cb (.br (!aB S 0 (E ((Qs:Int)-1))) (.ret (D 4)) (.cb (.br (!aB W 1 3) (.ret (D 2)) (.ret (D 7))))))))))) (.am Qs (.cb (.br (!aB S 0 (E ((Qs:Int)-1))) (.ret (D 4)) (.cb (.br (!aB W 1 3) (.ret (D 2)) (.ret (D 7))))))))))) (.am Qs (.cb (.br (!aB S 0 (E ((Qs:Int)-1))) (.ret (D 4)) (.cb (.br (!aB W 1 3) (.ret (D 2)) (.ret (D 7)))))))))))) (.am Qs (.cb (.br (!aB S 0 (E ((Qs:Int)-1))) (.ret (D 4)) (.cb (.br (!aB W 1 3) (.ret (D 2)) (.ret (D 7))))))))))) (.am Qs (.cb (.br (!aB S 0 (E ((Qs:Int)-1))) (.ret (D 4)) (.cb (.br (!aB W 1 3) (.ret (D 2)) (.ret (D 7))))))))))
theorem is5:cV cX (aQ JJ NT u0 aiX [V.agg [V.str s0,D S,D W,D U,D O,D x5,D x6,D Z,D Y,D x9,D PV,D PT,D PZ,D Pk],V.pd [V.sl Qs (A al TJ),V.sl Z4 (A ao TK)]]) (aaW s0 S W U O x5 x6 Z Y x9 PV PT PZ Pk Qs TJ Z4 TK):=bF
def iza11:Int:=bif aB U 1 1000000 then bif aB O 1 5000000 then bif aB x5 0 O then bif aB x6 0 1000 then bif gi Z Y 0 1000 then bif gi x9 PV 0 1000 then bif aB PT 1 200000 then bif aB PZ 0 1000 then bif !aB S 0 (E ((Qs:Int)-1)) then 4 else bif !aB W 1 3 then 2 else bif !aB Pk 0 3600 then 7 else bif bif W==1 then decide (0<Pk) else false then 2 else 0 else bif !aB S 0 (E ((Qs:Int)-1)) then 4 else bif !aB W 1 3 then 2 else 7 else bif !aB S 0 (E ((Qs:Int)-1)) then 4 else bif !aB W 1 3 then 2 else 7 else bif !aB S 0 (E ((Qs:Int)-1)) then 4 else bif !aB W 1 3 then 2 else 7 else bif !aB S 0 (E ((Qs:Int)-1)) then 4 else bif !aB W 1 3 then 2 else 7 else bif !aB S 0 (E ((Qs:Int)-1)) then 4 else bif !aB W 1 3 then 2 else 7 else bif !aB S 0 (E ((Qs:Int)-1)) then 4 else bif !aB W 1 3 then 2 else 7 else bif !aB S 0 (E ((Qs:Int)-1)) then 4 else bif !aB W 1 3 then 2 else 7 else bif !aB S 0 (E ((Qs:Int)-1)) then 4 else bif !aB W 1 3 then 2 else 7
def Mo (a k num PX:Bool):Int:=bif !a then 4 else bif !k then 2 else bif !num then 7 else bif PX then 2 else 0
def U8:Bool:=bif W==1 then decide (0<Pk) else false
def R1260:Bool:=aB U 1 1000000&&(aB O 1 5000000&&(aB x5 0 O&&(aB x6 0 1000&&(gi Z Y 0 1000&&(gi x9 PV 0 1000&&(aB PT 1 200000&&(aB PZ 0 1000&&(aB Pk 0 3600))))))))
def sD (S W U O x5 x6 Z Y x9 PV PT PZ Pk:Int) (Qs:Nat):Int:=Mo (aB S 0 (E ((Qs:Int)-1))) (aB W 1 3) (aB U 1 1000000&&(aB O 1 5000000&&(aB x5 0 O&&(aB x6 0 1000&&(gi Z Y 0 1000&&(gi x9 PV 0 1000&&(aB PT 1 200000&&(aB PZ 0 1000&&(aB Pk 0 3600))))))))) (U8 W Pk)
section
variable {Pe:Type} {Nx:Pe->V->Prop} {r:V} {X QE:RT Pe} {c:Bool}
section
variable (M:c=false->aU Nx QE r) (Q:c=true->aU Nx X r)
include M Q
theorem se:aU Nx (.br c (.ob c X) QE) r:=AP (λh=>aF h (Q h)) M
theorem ahS:aU Nx (.br c (.ob c (.ob c X)) QE) r:=AP (λh=>aF h (aF h (Q h))) M
end
theorem En {a k PX:Bool} {p:Prop}:aU Nx (.asm p (.obc (.obt (.br (!a) (.ret (D 4)) (.obc (.obt (.br (!k) (.ret (D 2)) (.ret (D 7)))))))) ) (D (Mo a k false PX)) :=
 Af λ_=>AM (ac (AP (λh=>AF (by rw[Mq h];rfl)) λh=>AM (ac (AP (λQ=>AF (by rw[wc h,Mq Q];rfl)) λQ=>AF (by rw[wc h,wc Q];rfl)))))
end
theorem am1:aU cN (aaW s0 S W U O x5 x6 Z Y x9 PV PT PZ Pk Qs TJ Z4 TK) (D (sD S W U O x5 x6 Z Y x9 PV PT PZ Pk Qs)):=by
 unfold sD;refine AM (ac ?_)
 repeat refine AE ?_
 refine se (λh=>by rw[h];exact En) (λh=>?_);rw[h];refine AM (ac ?_)
 repeat refine AE ?_
 refine ahS (λh=>by rw[h];exact En) (λh=>?_);rw[h];refine AM (ac ?_)
 repeat refine AE ?_
 refine se (λh=>by rw[h];exact En) (λh=>?_);rw[h];refine AM (ac ?_)
 repeat refine AE ?_
 refine se (λh=>by rw[h];exact En) (λh=>?_);rw[h];refine AM (ac ?_)
 repeat refine AE ?_
 refine se (λh=>by rw[h];exact En) (λh=>?_);rw[h];refine AM (ac ?_)
 repeat refine AE ?_
 refine se (λh=>by rw[h];exact En) (λh=>?_);rw[h];refine AM (ac ?_)
 repeat refine AE ?_
 refine se (λh=>by rw[h];exact En) (λh=>?_);rw[h];refine AM (ac ?_)
 repeat refine AE ?_
 refine se (λh=>by rw[h];exact En) (λh=>?_);rw[h];refine AM (ac ?_);exact Af λ_=>AM (ac (AP (λh=>AF (by rw[Mq h];rfl)) λh=>AM (ac (AP (λQ=>AF (by rw[wc h,Mq Q];rfl)) λQ=>AP (λh3=>AF (by rw[wc h,wc Q,Mq h3];rfl)) λh3=>AE (AE (AE (AP (λh4=>AF (by rw[wc h,wc Q,wc h3,show U8 W Pk=true from h4];rfl)) λh4=>AF (by rw[wc h,wc Q,wc h3,show U8 W Pk=false from h4];rfl))))))))
def adO:aD:=bP [.agg ao,.pd [.sl al,.sl ao]] (λ_=>True) λ|[.agg [.str s0,.int _ S,.int _ W,.int _ U,.int _ O,.int _ x5,.int _ x6,.int _ Z,.int _ Y,.int _ x9,.int _ PV,.int _ PT,.int _ PZ,.int _ Pk],.pd [.sl Qs TJ,.sl Z4 TK]]=>D (sD S W U O x5 x6 Z Y x9 PV PT PZ Pk Qs)|_=>.any
theorem afs:b7 adO 81:=aT aeX λ_ hp=>c7 (is5 ..) (am1 _ _ _ _ _ _ _ _ _ _ _ _ _ _ _ _ _ _)
def Et:bo:=(137,.inl ak9 u0)::(186,.inl agw u0)::(138,.inl amn u0)::(130,.inl amy u0)::(184,.inl ajq u0)::(132,.inl aml u0)::(81,.con adO)::NT
theorem Tp:ba Tryz.prog AQ AS Et:=iz Tryz.func137 bD (iz Tryz.func186 bD (iz Tryz.func138 bD (iz Tryz.func130 bD (iz Tryz.func184 bD (iz Tryz.func132 bD (.con afs (aeX)))))))
inductive pI where|L0 (_:Int)|L2 (_ _:Int) (_:Nat) (_:ByteArray) (_:Nat) (_:be) (_:Nat) (_:be) (_:Nat) (_:be) (_ _ _:Int)
def aiP:pI->bT×List AD×Option Ex
 |.L0 PW=>([(14,D PW),(13,D (H:Int)),(12,V.sl H (A al G)),(4,V.pl 0 0),(0,V.sl H (A al G)),(2,V.fn 78 [] [])],[AD.cells [V.fn 77 [] []] 123],none)|.L2 Q9 R3 Vp Vq yM f0 yO f2 yW f5 Wc Wd _=>([(8,D Q9),(7,D R3),(0,V.sl Vp λi=>A al G (0+i)),(1,V.fn 130 [] [V.pl 0 0,V.pl 1 0])],[AD.cells [V.fn 77 [] []] 123,AD.cells [V.str Vq,V.sl yM (A L f0),V.sl yO (A L f2),V.sl yW (A [Ty.sl L] f5),D Wc,D Wd] 88],none)
def agl:pI->JJ
 |.L0 _=>(0,[])|.L2 _ _ _ _ _ _ _ _ _ _ _ _ Qv=>(2,[Cx.i Qv])
def fc5:AN (cr JJ):=aQ JJ Et u0 alK [V.sl H (A al G),V.fn 77 [] [],V.fn 78 [] []]
def xh (cx:List Cx):Lp JJ:=eX (eC (fc5 H G) [])
def hle0 (cx:List Cx):Lp JJ:=eX (eC (oU Et u0 (0,[]) (xh H G []) (aiP H G (.L0 (dw cx 0)))) [true,false])
def aiL:JJ->Lp JJ
 |(0,cx)=>xh H G cx|(2,cx)=>hle0 H G cx|(_,cx)=>xh H G cx
def atN:LD JJ pI:=⟨agl,aiL H G,aiP H G⟩
def r5:pI->RT pI
 |.L0 PW=>.br (decide (PW<(H:Int))) (.ob (dI PW H) (.cb (.cb (.obp ((sv (av (G PW.toNat))).size<=(9223372036854775807:Nat)) (.obt (.br (!kG (sv (av (G PW.toNat)))) (.brt (.ret (V.tup [D PW,D 6]))) (.ob (decide (0<=PW/\PW<=(H:Int))) (.asm (true=true->PW.toNat-0<=9223372036854775807) (.enter D8 (pI.L2 0 ((↑(PW.toNat-0):Int)) (PW.toNat-0) (sv (av (G PW.toNat))) (aw (av (I (G PW.toNat)))) (λi=>ap L (bz (av (I (G PW.toNat))) i)) (aw (av (I (I (G PW.toNat))))) (λi=>ap L (bz (av (I (I (G PW.toNat)))) i)) (aw (av (I (I (I (G PW.toNat)))))) (λi=>ap [Ty.sl L] (bz (av (I (I (I (G PW.toNat))))) i)) (cq (G PW.toNat)) (bG (G PW.toNat)) PW) []))))))))) (.ret (V.tup Au))|.L2 Q9 R3 Vp Vq yM f0 yO f2 yW f5 Wc Wd Qv=>.br (decide (Q9<R3)) (.ob (dI Q9 Vp) (.cb (.cb (.br ((sv (av (G (0+Q9.toNat)))).toList==Vq.toList) (.br (decide (0<=Q9)) (.brt (.ret (V.tup [D Qv,D 5]))) (.br (pc (aw (av (I (G Qv.toNat)))) (λi=>ap L (bz (av (I (G Qv.toNat))) i)) (aw (av (I (I (G Qv.toNat))))) (λi=>ap L (bz (av (I (I (G Qv.toNat)))) i)) (aw (av (I (I (I (G Qv.toNat)))))) (λi=>ap [Ty.sl L] (bz (av (I (I (I (G Qv.toNat))))) i)) (cq (G Qv.toNat)) (bG (G Qv.toNat))!=0) (.ret (V.tup [D Qv,D (pc (aw (av (I (G Qv.toNat)))) (λi=>ap L (bz (av (I (G Qv.toNat))) i)) (aw (av (I (I (G Qv.toNat))))) (λi=>ap L (bz (av (I (I (G Qv.toNat)))) i)) (aw (av (I (I (I (G Qv.toNat)))))) (λi=>ap [Ty.sl L] (bz (av (I (I (I (G Qv.toNat))))) i)) (cq (G Qv.toNat)) (bG (G Qv.toNat)))])) (.next Az (pI.L0 (E (Qv+1))) []))) (.next D8 (pI.L2 (E (Q9+1)) R3 Vp (Vq) yM f0 yO f2 yW f5 Wc Wd Qv) []))))) (.brf (.br (pc (aw (av (I (G Qv.toNat)))) (λi=>ap L (bz (av (I (G Qv.toNat))) i)) (aw (av (I (I (G Qv.toNat))))) (λi=>ap L (bz (av (I (I (G Qv.toNat)))) i)) (aw (av (I (I (I (G Qv.toNat)))))) (λi=>ap [Ty.sl L] (bz (av (I (I (I (G Qv.toNat))))) i)) (cq (G Qv.toNat)) (bG (G Qv.toNat))!=0) (.ret (V.tup [D Qv,D (pc (aw (av (I (G Qv.toNat)))) (λi=>ap L (bz (av (I (G Qv.toNat))) i)) (aw (av (I (I (G Qv.toNat))))) (λi=>ap L (bz (av (I (I (G Qv.toNat)))) i)) (aw (av (I (I (I (G Qv.toNat)))))) (λi=>ap [Ty.sl L] (bz (av (I (I (I (G Qv.toNat))))) i)) (cq (G Qv.toNat)) (bG (G Qv.toNat)))])) (.next Az (pI.L0 (E (Qv+1))) [])))
def OH:RT pI:=dm G (.am H (.enter Az (pI.L0 0) []))
theorem aau:d0 Et u0 (atN H G) (fc5 H G) (OH H G) (r5 H G):=⟨bF,λs=>by cases s<;>exact bF⟩
def CU (a:Nat):Int:=pc (aw (av (I (G a)))) (λi=>ap L (bz (av (I (G a))) i)) (aw (av (I (I (G a))))) (λi=>ap L (bz (av (I (I (G a)))) i)) (aw (av (I (I (I (G a)))))) (λi=>ap [Ty.sl L] (bz (av (I (I (I (G a))))) i)) (cq (G a)) (bG (G a))
def CG (i j:Nat):Bool:=(sv (av (G (0+j)))).toList==(sv (av (G i))).toList
def kN (i:Nat):Int:=bif !kG (sv (av (G i))) then 6 else bif gW i (CG G i) then 5 else CU G i
def gm:Int:=gr H (kN G)
def eW:Int:=d9 H (kN G)
theorem ao3 (hn:H<=9223372036854775807) (a:Nat) (hi:a<H) (hj:∀ j,j<a->(kN G j != 0)=false) (M:kG (sv (av (G a)))=true) (hx:(kN G a != 0)=false->Ev (r5 H G) (.L0 (E ((a:Int)+1))) (.tup [D (gm H G),D (eW H G)])):Ev (r5 H G) (.L2 0 ((↑(a-0):Int)) (a-0) (sv (av (G a))) (aw (av (I (G a)))) (λi=>ap L (bz (av (I (G a))) i)) (aw (av (I (I (G a))))) (λi=>ap L (bz (av (I (I (G a)))) i)) (aw (av (I (I (I (G a)))))) (λi=>ap [Ty.sl L] (bz (av (I (I (I (G a))))) i)) (cq (G a)) (bG (G a)) ((a:Int))) (.tup [D (gm H G),D (eW H G)]):=by
 refine ky (n:=a) K (CG G a) (P:=λx=>Ev (r5 H G) (.L2 x ((↑(a-0):Int)) (a-0) (sv (av (G a))) (aw (av (I (G a)))) (λi=>ap L (bz (av (I (G a))) i)) (aw (av (I (I (G a))))) (λi=>ap L (bz (av (I (I (G a)))) i)) (aw (av (I (I (I (G a)))))) (λi=>ap [Ty.sl L] (bz (av (I (I (I (G a))))) i)) (cq (G a)) (bG (G a)) ((a:Int))) (.tup [D (gm H G),D (eW H G)])) (λj Pj hq next=>Ev.of rfl (dt Pj (c8 Pj (AM (ac (AM (ac (AP (λhb=>cO (AG (KZ j)) (dX (AF ?_))) (λhb=>aK (next hb)))))))))) (λhq=>Ev.of rfl (dp (gQ (AP (λhb=>AF ?_) (λhb=>aK (hx ?_))))))
 ·have hc:kN G a=5:=by unfold kN;rw[M,cZ j Pj hb];rfl
  unfold gm eW;rw[(du hi (by rw[hc];rfl) hj).1,(du hi (by rw[hc];rfl) hj).2,hc]
 ·have hc:kN G a=CU G a:=by unfold kN;rw[M,da hq];rfl
  unfold gm eW;rw[(du hi (by rw[hc];exact hb) hj).1,(du hi (by rw[hc];exact hb) hj).2,hc];rfl
 ·have hc:kN G a=CU G a:=by unfold kN;rw[M,da hq];rfl
  rw[hc];exact hb
theorem ic7 (hp:aC H G):aU (Ev (r5 H G)) (OH H G) (.tup [D (gm H G),D (eW H G)]):=by
 refine bC λhn=>aH (ky hn (λi=>kN G i !=0) (P:=λx=>Ev (r5 H G) (.L0 x) (.tup [D (gm H G),D (eW H G)])) (λi Pj hj next=>Ev.of rfl (dt Pj (c8 Pj (AM (ac (AM (ac (aI (hp i Pj) (ac (AP (λhb=>dX (AF ?_)) (λhb=>aF (AG K) (Af λ_=>aH (ao3 H G hn i Pj hj (wc hb) next))))))))))))) (λhj=>Ev.of rfl (dp (AF ?_))))
 ·have hc:kN G i=6:=by unfold kN;rw[show(!kG (sv (av (G i))))=true from hb];rfl
  unfold gm eW;rw[(du Pj (by rw[hc];rfl) hj).1,(du Pj (by rw[hc];rfl) hj).2,hc]
 ·unfold gm eW;rw[(iD hj).1,(iD hj).2]
theorem ahE (hp:aC H (A al G)):aU (Ev (r5 H G)) (OH H G) (.tup [D (gm H (A al G)),D (eW H (A al G))]):=ic7 H G hp
def aaZ:aD:=bP [.sl al,.fn 77 [] [],.fn 78 [] []] (λ
 |[.sl H G,.fn _ [] [],.fn _ [] []]=>aC H G|_=>False) λ
 |[.sl H G,.fn _ [] [],.fn _ [] []]=>.tup [D (gm H G),D (eW H G)]|_=>.any
theorem akE:b7 aaZ 76:=aT Tp λ_ hp=>kt (aau ..) (ahE _ _ hp)
inductive pz where|L0 (_:Int)|L2 (_ _:Int) (_:Nat) (_:ByteArray) (_ _ _ _ _ _ _ _ _ _ _ _ _ _:Int)
def anZ:pz->bT×List AD×Option Ex
 |.L0 PW=>([(14,D PW),(13,D (H:Int)),(12,V.sl H (A ao G)),(4,V.pl 0 0),(0,V.sl H (A ao G)),(2,V.fn 81 [] [V.pd [V.sl R (A al N),V.sl n4 (A ao f4)]])],[AD.cells [V.fn 80 [] []] 126],none)|.L2 Q9 R3 Vp Vq uI uM vC vF vG vH Wc Wd Qv tW tf tn u5 _=>([(8,D Q9),(7,D R3),(0,V.sl Vp λi=>A ao G (0+i)),(1,V.fn 137 [] [V.pl 0 0,V.pl 1 0])],[AD.cells [V.fn 80 [] []] 126,AD.cells [V.str Vq,D uI,D uM,D vC,D vF,D vG,D vH,D Wc,D Wd,D Qv,D tW,D tf,D tn,D u5] 104],none)
def ang:pz->JJ
 |.L0 _=>(0,[])|.L2 _ _ _ _ _ _ _ _ _ _ _ _ _ _ _ _ _ Ql=>(2,[Cx.i Ql])
def hbw:AN (cr JJ):=aQ JJ Et u0 ak5 [V.sl H (A ao G),V.fn 80 [] [],V.fn 81 [] [V.pd [V.sl R (A al N),V.sl n4 (A ao f4)]]]
def yE (cx:List Cx):Lp JJ:=eX (eC (hbw H G R N n4 f4) [])
def hx0 (cx:List Cx):Lp JJ:=eX (eC (oU Et u0 (0,[]) (yE H G R N n4 f4 []) (anZ H G R N n4 f4 (.L0 (dw cx 0)))) [true,false])
def afC:JJ->Lp JJ
 |(0,cx)=>yE H G R N n4 f4 cx|(2,cx)=>hx0 H G R N n4 f4 cx|(_,cx)=>yE H G R N n4 f4 cx
def apU:LD JJ pz:=⟨ang,afC H G R N n4 f4,anZ H G R N n4 f4⟩
def rT (H:Nat) (G:be) (R:Nat) (N:be) (n4:Nat) (f4:be):pz->RT pz
 |.L0 PW=>.br (decide (PW<(H:Int))) (.ob (dI PW H) (.cb (.cb (.obp ((sv (av (G PW.toNat))).size<=(9223372036854775807:Nat)) (.obt (.br (!kG (sv (av (G PW.toNat)))) (.brt (.ret (V.tup [D PW,D 6]))) (.ob (decide (0<=PW/\PW<=(H:Int))) (.asm (true=true->PW.toNat-0<=9223372036854775807) (.enter D8 (pz.L2 0 ((↑(PW.toNat-0):Int)) (PW.toNat-0) (sv (av (G PW.toNat))) (aR (G PW.toNat)) (bX (G PW.toNat)) (bf (G PW.toNat)) (cq (G PW.toNat)) (bG (G PW.toNat)) (bG (I (G PW.toNat))) (bG (I (I (G PW.toNat)))) (bG (I (I (I (G PW.toNat))))) (bG (I (I (I (I (G PW.toNat)))))) (bG (I (I (I (I (I (G PW.toNat))))))) (bG (I (I (I (I (I (I (G PW.toNat)))))))) (bG (I (I (I (I (I (I (I (G PW.toNat))))))))) (bG (I (I (I (I (I (I (I (I (G PW.toNat)))))))))) PW) []))))))))) (.ret (V.tup Au))|.L2 Q9 R3 Vp Vq uI uM vC vF vG vH Wc Wd Qv tW tf tn u5 Ql=>.br (decide (Q9<R3)) (.ob (dI Q9 Vp) (.cb (.cb (.br ((sv (av (G (0+Q9.toNat)))).toList==Vq.toList) (.br (decide (0<=Q9)) (.brt (.ret (V.tup [D Ql,D 5]))) (.br (sD (aR (G Ql.toNat)) (bX (G Ql.toNat)) (bf (G Ql.toNat)) (cq (G Ql.toNat)) (bG (G Ql.toNat)) (bG (I (G Ql.toNat))) (bG (I (I (G Ql.toNat)))) (bG (I (I (I (G Ql.toNat))))) (bG (I (I (I (I (G Ql.toNat)))))) (bG (I (I (I (I (I (G Ql.toNat))))))) (bG (I (I (I (I (I (I (G Ql.toNat)))))))) (bG (I (I (I (I (I (I (I (G Ql.toNat))))))))) (bG (I (I (I (I (I (I (I (I (G Ql.toNat)))))))))) R !=0) (.ret (V.tup [D Ql,D (sD (aR (G Ql.toNat)) (bX (G Ql.toNat)) (bf (G Ql.toNat)) (cq (G Ql.toNat)) (bG (G Ql.toNat)) (bG (I (G Ql.toNat))) (bG (I (I (G Ql.toNat)))) (bG (I (I (I (G Ql.toNat))))) (bG (I (I (I (I (G Ql.toNat)))))) (bG (I (I (I (I (I (G Ql.toNat))))))) (bG (I (I (I (I (I (I (G Ql.toNat)))))))) (bG (I (I (I (I (I (I (I (G Ql.toNat))))))))) (bG (I (I (I (I (I (I (I (I (G Ql.toNat)))))))))) R)])) (.next Az (pz.L0 (E (Ql+1))) []))) (.next D8 (pz.L2 (E (Q9+1)) R3 Vp (Vq) uI uM vC vF vG vH Wc Wd Qv tW tf tn u5 Ql) []))))) (.brf (.br (sD (aR (G Ql.toNat)) (bX (G Ql.toNat)) (bf (G Ql.toNat)) (cq (G Ql.toNat)) (bG (G Ql.toNat)) (bG (I (G Ql.toNat))) (bG (I (I (G Ql.toNat)))) (bG (I (I (I (G Ql.toNat))))) (bG (I (I (I (I (G Ql.toNat)))))) (bG (I (I (I (I (I (G Ql.toNat))))))) (bG (I (I (I (I (I (I (G Ql.toNat)))))))) (bG (I (I (I (I (I (I (I (G Ql.toNat))))))))) (bG (I (I (I (I (I (I (I (I (G Ql.toNat)))))))))) R !=0) (.ret (V.tup [D Ql,D (sD (aR (G Ql.toNat)) (bX (G Ql.toNat)) (bf (G Ql.toNat)) (cq (G Ql.toNat)) (bG (G Ql.toNat)) (bG (I (G Ql.toNat))) (bG (I (I (G Ql.toNat)))) (bG (I (I (I (G Ql.toNat))))) (bG (I (I (I (I (G Ql.toNat)))))) (bG (I (I (I (I (I (G Ql.toNat))))))) (bG (I (I (I (I (I (I (G Ql.toNat)))))))) (bG (I (I (I (I (I (I (I (G Ql.toNat))))))))) (bG (I (I (I (I (I (I (I (I (G Ql.toNat)))))))))) R)])) (.next Az (pz.L0 (E (Ql+1))) [])))
def QH:RT pz:=dm (G,R,N,n4,f4) (.am H (.enter Az (pz.L0 0) []))
theorem okQ:d0 Et u0 (apU H G R N n4 f4) (hbw H G R N n4 f4) (QH H G R N n4 f4) (rT H G R N n4 f4):=⟨bF,λs=>by cases s<;>exact bF⟩
def Cy (R a:Nat):Int:=sD (aR (G a)) (bX (G a)) (bf (G a)) (cq (G a)) (bG (G a)) (bG (I (G a))) (bG (I (I (G a)))) (bG (I (I (I (G a))))) (bG (I (I (I (I (G a)))))) (bG (I (I (I (I (I (G a))))))) (bG (I (I (I (I (I (I (G a)))))))) (bG (I (I (I (I (I (I (I (G a))))))))) (bG (I (I (I (I (I (I (I (I (G a)))))))))) R
def BW (i j:Nat):Bool:=(sv (av (G (0+j)))).toList==(sv (av (G i))).toList
def kK (R i:Nat):Int:=bif !kG (sv (av (G i))) then 6 else bif gW i (BW G i) then 5 else Cy G R i
def gg:Int:=gr H (kK G R)
def eP:Int:=d9 H (kK G R)
theorem asd (hn:H<=9223372036854775807) (a:Nat) (hi:a<H) (hj:∀ j,j<a->(kK G R j != 0)=false) (M:kG (sv (av (G a)))=true) (hx:(kK G R a != 0)=false->Ev (rT H G R N n4 f4) (.L0 (E ((a:Int)+1))) (.tup [D (gg H G R),D (eP H G R)])):Ev (rT H G R N n4 f4) (.L2 0 ((↑(a-0):Int)) (a-0) (sv (av (G a))) (aR (G a)) (bX (G a)) (bf (G a)) (cq (G a)) (bG (G a)) (bG (I (G a))) (bG (I (I (G a)))) (bG (I (I (I (G a))))) (bG (I (I (I (I (G a)))))) (bG (I (I (I (I (I (G a))))))) (bG (I (I (I (I (I (I (G a)))))))) (bG (I (I (I (I (I (I (I (G a))))))))) (bG (I (I (I (I (I (I (I (I (G a)))))))))) ((a:Int))) (.tup [D (gg H G R),D (eP H G R)]):=by
 refine ky (n:=a) K (BW G a) (P:=λx=>Ev (rT H G R N n4 f4) (.L2 x ((↑(a-0):Int)) (a-0) (sv (av (G a))) (aR (G a)) (bX (G a)) (bf (G a)) (cq (G a)) (bG (G a)) (bG (I (G a))) (bG (I (I (G a)))) (bG (I (I (I (G a))))) (bG (I (I (I (I (G a)))))) (bG (I (I (I (I (I (G a))))))) (bG (I (I (I (I (I (I (G a)))))))) (bG (I (I (I (I (I (I (I (G a))))))))) (bG (I (I (I (I (I (I (I (I (G a)))))))))) ((a:Int))) (.tup [D (gg H G R),D (eP H G R)])) (λj Pj hq next=>Ev.of rfl (dt Pj (c8 Pj (AM (ac (AM (ac (AP (λhb=>cO (AG (KZ j)) (dX (AF ?_))) (λhb=>aK (next hb)))))))))) (λhq=>Ev.of rfl (dp (gQ (AP (λhb=>AF ?_) (λhb=>aK (hx ?_))))))
 ·have hc:kK G R a=5:=by unfold kK;rw[M,cZ j Pj hb];rfl
  unfold gg eP;rw[(du hi (by rw[hc];rfl) hj).1,(du hi (by rw[hc];rfl) hj).2,hc]
 ·have hc:kK G R a=Cy G R a:=by unfold kK;rw[M,da hq];rfl
  unfold gg eP;rw[(du hi (by rw[hc];exact hb) hj).1,(du hi (by rw[hc];exact hb) hj).2,hc];rfl
 ·have hc:kK G R a=Cy G R a:=by unfold kK;rw[M,da hq];rfl
  rw[hc];exact hb
theorem ia3 (hp:aC H G):aU (Ev (rT H G R N n4 f4)) (QH H G R N n4 f4) (.tup [D (gg H G R),D (eP H G R)]):=by
 refine bC λhn=>aH (ky hn (λi=>kK G R i !=0) (P:=λx=>Ev (rT H G R N n4 f4) (.L0 x) (.tup [D (gg H G R),D (eP H G R)])) (λi Pj hj next=>Ev.of rfl (dt Pj (c8 Pj (AM (ac (AM (ac (aI (hp i Pj) (ac (AP (λhb=>dX (AF ?_)) (λhb=>aF (AG K) (Af λ_=>aH (asd H G R N n4 f4 hn i Pj hj (wc hb) next))))))))))))) (λhj=>Ev.of rfl (dp (AF ?_))))
 ·have hc:kK G R i=6:=by unfold kK;rw[show(!kG (sv (av (G i))))=true from hb];rfl
  unfold gg eP;rw[(du Pj (by rw[hc];rfl) hj).1,(du Pj (by rw[hc];rfl) hj).2,hc]
 ·unfold gg eP;rw[(iD hj).1,(iD hj).2]
theorem ahp (hp:aC H (A ao G)):aU (Ev (rT H G R N n4 f4)) (QH H G R N n4 f4) (.tup [D (gg H (A ao G) R),D (eP H (A ao G) R)]):=ia3 H G R N n4 f4 hp
def ac4:aD:=bP [.sl ao,.fn 80 [] [],.fn 81 [] [.pd [.sl al,.sl ao]]] (λ
 |[.sl H G,.fn _ [] [],.fn _ [] [.pd [.sl R N,.sl n4 f4]]]=>aC H G|_=>False) λ
 |[.sl H G,.fn _ [] [],.fn _ [] [.pd [.sl R N,.sl n4 f4]]]=>.tup [D (gg H G R),D (eP H G R)]|_=>.any
theorem anO:b7 ac4 79:=aT Tp λ_ hp=>kt (okQ ..) (ahp _ _ _ _ _ _ hp)
def qW:bo:=(76,.con aaZ)::(79,.con ac4)::Et
theorem BI:ba Tryz.prog AQ AS qW:=.con akE (.con anO (Tp))
def abS:RT Empty:=.am H (.ii (.asm ((!decide (10<(H:Int)))=true->R<=9223372036854775807) (.ii (.br (bif decide (10<(H:Int)) then true else decide (20<(R:Int))) (.ret (V.tup [D 0,D 0,D 3])) (.obp (aC H G) (.obt (.br (eW H (A al G)!=0) (.ret (V.tup [D 1,D (gm H (A al G)),D (eW H (A al G))])) (.obp (aC R N) (.obt (.br (eP R (A ao N) H !=0) (.ret (V.tup [D 2,D (gg R (A ao N) H),D (eP R (A ao N) H)])) (.ret (V.tup Fb))))))))))))
theorem ix5:cV cX (aQ JJ qW u0 am0 [V.agg [V.sl H (A al G),V.sl R (A ao N)]]) (abS H G R N):=bF
def oA:Int:=bif bif decide (10<(H:Int)) then true else decide (20<(R:Int)) then 0 else bif eW H (A al G)!=0 then 1 else bif eP R (A ao N) H !=0 then 2 else 0
def ol:Int:=bif bif decide (10<(H:Int)) then true else decide (20<(R:Int)) then 0 else bif eW H (A al G)!=0 then gm H (A al G) else bif eP R (A ao N) H !=0 then gg R (A ao N) H else 0
def bH:Int:=bif bif decide (10<(H:Int)) then true else decide (20<(R:Int)) then 3 else bif eW H (A al G)!=0 then eW H (A al G) else bif eP R (A ao N) H !=0 then eP R (A ao N) H else 0
def AO:V:=.tup [D (oA H G R N),D (ol H G R N),D (bH H G R N)]
theorem aiE (hp:aC H G/\aC R N):aU cN (abS H G R N) (AO H G R N):=Af (λa0=>AE (AE (Af (λa0=>AE (AE (AP (λh0=>AF (by unfold AO oA ol bH;try rw[h0];rfl)) (λh0=>aI (by first|assumption|(first|exact hp.1|exact hp.2)) (ac (AP (λM=>AF (by unfold AO oA ol bH;try rw[h0];try rw[M];rfl)) (λM=>aI (by first|assumption|(first|exact hp.1|exact hp.2)) (ac (AP (λQ=>AF (by unfold AO oA ol bH;try rw[h0];try rw[M];try rw[Q];rfl)) (λQ=>AF (by unfold AO oA ol bH;try rw[h0];try rw[M];try rw[Q];rfl))))))))))))))
def acv:aD:=bP [.agg [.sl al,.sl ao]] (λ
 |[.agg [.sl H G,.sl R N]]=>aC H G/\aC R N|_=>False) λ
 |[.agg [.sl H G,.sl R N]]=>AO H G R N|_=>.any
theorem hdd:b7 acv 49:=aT BI λ_ hp=>c7 (ix5 ..) (aiE _ _ _ _ hp)
inductive kL where|L0 (_:Int)|L1 (_:Int) (_:Bool) (_:Int)|L2 (_ _:Int) (_:Bool) (_:Int)|L3 (_ _ _:Int) (_:Bool) (_:Int)
def B7 (l:List AD):List AD:=dm (H,R,N) (AD.cells [V.str (sv (av (G O.toNat))),V.sl (aw (av (I (G O.toNat)))) λi=>ap L (bz (av (I (G O.toNat))) i),V.sl (aw (av (I (I (G O.toNat))))) λi=>ap L (bz (av (I (I (G O.toNat)))) i),V.sl (aw (av (I (I (I (G O.toNat)))))) λi=>ap [Ty.sl L] (bz (av (I (I (I (G O.toNat))))) i),D (cq (G O.toNat)),D (bG (G O.toNat))] 88::l)
def wY:kL->bT×List AD×Option Ex
 |.L0 PW=>([(6,D PW),(5,V.pl 0 0),(2,V.pl 1 0),(1,D O)],B7 H G R N O [AD.cells [V.sl H (A al G),V.sl R (A ao N)] 25],none)|.L1 Q6 ZW Vi=>([(14,D Q6),(13,V.bool ZW),(6,D Vi),(5,V.pl 0 0),(2,V.pl 1 0),(1,D O)],B7 H G R N O [AD.cells [V.sl H (A al G),V.sl R (A ao N)] 25],none)|.L2 Q9 R3 ZX T2=>([(15,D Q9),(14,D R3),(13,V.bool ZX),(6,D T2),(5,V.pl 0 0),(2,V.pl 1 0),(1,D O)],B7 H G R N O [AD.cells [V.sl H (A al G),V.sl R (A ao N)] 25],none)|.L3 Qn Sa VE WJ Uv=>([(16,D Qn),(15,D Sa),(14,D VE),(13,V.bool WJ),(6,D Uv),(5,V.pl 0 0),(2,V.pl 1 0),(1,D O)],B7 H G R N O [AD.cells [V.sl H (A al G),V.sl R (A ao N)] 25],none)
def aia:kL->JJ
 |.L0 _=>(0,[])|.L1 ..=>(1,[])|.L2 ..=>(2,[])|.L3 ..=>(3,[])
def ff5:AN (cr JJ):=aQ JJ qW u0 ahw [V.agg [V.sl H (A al G),V.sl R (A ao N)],D O]
def yD (cx:List Cx):Lp JJ:=eX (eC (ff5 H G R N O) [false])
def afN (cx:List Cx):Lp JJ:=eX (eC (oU qW u0 (0,[]) (yD H G R N O []) (wY H G R N O (.L0 (0:Int)))) [false,false,false,false,false,true])
def abh (cx:List Cx):Lp JJ:=eX (eC (oU qW u0 (1,[]) (afN H G R N O []) (wY H G R N O (.L1 (0:Int) false (0:Int)))) [false])
def hzb (cx:List Cx):Lp JJ:=eX (eC (oU qW u0 (2,[]) (abh H G R N O []) (wY H G R N O (.L2 (0:Int) (0:Int) false (0:Int)))) [true])
def aij:JJ->Lp JJ
 |(0,cx)=>yD H G R N O cx|(1,cx)=>afN H G R N O cx|(2,cx)=>abh H G R N O cx|(3,cx)=>hzb H G R N O cx|(_,cx)=>yD H G R N O cx
def aqv:LD JJ kL:=⟨aia,aij H G R N O,wY H G R N O⟩
def jL (H:Nat) (G:be) (R:Nat) (N:be) (O:Int):kL->RT kL
 |.L0 PW=>.br (decide (PW<O)) (.ob (dI PW H) (.br ((sv (av (G PW.toNat))).toList==(sv (av (G O.toNat))).toList) (.ret (D 5)) (.next D8 (kL.L0 (E (PW+1))) []))) (.cb (.cb (.ii (.br (bif !aG (↑(aw (av (I (G O.toNat)))):Int) 2 12 then true else !aG (↑(aw (av (I (I (G O.toNat))))):Int) 2 12) (.ret (D 3)) (.ii (.br (bif !lN (aw (av (I (G O.toNat)))) λi=>ap L (bz (av (I (G O.toNat))) i) then true else !lN (aw (av (I (I (G O.toNat))))) λi=>ap L (bz (av (I (I (G O.toNat)))) i)) (.ret (D 7)) (.ii (.br (bif !ff (aw (av (I (G O.toNat)))) λi=>ap L (bz (av (I (G O.toNat))) i) then true else !ff (aw (av (I (I (G O.toNat))))) λi=>ap L (bz (av (I (I (G O.toNat)))) i)) (.ret (D 2)) (.asm (true=true->aw (av (I (I (I (G O.toNat)))))<=9223372036854775807) (.asm (true=true->aw (av (I (G O.toNat)))<=9223372036854775807) (.br ((↑(aw (av (I (I (I (G O.toNat)))))):Int)!=(↑(aw (av (I (G O.toNat)))):Int)) (.ret (D 6)) (.cb (.obi (.br (aG (cq (G O.toNat)) 0 10000000) (.ob (aG (cq (G O.toNat)) 0 10000000) (.cb (.enter D8 (kL.L1 0 (aG (bG (G O.toNat)) 0 10000000) PW) []))) (.enter D8 (kL.L1 0 (false) PW) [])))))))))))))))|.L1 Q6 ZW Vi=>.asm (true=true->aw (av (I (I (I (G O.toNat)))))<=9223372036854775807) (.br (decide (Q6<(↑(aw (av (I (I (I (G O.toNat)))))):Int))) (.ob (decide (0<=Q6/\Q6<(↑(aw (av (I (I (I (G O.toNat)))))):Int))) (.asm (true=true->aw (av (bz (av (I (I (I (G O.toNat))))) Q6.toNat))<=9223372036854775807) (.asm (true=true->aw (av (I (I (G O.toNat))))<=9223372036854775807) (.br ((↑(aw (av (bz (av (I (I (I (G O.toNat))))) Q6.toNat))):Int)!=(↑(aw (av (I (I (G O.toNat))))):Int)) (.ret (D 6)) (.next D8 (kL.L1 (E (Q6+1)) (ZW) Vi) []))))) (.enter D8 (kL.L2 0 Q6 (ZW) Vi) []))|.L2 Q9 R3 ZX T2=>.asm (true=true->aw (av (I (I (I (G O.toNat)))))<=9223372036854775807) (.br (decide (Q9<(↑(aw (av (I (I (I (G O.toNat)))))):Int))) (.enter D8 (kL.L3 0 Q9 R3 (ZX) T2) []) (.br (!ZX) (.ret (D 7)) (.ret (D 0))))|.L3 Qn Sa VE WJ Uv=>.asm (true=true->aw (av (I (I (G O.toNat))))<=9223372036854775807) (.br (decide (Qn<(↑(aw (av (I (I (G O.toNat))))):Int))) (.ii (.obi (.obj (WJ) (decide (0<=Sa/\Sa<(↑(aw (av (I (I (I (G O.toNat)))))):Int))) (.ii (.obi (.obj (WJ) (decide (0<=Qn/\Qn<(↑(aw (av (bz (av (I (I (I (G O.toNat))))) Sa.toNat))):Int))) (.obi (.br (WJ) (.ob (WJ) (.cb (.next D8 (kL.L3 (E (Qn+1)) Sa VE (aG (aA (bz (av (bz (av (I (I (I (G O.toNat))))) Sa.toNat)) Qn.toNat)) 0 10000000) Uv) []))) (.next D8 (kL.L3 (E (Qn+1)) Sa VE (false) Uv) []))))))))) (.next D8 (kL.L2 (E (Sa+1)) VE (WJ) Uv) []))
def Uf:RT kL:=dm (R,N) (.ob (dI O H) (.obp ((sv (av (G O.toNat))).size<=(9223372036854775807:Nat)) (.obt (.br (!ms (sv (av (G O.toNat)))) (.ret (D 6)) (.enter Il (kL.L0 0) [])))))
theorem ng1:d0 qW u0 (aqv H G R N O) (ff5 H G R N O) (Uf H G R N O) (jL H G R N O):=⟨bF,λs=>by cases s<;>exact bF⟩
def tt (n3:Nat) (q:be) (i:Nat):Bool:=(aw (av (q i)):Int)!=(n3:Int)
def pn (i j:Nat):Bool:=aG (aA (bz (av (q i)) j)) 0 10000000
def jF (i:Nat):Bool:=dz n3 (pn q i)
def m8:Bool:=bif aG Z 0 10000000 then aG Y 0 10000000 else false
def M0 (a b:Bool):Bool:=bif !a then true else !b
def Gk (n1:Nat) (f1:be) (n3:Nat) (f3:be) (n5:Nat) (q:be) (Z Y:Int):Int :=
 bif M0 (aG (n1:Int) 2 12) (aG (n3:Int) 2 12) then 3 else bif M0 (lN n1 f1) (lN n3 f3) then 7 else bif M0 (ff n1 f1) (ff n3 f3) then 2 else bif(n5:Int)!=(n1:Int) then 6 else bif gW n5 (tt n3 q) then 6 else bif !(m8 Z Y&&dz n5 (jF n3 q)) then 7 else 0
section
variable (a:Nat)
include a
def EX (j:Nat):Bool:=(sv (av (G j))).toList==(sv (av (G a))).toList
def iJ:Int:=bif !ms (sv (av (G a))) then 6 else bif gW a (EX G a) then 5 else Gk (aw (av (I (G a)))) (λi=>ap L (bz (av (I (G a))) i)) (aw (av (I (I (G a))))) (λi=>ap L (bz (av (I (I (G a)))) i)) (aw (av (I (I (I (G a)))))) (bz (av (I (I (I (G a)))))) (cq (G a)) (bG (G a))
def Ic (g:Bool):Int:=bif !(g&&dz (aw (av (I (I (I (G a)))))) (jF (aw (av (I (I (G a))))) (bz (av (I (I (I (G a)))))))) then 7 else 0
theorem ih9 (r:V) (i:Nat) (hi:i<(aw (av (I (I (I (G a))))))) (h3:(aw (av (I (I (G a)))))<=9223372036854775807) (hrow:∀ i,i<(aw (av (I (I (I (G a))))))->(aw (av ((bz (av (I (I (I (G a)))))) i)):Int)=((aw (av (I (I (G a))))):Int)) (g:Bool) (t t':Int) (hx:Ev (jL H G R N (a:Int)) (.L2 (E ((i:Int)+1)) t (g&&jF (aw (av (I (I (G a))))) (bz (av (I (I (I (G a)))))) i) t') r):Ev (jL H G R N (a:Int)) (.L3 0 i t g t') r:=by
 have key:=E3 h3 (P:=λx=>Ev (jL H G R N (a:Int)) (.L3 x i t (g&&dz x.toNat (pn (bz (av (I (I (I (G a)))))) i)) t') r) (λj Pj nx=>?_) (Ev.of rfl (Af λ_=>dp (aK hx)))
 ·simpa[dz] using key
 ·have hj:(j:Int)<(aw (av ((bz (av (I (I (I (G a)))))) i)):Int):=by rw[hrow i hi];omega
  simp only[Bt];rw[show(E ((j:Int)+1)).toNat=j+1 by rw[kH Pj h3];rfl]at nx;refine Ev.of rfl (Af λ_=>dt Pj (AE (AE (AE (Ba (λ_=>AG ⟨K,by show(i:Int)<((aw (av (I (I (I (G a)))))):Int);omega⟩) (AE (AE (AE (Ba (λ_=>AG ⟨K,hj⟩) (AE (AP (λhb=>aF hb (AM (ac (aK ?_)))) (λhb=>aK ?_))))))))))))
  ·have e:(g&&dz (j+1) (pn (bz (av (I (I (I (G a)))))) i))=pn (bz (av (I (I (I (G a)))))) i j:=by
    have QX:(g&&dz j (pn (bz (av (I (I (I (G a)))))) i))=true:=hb;show(g&&(dz j (pn (bz (av (I (I (I (G a)))))) i)&&pn (bz (av (I (I (I (G a)))))) i j))=_;rw[← Bool.and_assoc,QX,Bool.true_and]
   rw[e]at nx;exact nx
  ·have e:(g&&dz (j+1) (pn (bz (av (I (I (I (G a)))))) i))=false:=by
    have QX:(g&&dz j (pn (bz (av (I (I (I (G a)))))) i))=false:=hb;show(g&&(dz j (pn (bz (av (I (I (I (G a)))))) i)&&pn (bz (av (I (I (I (G a)))))) i j))=_;rw[← Bool.and_assoc,QX,Bool.false_and]
   rw[e]at nx;exact nx
theorem ng2 (h5:(aw (av (I (I (I (G a))))))<=9223372036854775807) (hrow:∀ i,i<(aw (av (I (I (I (G a))))))->(aw (av ((bz (av (I (I (I (G a)))))) i)):Int)=((aw (av (I (I (G a))))):Int)) (g:Bool) (t t':Int):Ev (jL H G R N (a:Int)) (.L2 0 t g t') (D (Ic G a g)):=by
 by_cases h3:(aw (av (I (I (G a)))))<=9223372036854775807
 ·have key:=E3 h5 (P:=λx=>Ev (jL H G R N (a:Int)) (.L2 x t (g&&dz x.toNat (jF (aw (av (I (I (G a))))) (bz (av (I (I (I (G a)))))))) t') (D (Ic G a g))) (λi Pj nx=>?_) (Ev.of rfl (Af λ_=>dp ?_))
  ·simpa[dz] using key
  ·simp only[Bt];rw[show(E ((i:Int)+1)).toNat=i+1 by rw[kH Pj h5];rfl]at nx;refine Ev.of rfl (Af λ_=>dt Pj (aH (ih9 H G R N a _ i Pj h3 hrow _ t t' ?_)));rw[Bool.and_assoc];exact nx
  ·simp only[Bt]
   unfold Ic;refine AP (λh=>AF ?_) (λh=>AF ?_)
   ·rw[show(!(g&&dz (aw (av (I (I (I (G a)))))) (jF (aw (av (I (I (G a))))) (bz (av (I (I (I (G a)))))))))=true from h];rfl
   ·rw[show(!(g&&dz (aw (av (I (I (I (G a)))))) (jF (aw (av (I (I (G a))))) (bz (av (I (I (I (G a)))))))))=false from h];rfl
 ·have key:=E3 h5 (P:=λx=>Ev (jL H G R N (a:Int)) (.L2 x t (g&&dz x.toNat (jF (aw (av (I (I (G a))))) (bz (av (I (I (I (G a)))))))) t') (D (Ic G a g))) (λi Pj nx=>?_) (Ev.of rfl (Af λ_=>dp ?_))
  ·simpa[dz] using key
  ·exact Ev.of rfl (Af λ_=>dt Pj (aH (Ev.of rfl (Af λh=>absurd (h rfl) h3))))
  ·simp only[Bt]
   unfold Ic;refine AP (λh=>AF ?_) (λh=>AF ?_)
   ·rw[show(!(g&&dz (aw (av (I (I (I (G a)))))) (jF (aw (av (I (I (G a))))) (bz (av (I (I (I (G a)))))))))=true from h];rfl
   ·rw[show(!(g&&dz (aw (av (I (I (I (G a)))))) (jF (aw (av (I (I (G a))))) (bz (av (I (I (I (G a)))))))))=false from h];rfl
theorem axI (g:Bool) (t':Int):Ev (jL H G R N (a:Int)) (.L1 0 g t') (D (bif gW (aw (av (I (I (I (G a)))))) (tt (aw (av (I (I (G a))))) (bz (av (I (I (I (G a))))))) then 6 else Ic G a g)):=by
 by_cases h5:(aw (av (I (I (I (G a))))))<=9223372036854775807
 ·refine ky h5 (tt (aw (av (I (I (G a))))) (bz (av (I (I (I (G a))))))) (P:=λx=>Ev (jL H G R N (a:Int)) (.L1 x g t') (D (bif gW (aw (av (I (I (I (G a)))))) (tt (aw (av (I (I (G a))))) (bz (av (I (I (I (G a))))))) then 6 else Ic G a g))) (λi Pj hj next=>Ev.of rfl (Af λ_=>dt Pj (c8 Pj (Af λ_=>Af λ_=>AP (λhb=>AF ?_) (λhb=>aK (next hb)))))) (λhj=>Ev.of rfl (Af λ_=>dp (aH ?_)))
  ·rw[cZ i Pj hb];rfl
  ·rw[da hj];exact ng2 H G R N a h5 (λi hi=>by have:=hj i hi;unfold tt at this;simpa using this) g _ t'
 ·exact Ev.of rfl (Af λh=>absurd (h rfl) h5)
theorem is9 (ha:a<H) (hn:H<=9223372036854775807):Ev (jL H G R N (a:Int)) (.L0 0) (D (bif gW a (EX G a) then 5 else Gk (aw (av (I (G a)))) (λi=>ap L (bz (av (I (G a))) i)) (aw (av (I (I (G a))))) (λi=>ap L (bz (av (I (I (G a)))) i)) (aw (av (I (I (I (G a)))))) (bz (av (I (I (I (G a)))))) (cq (G a)) (bG (G a)))):=by
 refine ky (n:=a) K (EX G a) (P:=λx=>Ev (jL H G R N (a:Int)) (.L0 x) _) (λj Pj hj next=>Ev.of rfl (dt Pj (c8 K (AP (λhb=>AF ?_) (λhb=>aK (next hb)))))) (λhj=>Ev.of rfl (dp ?_))
 ·rw[cZ j Pj hb];rfl
 ·rw [da hj,cond_false]
  unfold Gk;refine AM (ac (AM (ac (AE (AE (AP (λh=>AF (by rw[show M0 (aG ((aw (av (I (G a)))):Int) 2 12) (aG ((aw (av (I (I (G a))))):Int) 2 12)=true from h];rfl)) (λh=>?_)))))));rw[show M0 (aG ((aw (av (I (G a)))):Int) 2 12) (aG ((aw (av (I (I (G a))))):Int) 2 12)=false from h];refine AE (AE (AP (λh=>AF (by rw[show M0 (lN (aw (av (I (G a)))) (λi=>ap L (bz (av (I (G a))) i))) (lN (aw (av (I (I (G a))))) (λi=>ap L (bz (av (I (I (G a)))) i)))=true from h];rfl)) (λh=>?_)));rw[show M0 (lN (aw (av (I (G a)))) (λi=>ap L (bz (av (I (G a))) i))) (lN (aw (av (I (I (G a))))) (λi=>ap L (bz (av (I (I (G a)))) i)))=false from h];refine AE (AE (AP (λh=>AF (by rw[show M0 (ff (aw (av (I (G a)))) (λi=>ap L (bz (av (I (G a))) i))) (ff (aw (av (I (I (G a))))) (λi=>ap L (bz (av (I (I (G a)))) i)))=true from h];rfl)) (λh=>?_)));rw[show M0 (ff (aw (av (I (G a)))) (λi=>ap L (bz (av (I (G a))) i))) (ff (aw (av (I (I (G a))))) (λi=>ap L (bz (av (I (I (G a)))) i)))=false from h];refine Af λ_=>Af λ_=>AP (λh=>AF (by rw[show(((aw (av (I (I (I (G a)))))):Int)!=((aw (av (I (G a)))):Int))=true from h];rfl)) (λh=>?_);rw[show(((aw (av (I (I (I (G a)))))):Int)!=((aw (av (I (G a)))):Int))=false from h];refine AM (ac (AE (AP (λhg=>aF hg (AM (ac (aH ?_)))) (λhg=>aH ?_))))
  ·have e:m8 (cq (G a)) (bG (G a))=aG (bG (G a)) 0 10000000:=by unfold m8;rw[show aG (cq (G a)) 0 10000000=true from hg];rfl
   rw[e];exact axI H G R N a _ _
  ·have e:m8 (cq (G a)) (bG (G a))=false:=by unfold m8;rw[show aG (cq (G a)) 0 10000000=false from hg];rfl
   rw[e];exact axI H G R N a _ _
end
theorem hs' (hp:0<=O/\O<H/\H<=9223372036854775807/\aC H G):aU (Ev (jL H G R N O)) (Uf H G R N O) (D (iJ G O.toNat)):=by
 obtain⟨h0,M,Q,h3⟩:=hp;obtain⟨a,rfl⟩:∃a:Nat,O=(a:Int):=⟨O.toNat,K⟩;have ha:a<H:=by omega
 unfold iJ;simp only[Bt];refine c8 ha (aI (h3 a ha) (ac (AP (λh=>AF (by rw[show(!ms (sv (av (G a))))=true from h];rfl)) (λh=>aH ?_))));rw[show(!ms (sv (av (G a))))=false from h];exact is9 H G R N a ha Q
theorem amA (hp:0<=O/\O<H/\H<=9223372036854775807/\aC H (A al G)):aU (Ev (jL H G R N O)) (Uf H G R N O) (D (iJ (A al G) O.toNat)):=hs' H G R N O hp
def aeW:aD:=bP [.agg [.sl al,.sl ao],tI] (λ
 |[.agg [.sl H G,.sl R N],.int _ O]=>0<=O/\O<H/\H<=9223372036854775807/\aC H G|_=>False) λ
 |[.agg [.sl H G,.sl R N],.int _ O]=>D (iJ G O.toNat)|_=>.any
theorem ahN:b7 aeW 159:=aT BI λ_ hp=>kt (ng1 ..) (amA _ _ _ _ _ hp)
inductive v7 where|L0 (_:Int)
def aap:v7->bT×List AD×Option Ex
 |.L0 PW=>([(6,D PW),(5,V.pl 0 0),(2,V.pl 1 0),(1,D O)],[AD.cells [V.str (sv (av (N O.toNat))),D (aR (N O.toNat)),D (bX (N O.toNat)),D (bf (N O.toNat)),D (cq (N O.toNat)),D (bG (N O.toNat)),D (bG (I (N O.toNat))),D (bG (I (I (N O.toNat)))),D (bG (I (I (I (N O.toNat))))),D (bG (I (I (I (I (N O.toNat)))))),D (bG (I (I (I (I (I (N O.toNat))))))),D (bG (I (I (I (I (I (I (N O.toNat)))))))),D (bG (I (I (I (I (I (I (I (N O.toNat))))))))),D (bG (I (I (I (I (I (I (I (I (N O.toNat))))))))))] 104,AD.cells [V.sl H (A al G),V.sl R (A ao N)] 25],none)
def al5:v7->JJ
 |.L0 _=>(0,[])
def hb2:AN (cr JJ):=aQ JJ qW u0 ajE [V.agg [V.sl H (A al G),V.sl R (A ao N)],D O]
def aB4 (cx:List Cx):Lp JJ:=eX (eC (hb2 H G R N O) [false])
def aiF:JJ->Lp JJ
 |(0,cx)=>aB4 H G R N O cx|(_,cx)=>aB4 H G R N O cx
def auZ:LD JJ v7:=⟨al5,aiF H G R N O,aap H G R N O⟩
def xv (H:Nat) (G:be) (R:Nat) (N:be) (O:Int):v7->RT v7
 |.L0 PW=>.br (decide (PW<O)) (.ob (dI PW R) (.br ((sv (av (N PW.toNat))).toList==(sv (av (N O.toNat))).toList) (.ret (D 5)) (.next D8 (v7.L0 (E (PW+1))) []))) (.am H (.cb (.br (!aG (aR (N O.toNat)) 0 (E ((H:Int)-1))) (.ret (D 4)) (.cb (.br (!aG (bX (N O.toNat)) 1 3) (.ret (D 2)) (.cb (.obi (.br (!!aG (bf (N O.toNat)) 1 1000000) (.ob (!!aG (bf (N O.toNat)) 1 1000000) (.cb (.ii (.br (!!aG (cq (N O.toNat)) 1 5000000) (.ob (!!aG (cq (N O.toNat)) 1 5000000) (.ob (!!aG (cq (N O.toNat)) 1 5000000) (.cb (.obi (.br (!!aG (bG (N O.toNat)) 0 (cq (N O.toNat))) (.ob (!!aG (bG (N O.toNat)) 0 (cq (N O.toNat))) (.cb (.br (!aG (bG (I (N O.toNat))) 0 1000) (.ret (D 7)) (.cb (.obi (.br (!!fy (bG (I (I (N O.toNat)))) (bG (I (I (I (N O.toNat))))) 0 1000) (.ob (!!fy (bG (I (I (N O.toNat)))) (bG (I (I (I (N O.toNat))))) 0 1000) (.cb (.obi (.br (!!fy (bG (I (I (I (I (N O.toNat)))))) (bG (I (I (I (I (I (N O.toNat))))))) 0 1000) (.ob (!!fy (bG (I (I (I (I (N O.toNat)))))) (bG (I (I (I (I (I (N O.toNat))))))) 0 1000) (.cb (.obi (.br (!!aG (bG (I (I (I (I (I (I (N O.toNat)))))))) 1 200000) (.ob (!!aG (bG (I (I (I (I (I (I (N O.toNat)))))))) 1 200000) (.cb (.obi (.br (!!aG (bG (I (I (I (I (I (I (I (N O.toNat))))))))) 0 1000) (.ob (!!aG (bG (I (I (I (I (I (I (I (N O.toNat))))))))) 0 1000) (.cb (.br (!aG (bG (I (I (I (I (I (I (I (I (N O.toNat)))))))))) 0 3600) (.ret (D 7)) (.ii (.obi (.br (bif bX (N O.toNat)==1 then bG (I (I (I (I (I (I (I (I (N O.toNat)))))))))!=0 else false) (.ret (D 2)) (.ret (D 0)))))))) (.ret (D 7)))))) (.ret (D 7)))))) (.ret (D 7)))))) (.ret (D 7)))))))) (.ret (D 7))))))) (.ret (D 7)))))) (.ret (D 7))))))))))
def QJ:RT v7:=dm (H,G) (.ob (dI O R) (.obp ((sv (av (N O.toNat))).size<=(9223372036854775807:Nat)) (.obt (.br (!ms (sv (av (N O.toNat)))) (.ret (D 6)) (.enter Il (v7.L0 0) [])))))
theorem nf4:d0 qW u0 (auZ H G R N O) (hb2 H G R N O) (QJ H G R N O) (xv H G R N O):=⟨bF,λs=>by cases s<;>exact bF⟩
def Le:Bool:=bif W==1 then Pk !=0 else false
def Dv (a j:Nat):Bool:=(sv (av (N j))).toList==(sv (av (N a))).toList
def RU (H:Nat) (N:be) (a:Nat):Int:=Mo (aG (aR (N a)) 0 (E ((H:Int)-1))) (aG (bX (N a)) 1 3) (aG (bf (N a)) 1 1000000&&(aG (cq (N a)) 1 5000000&&(aG (bG (N a)) 0 (cq (N a))&&(aG (bG (I (N a))) 0 1000&&(fy (bG (I (I (N a)))) (bG (I (I (I (N a))))) 0 1000&&(fy (bG (I (I (I (I (N a)))))) (bG (I (I (I (I (I (N a))))))) 0 1000&&(aG (bG (I (I (I (I (I (I (N a)))))))) 1 200000&&(aG (bG (I (I (I (I (I (I (I (N a))))))))) 0 1000&&(aG (bG (I (I (I (I (I (I (I (I (N a)))))))))) 0 3600))))))))) (Le (bX (N a)) (bG (I (I (I (I (I (I (I (I (N a)))))))))))
def mg (a:Nat):Int:=bif !ms (sv (av (N a))) then 6 else bif gW a (Dv N a) then 5 else RU H N a
section
variable {Pe:Type} {Nx:Pe->V->Prop} {r:V} {X QE:RT Pe} {c:Bool}
theorem IU (h:(!!c)=true):c=true:=by cases c;cases h;rfl
theorem IT (h:(!!c)=false):c=false:=by cases c;rfl;cases h
section
variable (Q:(!!c)=true->aU Nx X r) (M:(!!c)=false->aU Nx QE r)
include Q M
theorem A7:aU Nx (.br (!!c) (.ob (!!c) X) QE) r:=AP (λh=>aF h (Q h)) M
theorem arx:aU Nx (.br (!!c) (.ob (!!c) (.ob (!!c) X)) QE) r:=AP (λh=>aF h (aF h (Q h))) M
end
end
theorem in1 (a:Nat) (ha:a<R) (hn:R<=9223372036854775807):Ev (xv H G R N (a:Int)) (.L0 0) (D (bif gW a (Dv N a) then 5 else RU H N a)):=by
 refine ky (n:=a) K (Dv N a) (P:=λx=>Ev (xv H G R N (a:Int)) (.L0 x) _) (λj Pj hj next=>Ev.of rfl (dt Pj (c8 K (AP (λhb=>AF ?_) (λhb=>aK (next hb)))))) (λhj=>Ev.of rfl (dp ?_))
 ·rw[cZ j Pj hb];rfl
 rw[da hj,cond_false];unfold RU;refine Af λ_=>AM (ac (AP (λh=>AF (by rw[show aG (aR (N a)) 0 (E ((H:Int)-1))=false from Mq h];rfl)) (λh=>?_)));rw[show aG (aR (N a)) 0 (E ((H:Int)-1))=true from wc h];refine AM (ac (AP (λh=>AF (by rw[show aG (bX (N a)) 1 3=false from Mq h];rfl)) (λh=>?_)));rw[show aG (bX (N a)) 1 3=true from wc h];refine AM (ac ?_)
 repeat refine AE ?_
 refine A7 (λh=>?_) (λh=>AF (by rw[show aG (bf (N a)) 1 1000000=false from IT h];rfl));rw[show aG (bf (N a)) 1 1000000=true from IU h];refine AM (ac ?_)
 repeat refine AE ?_
 refine arx (λh=>?_) (λh=>AF (by rw[show aG (cq (N a)) 1 5000000=false from IT h];rfl));rw[show aG (cq (N a)) 1 5000000=true from IU h];refine AM (ac ?_)
 repeat refine AE ?_
 refine A7 (λh=>?_) (λh=>AF (by rw[show aG (bG (N a)) 0 (cq (N a))=false from IT h];rfl));rw[show aG (bG (N a)) 0 (cq (N a))=true from IU h];refine AM (ac ?_);refine AP (λh=>AF (by rw[show aG (bG (I (N a))) 0 1000=false from Mq h];rfl)) (λh=>?_);rw[show aG (bG (I (N a))) 0 1000=true from wc h];refine AM (ac ?_)
 repeat refine AE ?_
 refine A7 (λh=>?_) (λh=>AF (by rw[show fy (bG (I (I (N a)))) (bG (I (I (I (N a))))) 0 1000=false from IT h];rfl));rw[show fy (bG (I (I (N a)))) (bG (I (I (I (N a))))) 0 1000=true from IU h];refine AM (ac ?_)
 repeat refine AE ?_
 refine A7 (λh=>?_) (λh=>AF (by rw[show fy (bG (I (I (I (I (N a)))))) (bG (I (I (I (I (I (N a))))))) 0 1000=false from IT h];rfl));rw[show fy (bG (I (I (I (I (N a)))))) (bG (I (I (I (I (I (N a))))))) 0 1000=true from IU h];refine AM (ac ?_)
 repeat refine AE ?_
 refine A7 (λh=>?_) (λh=>AF (by rw[show aG (bG (I (I (I (I (I (I (N a)))))))) 1 200000=false from IT h];rfl));rw[show aG (bG (I (I (I (I (I (I (N a)))))))) 1 200000=true from IU h];refine AM (ac ?_)
 repeat refine AE ?_
 refine A7 (λh=>?_) (λh=>AF (by rw[show aG (bG (I (I (I (I (I (I (I (N a))))))))) 0 1000=false from IT h];rfl));rw[show aG (bG (I (I (I (I (I (I (I (N a))))))))) 0 1000=true from IU h];refine AM (ac ?_);refine AP (λh=>AF (by rw[show aG (bG (I (I (I (I (I (I (I (I (N a)))))))))) 0 3600=false from Mq h];rfl)) (λh=>?_);rw[show aG (bG (I (I (I (I (I (I (I (I (N a)))))))))) 0 3600=true from wc h]
 repeat refine AE ?_
 exact AP (λh=>AF (by rw[show Le (bX (N a)) (bG (I (I (I (I (I (I (I (I (N a))))))))))=true from h];rfl)) (λh=>AF (by rw[show Le (bX (N a)) (bG (I (I (I (I (I (I (I (I (N a))))))))))=false from h];rfl))
theorem hv0 (hp:0<=O/\O<R/\R<=9223372036854775807/\aC R N):aU (Ev (xv H G R N O)) (QJ H G R N O) (D (mg H N O.toNat)):=by
 obtain⟨h0,M,Q,h3⟩:=hp;obtain⟨a,rfl⟩:∃a:Nat,O=(a:Int):=⟨O.toNat,K⟩;have ha:a<R:=by omega
 unfold mg;simp only[Bt];refine c8 ha (aI (h3 a ha) (ac (AP (λh=>AF (by rw[show(!ms (sv (av (N a))))=true from h];rfl)) (λh=>aH ?_))));rw[show(!ms (sv (av (N a))))=false from h];exact in1 H G R N a ha Q
theorem akm (hp:0<=O/\O<R/\R<=9223372036854775807/\aC R (A ao N)):aU (Ev (xv H G R N O)) (QJ H G R N O) (D (mg H (A ao N) O.toNat)):=hv0 H G R N O hp
def ac8:aD:=bP [.agg [.sl al,.sl ao],tI] (λ
 |[.agg [.sl H G,.sl R N],.int _ O]=>0<=O/\O<R/\R<=9223372036854775807/\aC R N|_=>False) λ
 |[.agg [.sl H G,.sl R N],.int _ O]=>D (mg H N O.toNat)|_=>.any
theorem al2:b7 ac8 160:=aT BI λ_ hp=>kt (nf4 ..) (akm _ _ _ _ _ hp)
def D4:bo:=(49,.con acv)::(159,.con aeW)::(160,.con ac8)::qW
theorem hez:ba Tryz.prog AQ AS D4:=.con hdd (.con ahN (.con al2 (BI)))
inductive rp where|L0 (_:Int)|L1 (_ _:Int)
def avH:rp->bT×List AD×Option Ex
 |.L0 PW=>([(5,D PW),(1,V.pl 0 0)],[AD.cells [V.sl H (A al G),V.sl R (A ao N)] 25],none)|.L1 Q6 Qd=>([(7,D Q6),(5,D Qd),(1,V.pl 0 0)],[AD.cells [V.sl H (A al G),V.sl R (A ao N)] 25],none)
def ahG:rp->JJ
 |.L0 _=>(0,[])|.L1 ..=>(1,[])
def he3:AN (cr JJ):=aQ JJ D4 u0 ama [V.agg [V.sl H (A al G),V.sl R (A ao N)]]
def yz (cx:List Cx):Lp JJ:=eX (eC (he3 H G R N) [false])
def ig3 (cx:List Cx):Lp JJ:=eX (eC (oU D4 u0 (0,[]) (yz H G R N []) (avH H G R N (.L0 (0:Int)))) [false])
def agj:JJ->Lp JJ
 |(0,cx)=>yz H G R N cx|(1,cx)=>ig3 H G R N cx|(_,cx)=>yz H G R N cx
def auu:LD JJ rp:=⟨ahG,agj H G R N,avH H G R N⟩
def rS:rp->RT rp
 |.L0 PW=>.am H (.br (decide (PW<(H:Int))) (.obp ((0:Int)<=PW/\PW<(H:Int)/\H<=(9223372036854775807:Nat)/\aC H G) (.obt (.br (iJ (A al G) PW.toNat !=0) (.ret (V.tup [D 1,D PW,D (iJ (A al G) PW.toNat)])) (.next Az (rp.L0 (E (PW+1))) [])))) (.enter Az (rp.L1 0 PW) []))|.L1 Q6 Qd=>.am R (.br (decide (Q6<(R:Int))) (.obp ((0:Int)<=Q6/\Q6<(R:Int)/\R<=(9223372036854775807:Nat)/\aC R N) (.obt (.br (mg H (A ao N) Q6.toNat !=0) (.ret (V.tup [D 2,D Q6,D (mg H (A ao N) Q6.toNat)])) (.next Az (rp.L1 (E (Q6+1)) Qd) [])))) (.ret (V.tup Fb)))
def Oy:RT rp:=dm (G,N) (.am H (.ii (.asm ((!decide (10<(H:Int)))=true->R<=9223372036854775807) (.ii (.br (bif decide (10<(H:Int)) then true else decide (20<(R:Int))) (.ret (V.tup [D 0,D 0,D 3])) (.enter Az (rp.L0 0) []))))))
theorem yaa:d0 D4 u0 (auu H G R N) (he3 H G R N) (Oy H G R N) (rS H G R N):=⟨bF,λs=>by cases s<;>exact bF⟩
def zL:Int×Int×Int:=Ay R (mg H (A ao N)) 2 (0,0,0)
def zB (H:Nat) (G:be) (R:Nat) (N:be):Int×Int×Int:=bif(bif decide (10<(H:Int)) then true else decide (20<(R:Int))) then(0,0,3) else Ay H (iJ (A al G)) 1 (zL H R N)
theorem aah (hs:aC R N) (t:Int):Ev (rS H G R N) (.L1 0 t) (MR (zL H R N)):=by
 by_cases hn:R<=9223372036854775807
 ·refine ky (n:=R) hn (λi=>mg H (A ao N) i != 0) (P:=λi=>Ev (rS H G R N) (.L1 i t) _) (λi Pj hj next=>Ev.of rfl (Af λ_=>dt Pj (aI ⟨K,K,hn,hs⟩ (ac (AP (λhb=>AF ?_) (λhb=>aK (next hb))))))) (λhj=>Ev.of rfl (Af λ_=>dp (AF ?_)))
  ·unfold zL;rw[kV 2 _ Pj hb hj];rfl
  ·unfold zL;rw[mq 2 _ hj];rfl
 ·exact Ev.of rfl (Af λh=>absurd (h rfl) hn)
theorem na4 (h0:aC H G) (hs:aC R N):Ev (rS H G R N) (.L0 0) (MR (Ay H (iJ (A al G)) 1 (zL H R N))):=by
 by_cases hn:H<=9223372036854775807
 ·refine ky (n:=H) hn (λi=>iJ (A al G) i != 0) (P:=λi=>Ev (rS H G R N) (.L0 i) _) (λi Pj hj next=>Ev.of rfl (Af λ_=>dt Pj (aI ⟨K,K,hn,h0⟩ (ac (AP (λhb=>AF ?_) (λhb=>aK (next hb))))))) (λhj=>Ev.of rfl (Af λ_=>dp (aH ?_)))
  ·rw[kV 1 _ Pj hb hj];rfl
  ·rw[mq 1 _ hj];exact aah H G R N hs _
 ·exact Ev.of rfl (Af λh=>absurd (h rfl) hn)
def wQ:Int:=(zB H G R N).1
def wR:Int:=(zB H G R N).2.1
def bW:Int:=(zB H G R N).2.2
theorem hvy (hp:aC H G/\aC R N):aU (Ev (rS H G R N)) (Oy H G R N) (.tup [D (wQ H G R N),D (wR H G R N),D (bW H G R N)]):=by unfold wQ wR bW zB;refine Af λ_=>AE (AE (Af λ_=>AE (AE (AP (λh=>AF (by rw[h];rfl)) (λh=>aH ?_)))));rw[h];exact na4 H G R N hp.1 hp.2
theorem agq (hp:aC H (A al G)/\aC R (A ao N)):aU (Ev (rS H G R N)) (Oy H G R N) (.tup [D (wQ H (A al G) R (A ao N)),D (wR H (A al G) R (A ao N)),D (bW H (A al G) R (A ao N))]):=hvy H G R N hp
def aex:aD:=bP [.agg [.sl al,.sl ao]] (λ
 |[.agg [.sl H G,.sl R N]]=>aC H G/\aC R N|_=>False) λ
 |[.agg [.sl H G,.sl R N]]=>.tup [D (wQ H G R N),D (wR H G R N),D (bW H G R N)]|_=>.any
theorem afV:b7 aex 106:=aT hez λ_ hp=>kt (yaa ..) (agq _ _ _ _ hp)
theorem hlt {n:Nat} {p PX:Nat->Bool} (h:∀ i,i<n->p i=PX i):dz n p=dz n PX:=by
 cases hq:dz n PX with
 |true=>exact fQ λi hi=>by rw[h i hi];exact dB hq i hi
 |false=>
   cases hp:dz n p with
   |false=>rfl|true=>rw[fQ λi hi=>by rw[← h i hi];exact dB hp i hi]at hq;cases hq
theorem qA (n:Nat) (f:be) (lo hi:Int):eh n f lo hi=dz n λi=>aG (aA (f i)) lo hi:=by show(!(decide (0<=zO n λii=>sS (aA (f ii)) lo hi)))=_;rw[mz];unfold gW;rw[Ez];exact hlt λi _=>by show(!(!aB (aA (f i)) lo hi))=aB (aA (f i)) lo hi;rw[Ez]
theorem G6 (a b:Bool):M0 a b=!(a&&b):=by cases a<;>cases b<;>rfl
theorem hj0 (s:ByteArray) (i:Nat):oq s i=true↔¬ (97<=(s.data.toList.getD i 0).toNat/\(s.data.toList.getD i 0).toNat<=122)/\¬ (48<=(s.data.toList.getD i 0).toNat/\(s.data.toList.getD i 0).toNat<=57)/\(s.data.toList.getD i 0).toNat≠45:=by
 have key:∀(p1 p2 p4 p5 p6:Bool),(!bif bif bif p1 then p2 else false then true else bif p4 then p5 else false then true else p6)=true↔¬(p1=true/\p2=true)/\¬(p4=true/\p5=true)/\¬(p6=true):=by decide
 unfold oq;rw[key];simp only[DJ,E4];omega
theorem R49 (s:ByteArray):Av s=false↔(1<=s.size/\s.size<=24)/\97<=(s.data.toList.getD 0 0).toNat/\(s.data.toList.getD 0 0).toNat<=122:=by
 have key:∀(p1 p2 p4 p5:Bool),(bif bif bif p1 then true else p2 then true else p4 then true else p5)=false↔¬(p1=true)/\¬(p2=true)/\¬(p4=true)/\¬(p5=true):=by decide
 unfold Av;rw[key];simp only[DJ];omega
theorem axV (s:ByteArray):ms s=kG s:=by
 rw[Fl];unfold ms kG;simp only[Ae,DJ,uG,EY];constructor
 ·intro h
  cases hc:Av s with
  |true=>rw[hc]at h;cases h
  |false=>
    rw[hc,cond_false]at h;have M:=(R49 s).1 hc;refine⟨λi hi=>?_,K,K⟩;have Q:=dB h i hi;cases hb:Bs ((s.data.toList.getD i 0).toNat:Int) (i:Int) with
    |false=>rfl
    |true=>
      obtain⟨g1,g2⟩:=(pV _ i).1 hb;rcases g2 with e|⟨g3,g4⟩
      ·subst e;exact(g1 M.2).elim
      ·rw[(hj0 s i).2 ⟨g1,g3,g4⟩]at Q;cases Q
 ·rintro ⟨M,Q,h3⟩
  have h0:=M 0 Q;have hl:97<=(s.data.toList.getD 0 0).toNat/\(s.data.toList.getD 0 0).toNat<=122:=by apply Classical.byContradiction;intro hn;rw[(pV _ 0).2 ⟨hn,.inl rfl⟩]at h0;cases h0
  rw[(R49 s).2 ⟨⟨K,h3⟩,hl⟩,cond_false];refine fQ λi hi=>?_;cases hb:oq s i with
  |false=>rfl
  |true=>obtain⟨g1,g2,g3⟩:=(hj0 s i).1 hb;have:=M i hi;rw[(pV _ i).2 ⟨g1,.inr ⟨g2,g3⟩⟩]at this;cases this
theorem hfo2:pc n1 f1 n3 f3 n5 q Z Y=Gk n1 f1 n3 f3 n5 q Z Y:=by
 have e1:∀n f,eh n f (-5000) 5000=lN n f:=λn f=>qA n f _ _;unfold pc Gk;rw[G6,G6,G6,e1,e1];have e2:(gW n5 (K3 n3 q))=gW n5 (tt n3 q):=rfl;rw[e2];cases he:gW n5 (tt n3 q) with
 |true=>rfl
 |false=>
   have hrow:∀ i,i<n5->aw (av (q i))=n3:=λi hi=>by
    cases hb:tt n3 q i with
    |true=>rw[cZ i hi hb]at he;cases he|false=>unfold tt at hb;simp at hb;omega
   have e3:gW n5 (PF q)=!dz n5 (jF n3 q):=by unfold gW;rw[hlt (PX:=jF n3 q) λi hi=>by show(!(!eh (aw (av (q i))) (A L λj=>ap L (bz (av (q i)) j)) 0 10000000))=_;rw[Ez,qA,hrow i hi];rfl]
   have e4:Yo Z Y=!m8 Z Y:=by show(!eh 2 _ 0 10000000)=_;rw[qA];show(!((true&&aG Z 0 10000000)&&aG Y 0 10000000))=_;unfold m8;cases aG Z 0 10000000<;>cases aG Y 0 10000000<;>rfl
   unfold sO;rw[e3,e4];show(bif _ then _ else bif _ then _ else bif _ then _ else bif _ then _ else _)=(bif _ then _ else bif _ then _ else bif _ then _ else bif _ then _ else _);cases m8 Z Y<;>cases dz n5 (jF n3 q)<;>rfl
theorem akq (f:be) (a:Nat):kN f a=iJ f a:=by unfold kN iJ;rw[axV,show CG f a=EX f a from funext λj=>by unfold CG EX;rw[DZ]];unfold CU;rw[hfo2];rfl
theorem R67:gi Z Y 0 1000=fy Z Y 0 1000:=by unfold gi fy aG;by_cases M:(0:Int)<=Z<;>by_cases Q:Z<=Y<;>by_cases h3:Y<=1000<;>by_cases h4:Z<=1000<;>by_cases h5:(0:Int)<=Y<;>simp only[M,Q,h3,h4,h5,decide_true,decide_false,cond_true,cond_false]<;>omega
theorem ajd {a k num PX q':Bool} (h:num=true->PX=q'):Mo a k num PX=Mo a k num q':=by
 cases num with
 |false=>rfl|true=>rw[h rfl]
theorem alf (f:be) (n a:Nat):kK f n a=mg n f a:=by
 unfold kK mg;rw[axV,show BW f a=Dv f a from funext λj=>by unfold BW Dv;rw[DZ]];unfold Cy sD RU;rw[R67,R67];congr 2;refine ajd λh=>?_;simp only[Ae]at h;have Ze:=h.2.2.2.2.2.2.2.2;unfold U8 Le;unfold aB at Ze;generalize bG (I (I (I (I (I (I (I (I (f a)))))))))=x at Ze ⊢;have hx:0<=x:=by
  by_cases h0:(0:Int)<=x
  ·exact h0
  ·rw[eM h0]at Ze;cases Ze
 congr 1;by_cases e:x=0
 ·subst e;rfl
 ·rw[AG K];simp[e]
theorem nt:(oA H G R N,ol H G R N,bH H G R N)=zB H G R N:=by
 have e1:∀f,kN f=iJ f:=λf=>funext λa=>akq f a;have e2:∀f n,kK f n=mg n f:=λf n=>funext λa=>alf f n a;unfold oA ol bH zB zL Ay gm eW gg eP;rw[e1,e2];cases (bif decide (10<(H:Int)) then true else decide (20<(R:Int))) with
 |true=>rfl
 |false=>simp only[cond_false];generalize d9 H _=x;generalize gr H _=y;generalize d9 R _=z;generalize gr R _=u;cases x !=0<;>cases z !=0<;>rfl
def iK:bo:=(106,.con aex)::D4
theorem iS:ba Tryz.prog AQ AS iK:=.con afV (hez)
def abW:RT Empty:=.ret (D (E (E (W*T)+E (U*S))))
theorem jf9:cV cX (aQ JJ iK u0 hbi [V.agg [D T,D S],D W,D U]) (abW T S W U):=bF
def aX:Int:=E (E (W*T)+E (U*S))
def Sd:V:=D (aX T S W U)
theorem akd:aU cN (abW T S W U) (Sd T S W U):=AF (by unfold Sd aX;rfl)
def aco:aD:=bP [.agg aM,tI,tI] (λ_=>True) λ|[.agg [.int _ T,.int _ S],.int _ W,.int _ U]=>Sd T S W U|_=>.any
theorem ag8:b7 aco 73:=aT iS λ_ hp=>c7 (jf9 ..) (akd _ _ _ _)
def ab9:RT Empty:=.ret (D (E (E (W*S)-E (U*T))))
theorem jf2:cV cX (aQ JJ iK u0 ba2 [V.agg [D T,D S],D W,D U]) (ab9 T S W U):=bF
def aW:Int:=E (E (W*S)-E (U*T))
def ND:V:=D (aW T S W U)
theorem akv:aU cN (ab9 T S W U) (ND T S W U):=AF (by unfold ND aW;rfl)
def aaP:aD:=bP [.agg aM,tI,tI] (λ_=>True) λ|[.agg [.int _ T,.int _ S],.int _ W,.int _ U]=>ND T S W U|_=>.any
theorem ajf:b7 aaP 72:=aT iS λ_ hp=>c7 (jf2 ..) (akv _ _ _ _)
def aet:RT Empty:=.ret (D (E (E (T*T)+E (S*S))))
theorem vro:cV cX (aQ JJ iK u0 hcM [V.agg [D T,D S]]) (aet T S):=bF
def cv:Int:=E (E (T*T)+E (S*S))
def Re:V:=D (cv T S)
theorem akI:aU cN (aet T S) (Re T S):=AF (by unfold Re cv;rfl)
def ac1:aD:=bP [.agg aM] (λ_=>True) λ|[.agg [.int _ T,.int _ S]]=>Re T S|_=>.any
theorem akC:b7 ac1 67:=aT iS λ_ hp=>c7 (vro ..) (akI _ _)
def acq:RT Empty:=.ret (D (min (max T (-200000)) 200000))
theorem is6:cV cX (aQ JJ iK u0 bor [D T]) (acq T):=bF
def cE:Int:=min (max T (-200000)) 200000
def P4:V:=D (cE T)
theorem agu:aU cN (acq T) (P4 T):=AF (by unfold P4 cE;rfl)
def aeV:aD:=bP L (λ_=>True) λ|[.int _ T]=>P4 T|_=>.any
theorem akf:b7 aeV 71:=aT iS λ_ hp=>c7 (is6 ..) (agu _)
def acG:RT Empty:=.ret (D (max (-200000) (min T 200000)))
theorem ig8:cV cX (aQ JJ iK u0 anD [D T]) (acG T):=bF
def ft:Int:=max (-200000) (min T 200000)
def Uj:V:=D (ft T)
theorem akY:aU cN (acG T) (Uj T):=AF (by unfold Uj ft;rfl)
def aaR:aD:=bP L (λ_=>True) λ|[.int _ T]=>Uj T|_=>.any
theorem af6:b7 aaR 183:=aT iS λ_ hp=>c7 (ig8 ..) (akY _)
def anY:Int:=bif bif decide (T<=0) then decide (0<=S) else false then 0 else min (E (T*T)) (E (S*S))
def asW:Int:=max (E (T*T)) (E (S*S))
def aee:RT Empty:=.cb (.ret (V.bool (bg T (-100000) 100000)))
theorem wm2:cV cX (aQ JJ iK u0 akV [D T]) (aee T):=bF
def fA:Bool:=bg T (-100000) 100000
def QT:V:=.bool (fA T)
theorem ak7:aU cN (aee T) (QT T):=AM (ac (AF (by unfold QT fA;rfl)))
def aaX:aD:=bP L (λ_=>True) λ|[.int _ T]=>QT T|_=>.any
theorem anm:b7 aaX 35:=aT iS λ_ hp=>c7 (wm2 ..) (ak7 _)
def aek:RT Empty:=.cb (.ret (V.bool !fp T (-100000) 100000))
theorem ny4:cV cX (aQ JJ iK u0 gr4 [D T]) (aek T):=bF
def om:Bool:=!fp T (-100000) 100000
def TA:V:=.bool (om T)
theorem alr:aU cN (aek T) (TA T):=AM (ac (AF (by unfold TA om;rfl)))
def acn:aD:=bP L (λ_=>True) λ|[.int _ T]=>TA T|_=>.any
theorem alL:b7 acn 53:=aT iS λ_ hp=>c7 (ny4 ..) (alr _)
def abb:RT Empty:=.cb (.br (bg T (-1000) 1000) (.ob (bg T (-1000) 1000) (.cb (.iv (.ii (.ret (V.bool (bif bg S (-1000) 1000 then bif T !=0 then true else S !=0 else false))))))) (.ret (V.kb false)))
theorem wnT:cV cX (aQ JJ iK u0 amE [D T,D S]) (abb T S):=bF
def iw:Bool:=bif bg T (-1000) 1000 then bif bg S (-1000) 1000 then bif T !=0 then true else S !=0 else false else false
def I6:V:=.bool (iw T S)
theorem ajI:aU cN (abb T S) (I6 T S):=AM (ac (AP (λh0=>aF (by first|assumption|(fail)) (AM (ac (AE (AE (AE (AE (AE (AE (AF (by unfold I6 iw;try rw[h0];rfl))))))))))) (λh0=>AF (by unfold I6 iw;try rw[h0];rfl))))
def acD:aD:=bP aM (λ_=>True) λ|[.int _ T,.int _ S]=>I6 T S|_=>.any
theorem alg:b7 acD 21:=aT iS λ_ hp=>c7 (wnT ..) (ajI _ _)
def abd:RT Empty:=.cb (.obi (.br (fp T (-1000) 1000) (.ob (fp T (-1000) 1000) (.cb (.ii (.obi (.ret (V.bool (bif fp S (-1000) 1000 then !(T==0&&(S==0&&true)) else false))))))) (.ret (V.kb false))))
theorem iml:cV cX (aQ JJ iK u0 h13 [V.agg [D T,D S]]) (abd T S):=bF
def qe:Bool:=bif fp T (-1000) 1000 then bif fp S (-1000) 1000 then !(T==0&&(S==0&&true)) else false else false
def IN:V:=.bool (qe T S)
theorem ahI:aU cN (abd T S) (IN T S):=AM (ac (AE (AP (λh0=>aF (by first|assumption|(fail)) (AM (ac (AE (AE (AE (AF (by unfold IN qe;try rw[h0];rfl)))))))) (λh0=>AF (by unfold IN qe;try rw[h0];rfl)))))
def adC:aD:=bP [.agg aM] (λ_=>True) λ|[.agg [.int _ T,.int _ S]]=>IN T S|_=>.any
theorem alw:b7 adC 18:=aT iS λ_ hp=>c7 (iml ..) (ahI _ _)
inductive vv where|L0 (_ _:Int)
def twH:vv->bT×List AD×Option Ex
 |.L0 PW QO=>([(4,D PW),(3,D QO),(0,V.sl H (A L G))],[],none)
def aiN:vv->JJ
 |.L0 ..=>(0,[])
def hc1:AN (cr JJ):=aQ JJ iK u0 agG [V.sl H (A L G)]
def R93 (cx:List Cx):Lp JJ:=eX (eC (hc1 H G) [false])
def aiU:JJ->Lp JJ
 |(0,cx)=>R93 H G cx|(_,cx)=>R93 H G cx
def avl:LD JJ vv:=⟨aiN,aiU H G,twH H G⟩
def C8:vv->RT vv
 |.L0 PW QO=>.am H (.br (decide (PW<(H:Int))) (.ob (dI PW H) (.next [] (vv.L0 (E (PW+1)) (max QO (aA (G PW.toNat)))) [])) (.ret (D QO)))
def QU:RT vv:=.am H (.br (decide ((H:Int)<1)) (.fail) (.ob (decide ((0:Int)<=0/\0<(H:Int))) (.enter [] (vv.L0 1 (aA (G 0))) [])))
theorem if6:d0 iK u0 (avl H G) (hc1 H G) (QU H G) (C8 H G):=⟨bF,λs=>by cases s<;>exact bF⟩
def BD (p:Nat->Int) (z:Int):Nat->Int
 |0=>z|k+1=>max (BD p z k) (p k)
def ga:Int:=BD (λi=>aA (G i)) (aA (G 0)) H
theorem ic8 (hp:1<=H):aU (Ev (C8 H G)) (QU H G) (D (ga H G)):=by
 refine bC λhn=>cW (eM K) (aF (AG K) (aH ?_));have key:=dv (n:=H) (P:=λi=>1<=i->Ev (C8 H G) (.L0 i (BD (λi=>aA (G i)) (aA (G 0)) i)) (D (ga H G))) λi hi ih M=>by
  refine Ev.of rfl (Af λ_=>AP (λh=>?_) (λh=>AF ?_))
  ·have Pj:i<H:=by have:=As h;omega
   refine c8 Pj (aK ?_);rw[kH Pj hn];exact ih Pj K
  ·have:i=H:=by have:=D2 h;omega
   subst this;rfl
 have:=key 1 hp (Ah _);rwa [show BD (λi=>aA (G i)) (aA (G 0)) 1=aA (G 0) from Int.max_self _]at this
theorem aiD (hp:1<=H):aU (Ev (C8 H G)) (QU H G) (D (ga H (A L G))):=ic8 H G hp
def acs:aD:=bP [.sl L] (λ
 |[.sl H G]=>1<=H|_=>False) λ
 |[.sl H G]=>D (ga H G)|_=>.any
theorem fd9:b7 acs 70:=aT iS λ_ hp=>kt (if6 ..) (aiD _ _ hp)
inductive qS where|L0 (_ _:Int)|L1 (_ _ _:Int)
def ayU:qS->bT×List AD×Option Ex
 |.L0 PW QO=>([(4,D PW),(3,D QO),(1,V.pl 0 0)],[AD.cells [V.str s0,V.sl n1 (A L f1),V.sl n3 (A L f3),V.sl n5 (A [Ty.sl L] q),D Z,D Y] 88],none)|.L1 Q6 Qd Vi=>([(5,D Q6),(4,D Qd),(3,D Vi),(1,V.pl 0 0)],[AD.cells [V.str s0,V.sl n1 (A L f1),V.sl n3 (A L f3),V.sl n5 (A [Ty.sl L] q),D Z,D Y] 88],none)
def ako:qS->JJ
 |.L0 ..=>(0,[])|.L1 ..=>(1,[])
def hgo:AN (cr JJ):=aQ JJ iK u0 ahs [V.agg [V.str s0,V.sl n1 (A L f1),V.sl n3 (A L f3),V.sl n5 (A [Ty.sl L] q),D Z,D Y]]
def xg (cx:List Cx):Lp JJ:=eX (eC (hgo s0 n1 f1 n3 f3 n5 q Z Y) [])
def hsr (cx:List Cx):Lp JJ:=eX (eC (oU iK u0 (0,[]) (xg s0 n1 f1 n3 f3 n5 q Z Y []) (ayU s0 n1 f1 n3 f3 n5 q Z Y (.L0 (0:Int) (0:Int)))) [true])
def alU:JJ->Lp JJ
 |(0,cx)=>xg s0 n1 f1 n3 f3 n5 q Z Y cx|(1,cx)=>hsr s0 n1 f1 n3 f3 n5 q Z Y cx|(_,cx)=>xg s0 n1 f1 n3 f3 n5 q Z Y cx
def auS:LD JJ qS:=⟨ako,alU s0 n1 f1 n3 f3 n5 q Z Y,ayU s0 n1 f1 n3 f3 n5 q Z Y⟩
def rE (s0:ByteArray) (n1:Nat) (f1:be) (n3:Nat) (f3:be) (n5:Nat) (q:be) (Z Y:Int):qS->RT qS
 |.L0 PW QO=>.am n5 (.br (decide (PW<(n5:Int))) (.enter Az (qS.L1 0 PW QO) []) (.ret (D QO)))|.L1 Q6 Qd Vi=>.ob (dI Qd n5) (.asm (true=true->aw (av (q Qd.toNat))<=9223372036854775807) (.br (decide (Q6<(↑(aw (av (q Qd.toNat))):Int))) (.ob (dI Qd n5) (.ob (decide (0<=Q6/\Q6<(↑(aw (av (q Qd.toNat))):Int))) (.next Az (qS.L1 (E (Q6+1)) Qd (max Vi (aA (bz (av (q Qd.toNat)) Q6.toNat)))) []))) (.next Az (qS.L0 (E (Qd+1)) Vi) [])))
def Pq:RT qS:=dm (s0,n1,f1,n3,f3,n5,q,Y) (.enter Az (qS.L0 0 Z) [])
theorem k17:d0 iK u0 (auS s0 n1 f1 n3 f3 n5 q Z Y) (hgo s0 n1 f1 n3 f3 n5 q Z Y) (Pq s0 n1 f1 n3 f3 n5 q Z Y) (rE s0 n1 f1 n3 f3 n5 q Z Y):=⟨bF,λs=>by cases s<;>exact bF⟩
def grL (l:Nat->Nat) (v:Nat->Nat->Int) (z:Int):Nat->Int
 |0=>z|k+1=>BD (v k) (grL l v z k) (l k)
abbrev IL (z:Int) (k:Nat):Int:=grL (λi=>aw (av (q i))) (λi j=>aA (bz (av (q i)) j)) z k
def FV:Int:=IL q Z n5
theorem rdT (hn:n5<=9223372036854775807) (i:Nat) (hi:i<n5) (r:V) (hx:Ev (rE s0 n1 f1 n3 f3 n5 q Z Y) (.L0 (E ((i:Int)+1)) (IL q Z (i+1))) r):Ev (rE s0 n1 f1 n3 f3 n5 q Z Y) (.L1 0 i (IL q Z i)) r:=by
 by_cases h5:aw (av (q i))<=9223372036854775807
 ·refine E3 h5 (P:=λx=>Ev (rE s0 n1 f1 n3 f3 n5 q Z Y) (.L1 x i (BD (λj=>aA (bz (av (q i)) j)) (IL q Z i) x.toNat)) r) (λj Pj nx=>?_) (Ev.of rfl (c8 hi (Af λ_=>dp (aK ?_))))
  ·rw[show(E ((j:Int)+1)).toNat=j+1 by rw[kH Pj h5];rfl]at nx;exact Ev.of rfl (c8 hi (Af λ_=>dt Pj (c8 hi (c8 Pj (aK nx)))))
  ·exact hx
 ·exact Ev.of rfl (c8 hi (Af λh=>absurd (h rfl) h5))
theorem hsl0:aU (Ev (rE s0 n1 f1 n3 f3 n5 q Z Y)) (Pq s0 n1 f1 n3 f3 n5 q Z Y) (D (FV n5 q Z)):=by
 refine aH ?_;by_cases hn:n5<=9223372036854775807
 ·refine E3 hn (P:=λx=>Ev (rE s0 n1 f1 n3 f3 n5 q Z Y) (.L0 x (IL q Z x.toNat)) (D (FV n5 q Z))) (λi Pj nx=>?_) (Ev.of rfl (Af λ_=>dp (AF rfl)));rw[show(E ((i:Int)+1)).toNat=i+1 by rw[kH Pj hn];rfl]at nx;exact Ev.of rfl (Af λ_=>dt Pj (aH (rdT s0 n1 f1 n3 f3 n5 q Z Y hn i Pj _ nx)))
 ·exact Ev.of rfl (Af λh=>absurd (h rfl) hn)
theorem ahW:aU (Ev (rE s0 n1 f1 n3 f3 n5 q Z Y)) (Pq s0 n1 f1 n3 f3 n5 q Z Y) (D (FV n5 (A [.sl L] q) Z)):=hsl0 s0 n1 f1 n3 f3 n5 q Z Y
def abx:aD:=bP [.agg al] (λ_=>True) λ|[.agg [.str s0,.sl n1 f1,.sl n3 f3,.sl n5 q,.int _ Z,.int _ Y]]=>D (FV n5 q Z)|_=>.any
theorem ahr:b7 abx 108:=aT iS λ_ hp=>kt (k17 ..) (ahW _ _ _ _ _ _ _ _ _)
inductive sQ where|L0 (_ _:Int)
def twL:sQ->bT×List AD×Option Ex
 |.L0 PW QO=>([(4,D PW),(3,D QO),(0,D T)],[],none)
def amo:sQ->JJ
 |.L0 ..=>(0,[])
def fw2:AN (cr JJ):=aQ JJ iK u0 ayn [D T]
def aAv (cx:List Cx):Lp JJ:=eX (eC (fw2 T) [])
def aj9:JJ->Lp JJ
 |(0,cx)=>aAv T cx|(_,cx)=>aAv T cx
def auN:LD JJ sQ:=⟨amo,aj9 T,twL T⟩
def Cp:sQ->RT sQ
 |.L0 PW QO=>.br (decide (0<PW)) (.br (decide (E (E (QO+PW)*E (QO+PW))<=T)) (.obt (.next [] (sQ.L0 (E (PW.tdiv 2)) (E (QO+PW))) [])) (.obt (.next [] (sQ.L0 (E (PW.tdiv 2)) QO) []))) (.ret (D QO))
def abC:RT sQ:=dm T (.enter [] (sQ.L0 1073741824 0) [])
theorem x20:d0 iK u0 (auN T) (fw2 T) (abC T) (Cp T):=⟨bF,λs=>by cases s<;>exact bF⟩
def gb:Nat->Nat
 |0=>0|n+1=>bif Nat.ble ((gb n+1)*(gb n+1)) (n+1) then gb n+1 else gb n
theorem qL:∀ n,gb n*gb n<=n/\n<(gb n+1)*(gb n+1)
 |0=>⟨Ah _,aO⟩
 |n+1=>by
   obtain⟨M,Q⟩:=qL n;unfold gb;cases hb:Nat.ble ((gb n+1)*(gb n+1)) (n+1) with
   |true=>
     have:=Bf hb;refine⟨this,?_⟩;have e:(gb n+1+1)*(gb n+1+1)=(gb n+1)*(gb n+1)+2*(gb n+1)+1:=by grind
     show n+1<(gb n+1+1)*(gb n+1+1);omega
   |false=>
     have h3:¬(gb n+1)*(gb n+1)<=n+1:=λh=>by rw[EC h]at hb;cases hb
     exact⟨by show gb n*gb n<=n+1;omega,by show n+1<(gb n+1)*(gb n+1);omega⟩
theorem av2 {n r:Nat} (M:r*r<=n) (Q:n<(r+1)*(r+1)):gb n=r:=by
 obtain⟨g1,g2⟩:=qL n;have a:¬gb n<r:=λh=>by have:=Ei (show gb n+1<=r from h) (show gb n+1<=r from h);omega
 have c:¬r<gb n:=λh=>by have:=Ei (show r+1<=gb n from h) (show r+1<=gb n from h);omega
 omega
def iza20 (x:Int):Int:=(gb x.toNat:Int)
def me:Nat:=(min T 4611686018427387903).toNat
def eK:Int:=(gb (me T):Int)
theorem abI {x:Int} {m:Nat} (M:1<=m) (hm:m<=2147483647):decide (E (E (m:Int)*E (m:Int))<=x)=decide (m*m<=me x):=by
 have b:m*m<=2147483647*2147483647:=Ei hm hm;have b1:1<=m*m:=Ei M M;rw[AX (x:=(m:Int)) K K,show(m:Int)*(m:Int)=((m*m:Nat):Int) from(Int.natCast_mul m m).symm];generalize m*m=PX at *
 rw[AX K K];unfold me;exact decide_eq_decide.2 K
theorem apF:∀ k:Nat,k<=30->∀ r:Nat,r*r<=me T->me T<(r+2 ^ (k+1))*(r+2 ^ (k+1))->r+2 ^ (k+1)<=2147483648->Ev (Cp T) (.L0 ((2 ^ k:Nat):Int) (r:Int)) (D (eK T)):=by
 intro k;induction k with
 |zero=>
   intro _ r M Q h3;have V5:r+2<=2147483648:=h3;have h2':me T<(r+2)*(r+2):=Q;have fin:∀ PX:Nat,PX*PX<=me T->me T<(PX+1)*(PX+1)->Ev (Cp T) (.L0 (E (((1:Nat):Int).tdiv 2)) (PX:Int)) (D (eK T)):=λPX g1 g2=>
    Ev.of rfl (cW rfl (AF (by unfold eK;rw[av2 g1 g2])))
   have hs:=abI (x:=T) (m:=r+1) K K;have e1:(r:Int)+((1:Nat):Int)=((r+1:Nat):Int):=by omega
   refine Ev.of rfl (cO aO (AP (λh=>ac (aK ?_)) (λh=>ac (aK ?_))))
   ·have h':decide ((r+1)*(r+1)<=me T)=true:=by rw[← hs,← e1];exact h
    have:=fin (r+1) (As h') h2';rw[show E ((r:Int)+((2 ^ 0:Nat):Int))=((r+1:Nat):Int) from by rw[AX K K];rfl];exact this
   ·have h':decide ((r+1)*(r+1)<=me T)=false:=by rw[← hs,← e1];exact h
    exact fin r M (Nat.lt_of_not_le (D2 h'))
 |succ k ih=>
   intro hk r M Q h3;have p1:2 ^ (k+1+1)=2*2 ^ (k+1):=by rw[Nat.pow_succ];omega
   have p0:1<=2 ^ (k+1):=Nat.one_le_two_pow;have p2:2 ^ (k+1)=2*2 ^ k:=by rw[Nat.pow_succ];omega
   have hs:=abI (x:=T) (m:=r+2 ^ (k+1)) K K;have e1:(r:Int)+((2 ^ (k+1):Nat):Int)=((r+2 ^ (k+1):Nat):Int):=by omega
   have e2:E (((2 ^ (k+1):Nat):Int).tdiv 2)=((2 ^ k:Nat):Int):=by rw[p2,show((2*2 ^ k:Nat):Int).tdiv 2=((2 ^ k:Nat):Int) by rw[I4 K];omega];exact AX K K
   have e3:E ((r:Int)+((2 ^ (k+1):Nat):Int))=((r+2 ^ (k+1):Nat):Int):=by rw[AX K K];exact e1
   refine Ev.of rfl (cO (AG K) (AP (λh=>ac (aK ?_)) (λh=>ac (aK ?_))))
   ·have h':decide ((r+2 ^ (k+1))*(r+2 ^ (k+1))<=me T)=true:=by rw[← hs,← e1];exact h
    rw[e2,e3];exact ih K (r+2 ^ (k+1)) (As h') (by rw[show r+2 ^ (k+1)+2 ^ (k+1)=r+2 ^ (k+1+1) by omega];exact Q) K
   ·have h':decide ((r+2 ^ (k+1))*(r+2 ^ (k+1))<=me T)=false:=by rw[← hs,← e1];exact h
    rw[e2];exact ih K r M (Nat.lt_of_not_le (D2 h')) K
theorem ahJ:aU (Ev (Cp T)) (abC T) (D (eK T)):=aH (apF T 30 (Ah _) 0 (Bc _) (by unfold me;show _<4611686018427387904;omega) aO)
def adT:aD:=bP L (λ_=>True) λ|[.int _ T]=>D (eK T)|_=>.any
theorem anK:b7 adT 32:=aT iS λ_ hp=>kt (x20 ..) (ahJ _)
inductive tM where|L0 (_ _:Int)
def nh1:tM->bT×List AD×Option Ex
 |.L0 PW QO=>([(4,D PW),(3,D QO),(0,D T)],[],none)
def am6:tM->JJ
 |.L0 ..=>(0,[])
def hc3:AN (cr JJ):=aQ JJ iK u0 af2 [D T]
def yaA (cx:List Cx):Lp JJ:=eX (eC (hc3 T) [])
def anl:JJ->Lp JJ
 |(0,cx)=>yaA T cx|(_,cx)=>yaA T cx
def aug:LD JJ tM:=⟨am6,anl T,nh1 T⟩
def Hi:tM->RT tM
 |.L0 PW QO=>.br (decide (1<E (PW-QO))) (.obt (.br (decide (E (E ((E (QO+PW)).tdiv 2)*E ((E (QO+PW)).tdiv 2))<=T)) (.next [] (tM.L0 PW (E ((E (QO+PW)).tdiv 2))) []) (.next [] (tM.L0 (E ((E (QO+PW)).tdiv 2)) QO) []))) (.ret (D QO))
def aaE:RT tM:=dm T (.enter [] (tM.L0 2000000000 0) [])
theorem nz1:d0 iK u0 (aug T) (hc3 T) (aaE T) (Hi T):=⟨bF,λs=>by cases s<;>exact bF⟩
def oW:Nat:=(min T 3999999999999999999).toNat
def dW:Int:=(gb (oW T):Int)
theorem ip8 {x:Int} {m:Nat} (M:1<=m) (hm:m<2000000000):decide (E ((m:Int)*(m:Int))<=x)=decide (m*m<=oW x):=by
 have b:m*m<=1999999999*1999999999:=Ei K K;have b1:1<=m*m:=Ei M M;rw[show(m:Int)*(m:Int)=((m*m:Nat):Int) from(Int.natCast_mul m m).symm];generalize m*m=PX at *
 rw[AX K K];unfold oW;exact decide_eq_decide.2 K
theorem asA:∀ d lo hi:Nat,hi-lo<=d->lo<hi->hi<=2000000000->lo*lo<=oW T->oW T<hi*hi->Ev (Hi T) (.L0 (hi:Int) (lo:Int)) (D (dW T)):=by
 intro d;induction d with
 |zero=>intro lo hi M Q;omega
 |succ d ih=>
   intro lo hi M Q h3 h4 h5;refine Ev.of rfl (AP (λh=>ac ?_) (λh=>AF ?_))
   ·have hd:1<hi-lo:=by have:=As h;rw[AX K K]at this;omega
    have ybf:E ((E ((lo:Int)+(hi:Int))).tdiv 2)=(((lo+hi) / 2:Nat):Int):=by rw[AX (x:=(lo:Int)+(hi:Int)) K K,I4 K,AX K K];omega
    rw[ybf];have hs:=ip8 (x:=T) (m:=(lo+hi) / 2) K K;refine AP (λh=>aK ?_) (λh=>aK ?_)
    ·rw[hs]at h;exact ih _ _ K K h3 (As h) h5
    ·rw[hs]at h;exact ih _ _ K K K h4 (Nat.lt_of_not_le (D2 h))
   ·have hd:hi=lo+1:=by have:=D2 h;rw[AX K K]at this;omega
    subst hd;unfold dW;rw[av2 h4 h5]
theorem afy:aU (Ev (Hi T)) (aaE T) (D (dW T)):=aH (asA T 2000000000 0 2000000000 K K (Ah _) (Bc _) (by unfold oW;show _<4000000000000000000;omega))
def abX:aD:=bP L (λ_=>True) λ|[.int _ T]=>D (dW T)|_=>.any
theorem aj2:b7 abX 42:=aT iS λ_ hp=>kt (nz1 ..) (afy _)
def q8:bo:=(73,.con aco)::(72,.con aaP)::(67,.con ac1)::(71,.con aeV)::(183,.con aaR)::(35,.con aaX)::(53,.con acn)::(21,.con acD)::(18,.con adC)::(70,.con acs)::(108,.con abx)::(32,.con adT)::(42,.con abX)::iK
theorem uU:ba Tryz.prog AQ AS q8:=.con ag8 (.con ajf (.con akC (.con akf (.con af6 (.con anm (.con alL (.con alg (.con alw (.con fd9 (.con ahr (.con anK (.con aj2 (iS)))))))))))))
def aci:RT Empty:=.cb (.br (decide (E (eK T*eK T)<T)) (.ret (D (E (eK T+1)))) (.ret (D (eK T))))
theorem nm8:cV cX (aQ JJ q8 u0 fz6 [D T]) (aci T):=bF
def dU:Int:=bif decide (E (eK T*eK T)<T) then E (eK T+1) else eK T
def Ks:V:=D (dU T)
theorem ae7:aU cN (aci T) (Ks T):=AM (ac (AP (λh0=>AF (by unfold Ks dU;try rw[h0];rfl)) (λh0=>AF (by unfold Ks dU;try rw[h0];rfl))))
def ad7:aD:=bP L (λ_=>True) λ|[.int _ T]=>Ks T|_=>.any
theorem aif:b7 ad7 30:=aT uU λ_ hp=>c7 (nm8 ..) (ae7 _)
def aeb:RT Empty:=.cb (.br (decide (E (dW T*dW T)<T)) (.ret (D (E (dW T+1)))) (.ret (D (dW T))))
theorem yai:cV cX (aQ JJ q8 u0 agY [D T]) (aeb T):=bF
def dE:Int:=bif decide (E (dW T*dW T)<T) then E (dW T+1) else dW T
def JV:V:=D (dE T)
theorem afK:aU cN (aeb T) (JV T):=AM (ac (AP (λh0=>AF (by unfold JV dE;try rw[h0];rfl)) (λh0=>AF (by unfold JV dE;try rw[h0];rfl))))
def abp:aD:=bP L (λ_=>True) λ|[.int _ T]=>JV T|_=>.any
theorem ajT:b7 abp 40:=aT uU λ_ hp=>c7 (yai ..) (afK _)
inductive vQ where|L0 (_:Int)
def aam:vQ->bT×List AD×Option Ex
 |.L0 PW=>([(8,D PW),(7,D (H:Int)),(6,V.sl H (A L G)),(4,D 0),(0,V.sl H (A L G)),(1,V.fn 53 [] [])],[],none)
def ahv:vQ->JJ
 |.L0 _=>(0,[])
def h30:AN (cr JJ):=aQ JJ q8 u0 Ja [V.sl H (A L G),V.fn 53 [] []]
def yau (cx:List Cx):Lp JJ:=eX (eC (h30 H G) [])
def anE:JJ->Lp JJ
 |(0,cx)=>yau H G cx|(_,cx)=>yau H G cx
def auP:LD JJ vQ:=⟨ahv,anE H G,aam H G⟩
def FM:vQ->RT vQ
 |.L0 PW=>.br (decide (PW<(H:Int))) (.ob (dI PW H) (.cb (.br (om (aA (G PW.toNat))) (.ret (D PW)) (.next [] (vQ.L0 (E (PW+1))) [])))) (.ret (D (-1)))
def Tj:RT vQ:=dm G (.am H (.enter [] (vQ.L0 0) []))
theorem yaY:d0 q8 u0 (auP H G) (h30 H G) (Tj H G) (FM H G):=⟨bF,λs=>by cases s<;>exact bF⟩
def Ew:Int  :=zO H λii=>om (aA (G ii))
theorem hw0:aU (Ev (FM H G)) (Tj H G) (D (Ew H G)):=bC λhn=>aH (pN hn λi=>rfl)
theorem agQ:aU (Ev (FM H G)) (Tj H G) (D (Ew H (A L G))):=hw0 H G
def adw:aD:=bP [.sl L,.fn 53 [] []] (λ_=>True) λ|[.sl H G,.fn _ [] []]=>D (Ew H G)|_=>.any
theorem aiM:b7 adw 92:=aT uU λ_ hp=>kt (yaY ..) (agQ _ _)
inductive vE where|L0 (_ _:Int)
def x18:vE->bT×List AD×Option Ex
 |.L0 PW QO=>([(4,D PW),(3,D QO),(0,V.sl H (A L G))],[],none)
def afF:vE->JJ
 |.L0 ..=>(0,[])
def azk:AN (cr JJ):=aQ JJ q8 u0 aiR [V.sl H (A L G)]
def af1 (cx:List Cx):Lp JJ:=eX (eC (azk H G) [false])
def afL:JJ->Lp JJ
 |(0,cx)=>af1 H G cx|(_,cx)=>af1 H G cx
def atp:LD JJ vE:=⟨afF,afL H G,x18 H G⟩
def CR:vE->RT vE
 |.L0 PW QO=>.am H (.br (decide (PW<(H:Int))) (.ob (dI PW H) (.next [] (vE.L0 (E (PW+1)) (min QO (aA (G PW.toNat)))) [])) (.ret (D QO)))
def TM:RT vE:=.am H (.br (decide ((H:Int)<1)) (.fail) (.ob (decide ((0:Int)<=0/\0<(H:Int))) (.enter [] (vE.L0 1 (aA (G 0))) [])))
theorem nw3:d0 q8 u0 (atp H G) (azk H G) (TM H G) (CR H G):=⟨bF,λs=>by cases s<;>exact bF⟩
def HT (p:Nat->Int) (z:Int):Nat->Int
 |0=>z|k+1=>min (HT p z k) (p k)
def g9:Int:=HT (λi=>aA (G i)) (aA (G 0)) H
theorem hs1 (hp:1<=H):aU (Ev (CR H G)) (TM H G) (D (g9 H G)):=by
 refine bC λhn=>cW (eM K) (aF (AG K) (aH ?_));have key:=dv (n:=H) (P:=λi=>1<=i->Ev (CR H G) (.L0 i (HT (λi=>aA (G i)) (aA (G 0)) i)) (D (g9 H G))) λi hi ih M=>by
  refine Ev.of rfl (Af λ_=>AP (λh=>?_) (λh=>AF ?_))
  ·have Pj:i<H:=by have:=As h;omega
   refine c8 Pj (aK ?_);rw[kH Pj hn];exact ih Pj K
  ·have:i=H:=by have:=D2 h;omega
   subst this;rfl
 have:=key 1 hp (Ah _);rwa [show HT (λi=>aA (G i)) (aA (G 0)) 1=aA (G 0) from Int.min_self _]at this
theorem alX (hp:1<=H):aU (Ev (CR H G)) (TM H G) (D (g9 H (A L G))):=hs1 H G hp
def abN:aD:=bP [.sl L] (λ
 |[.sl H G]=>1<=H|_=>False) λ
 |[.sl H G]=>D (g9 H G)|_=>.any
theorem hC':b7 abN 69:=aT uU λ_ hp=>kt (nw3 ..) (alX _ _ hp)
inductive vT where|L0 (_ _:Int)
def ntT (s0:ByteArray) (n1:Nat) (f1:be) (n3:Nat) (f3:be) (n5:Nat) (q:be) (Z Y:Int):vT->bT×List AD×Option Ex
 |.L0 PW QO=>([(11,D PW),(10,D (n5:Int)),(9,V.sl n5 (A [Ty.sl L] q)),(3,D QO)],[],none)
def anN:vT->JJ
 |.L0 ..=>(0,[])
def cvB:AN (cr JJ):=aQ JJ q8 u0 ai8 [V.agg [V.str s0,V.sl n1 (A L f1),V.sl n3 (A L f3),V.sl n5 (A [Ty.sl L] q),D Z,D Y]]
def afj (cx:List Cx):Lp JJ:=eX (eC (cvB s0 n1 f1 n3 f3 n5 q Z Y) [])
def ajj:JJ->Lp JJ
 |(0,cx)=>afj s0 n1 f1 n3 f3 n5 q Z Y cx|(_,cx)=>afj s0 n1 f1 n3 f3 n5 q Z Y cx
def apv:LD JJ vT:=⟨anN,ajj s0 n1 f1 n3 f3 n5 q Z Y,ntT s0 n1 f1 n3 f3 n5 q Z Y⟩
def CB (s0:ByteArray) (n1:Nat) (f1:be) (n3:Nat) (f3:be) (n5:Nat) (q:be) (Z Y:Int):vT->RT vT
 |.L0 PW QO=>.br (decide (PW<(n5:Int))) (.ob (dI PW n5) (.obp ((1:Nat)<=aw (av (q PW.toNat))) (.obt (.next [] (vT.L0 (E (PW+1)) (max QO (ga (aw (av (q PW.toNat))) λi=>ap L (bz (av (q PW.toNat)) i)))) [])))) (.ret (D QO))
def Sg:RT vT:=dm (s0,n1,f1,n3,f3,q,Y) (.am n5 (.enter [] (vT.L0 0 Z) []))
theorem nu3:d0 q8 u0 (apv s0 n1 f1 n3 f3 n5 q Z Y) (cvB s0 n1 f1 n3 f3 n5 q Z Y) (Sg s0 n1 f1 n3 f3 n5 q Z Y) (CB s0 n1 f1 n3 f3 n5 q Z Y):=⟨bF,λs=>by cases s<;>exact bF⟩
def KL (i:Nat):Int:=ga (aw (av (q i))) λj=>ap L (bz (av (q i)) j)
def sw:Int:=BD (λi=>KL q i) Z n5
theorem hvu (hp:∀i,i<n5->1<=aw (av (q i))):aU (Ev (CB s0 n1 f1 n3 f3 n5 q Z Y)) (Sg s0 n1 f1 n3 f3 n5 q Z Y) (D (sw n5 q Z)):=by refine bC λhn=>aH (E3 hn (P:=λx=>Ev (CB s0 n1 f1 n3 f3 n5 q Z Y) (.L0 x (BD (λi=>KL q i) Z x.toNat)) (D (sw n5 q Z))) (λi Pj nx=>?_) (Ev.of rfl (dp (AF rfl))));rw[show(E ((i:Int)+1)).toNat=i+1 by rw[kH Pj hn];rfl]at nx;exact Ev.of rfl (dt Pj (c8 Pj (aI (hp i Pj) (ac (aK nx)))))
theorem amL (hp:∀i,i<n5->1<=aw (av ((A [.sl L] q) i))):aU (Ev (CB s0 n1 f1 n3 f3 n5 q Z Y)) (Sg s0 n1 f1 n3 f3 n5 q Z Y) (D (sw n5 (A [.sl L] q) Z)):=hvu s0 n1 f1 n3 f3 n5 q Z Y hp
def aeC:aD:=bP [.agg al] (λ
 |[.agg [.str s0,.sl n1 f1,.sl n3 f3,.sl n5 q,.int _ Z,.int _ Y]]=>∀i,i<n5->1<=aw (av (q i))|_=>False) λ
 |[.agg [.str s0,.sl n1 f1,.sl n3 f3,.sl n5 q,.int _ Z,.int _ Y]]=>D (sw n5 q Z)|_=>.any
theorem ajt:b7 aeC 51:=aT uU λ_ hp=>kt (nu3 ..) (amL _ _ _ _ _ _ _ _ _ hp)
def QV:bo:=(30,.con ad7)::(40,.con abp)::(92,.con adw)::(69,.con abN)::(51,.con aeC)::q8
theorem fx7:ba Tryz.prog AQ AS QV:=.con aif (.con ajT (.con aiM (.con hC' (.con ajt (uU)))))
def PD:l7:=λ_=>5
def auk:RT Empty:=.cb (.ret (V.bool (decide (0<=Ew H (A L G)))))
theorem ajs:cV cX (aQ JJ QV u0 Z7 [V.sl H (A L G),V.fn 53 [] []]) (auk H G):=bF
def BK:Bool:=decide (0<=Ew H (A L G))
def NU:V:=.bool (BK H G)
theorem ats:aU cN (auk H G) (NU H G):=AM (ac (AF (by unfold NU BK;rfl)))
def asn:aD:=bP [.sl L,.fn 53 [] []] (λ_=>True) λ|[.sl H G,.fn _ [] []]=>NU H G|_=>.any
theorem arW:b7 asn 52:=aT fx7 λ_ hp=>c7 (ajs ..) (ats _ _)
def Eg:bo:=(52,.con asn)::QV
theorem Ha:ba Tryz.prog AQ AS Eg:=.con arW (fx7)
def abo:RT Empty:=.cb (.ret (V.bool !BK H (A L G)))
theorem id1:cV cX (aQ JJ Eg u0 azy [V.sl H (A L G)]) (abo H G):=bF
def tF:Bool:=!BK H (A L G)
def PN:V:=.bool (tF H G)
theorem agM:aU cN (abo H G) (PN H G):=AM (ac (AF (by unfold PN tF;rfl)))
def acm:aD:=bP [.sl L] (λ_=>True) λ|[.sl H G]=>PN H G|_=>.any
theorem agX:b7 acm 24:=aT Ha λ_ hp=>c7 (id1 ..) (agM _ _)
inductive vp where|L0 (_ _ _:Int)
def aar:vp->bT×List AD×Option Ex
 |.L0 PW QO Qr=>([(8,D PW),(7,D QO),(6,D Qr),(0,V.sl H (A L G)),(1,D W)],[],none)
def aiY:vp->JJ
 |.L0 ..=>(0,[])
def hds:AN (cr JJ):=aQ JJ Eg u0 aji [V.sl H (A L G),D W]
def yay (cx:List Cx):Lp JJ:=eX (eC (hds H G W) [])
def ak8:JJ->Lp JJ
 |(0,cx)=>yay H G W cx|(_,cx)=>yay H G W cx
def ar7:LD JJ vp:=⟨aiY,ak8 H G W,aar H G W⟩
def La:vp->RT vp
 |.L0 PW QO Qr=>.am H (.br (decide (PW<(H:Int))) (.ob (dI PW H) (.ob (dI PW H) (.next [] (vp.L0 (E (PW+1)) (max QO (aA (G PW.toNat))) (min Qr (aA (G PW.toNat)))) []))) (.cb (.cb (.obp (nz (dE (E ((1000000:Int)*W)))) (.obt (.obp (nz (dW (E ((1000000:Int)*W)))) (.obt (.br (decide (Qr<0)) (.obp (nz (dW (E ((1000000:Int)*W)))) (.obt (.br (decide (QO<0)) (.obp (nz (dE (E ((1000000:Int)*W)))) (.obt (.cb (.cb (.ret (V.tup [D (ft (fq (E (1000*Qr)) (dW (E (1000000*W))))),D (ft (gK (E (1000*QO)) (dE (E (1000000*W)))))])))))) (.cb (.cb (.ret (V.tup [D (ft (fq (E (1000*Qr)) (dW (E (1000000*W))))),D (ft (gK (E (1000*QO)) (dW (E (1000000*W)))))]))))))) (.br (decide (QO<0)) (.obp (nz (dE (E ((1000000:Int)*W)))) (.obt (.cb (.cb (.ret (V.tup [D (ft (fq (E (1000*Qr)) (dE (E (1000000*W))))),D (ft (gK (E (1000*QO)) (dE (E (1000000*W)))))])))))) (.cb (.cb (.ret (V.tup [D (ft (fq (E (1000*Qr)) (dE (E (1000000*W))))),D (ft (gK (E (1000*QO)) (dW (E (1000000*W)))))])))))))))))))
def Up:RT vp:=dm W (.ob (decide ((0:Int)<=0/\0<(H:Int))) (.ob (decide ((0:Int)<=0/\0<(H:Int))) (.enter [] (vp.L0 0 (aA (G 0)) (aA (G 0))) [])))
theorem ne4:d0 Eg u0 (ar7 H G W) (hds H G W) (Up H G W) (La H G W):=⟨bF,λs=>by cases s<;>exact bF⟩
def IZ (m x:Int):Int:=bif decide (m<0) then ft (fq (E (1000*m)) (dW (E (1000000*x)))) else ft (fq (E (1000*m)) (dE (E (1000000*x))))
def IY (m x:Int):Int:=bif decide (m<0) then ft (gK (E (1000*m)) (dE (E (1000000*x)))) else ft (gK (E (1000*m)) (dW (E (1000000*x))))
def HS (i:Nat):Int:=aA (G i)
def ip:Int:=IZ (HT (HS G) (HS G 0) H) W
def iu:Int:=IY (BD (HS G) (HS G 0) H) W
def Kz (x:Int):Prop:=(dE (E (1000000*x))=0->False)/\(dW (E (1000000*x))=0->False)
theorem hsc (hp:1<=H/\Kz W):aU (Ev (La H G W)) (Up H G W) (.tup [D (ip H G W),D (iu H G W)]):=by
 obtain⟨M,Q,h3⟩:=hp;refine aF (AG K) (aF (AG K) (aH ?_));have key:=dv (n:=H) (P:=λi=>Ev (La H G W) (.L0 i (BD (HS G) (HS G 0) i) (HT (HS G) (HS G 0) i)) (.tup [D (ip H G W),D (iu H G W)])) λi hi ih=>by
  refine Ev.of rfl (bC λhn=>AP (λh=>?_) (λh=>?_))
  ·have Pj:i<H:=by have:=As h;omega
   refine c8 Pj (c8 Pj (aK ?_));rw[kH Pj hn];exact ih Pj
  ·have:i=H:=by have:=D2 h;omega
   subst this;refine AM (ac (AM (ac (aI Q (ac (aI h3 (ac (AP (λh0=>?_) (λh0=>?_)))))))))
   ·refine aI h3 (ac (AP (λM=>?_) (λM=>?_)))
    ·exact aI Q (ac (AM (ac (AM (ac (AF (by unfold ip iu IZ IY;rw[h0,M];rfl)))))))
    ·exact AM (ac (AM (ac (AF (by unfold ip iu IZ IY;rw[h0,M];rfl)))))
   ·refine AP (λM=>?_) (λM=>?_)
    ·exact aI Q (ac (AM (ac (AM (ac (AF (by unfold ip iu IZ IY;rw[h0,M];rfl)))))))
    ·exact AM (ac (AM (ac (AF (by unfold ip iu IZ IY;rw[h0,M];rfl)))))
 exact key 0 (Bc _)
theorem ajr (hp:1<=H/\Kz W):aU (Ev (La H G W)) (Up H G W) (.tup [D (ip H (A L G) W),D (iu H (A L G) W)]):=hsc H G W hp
def adS:aD:=bP [.sl L,tI] (λ
 |[.sl H G,.int _ W]=>1<=H/\Kz W|_=>False) λ
 |[.sl H G,.int _ W]=>.tup [D (ip H G W),D (iu H G W)]|_=>.any
theorem am5:b7 adS 129:=aT Ha λ_ hp=>kt (ne4 ..) (ajr _ _ _ hp)
def Jm:bo:=(24,.con acm)::(129,.con adS)::Eg
theorem GG:ba Tryz.prog AQ AS Jm:=.con agX (.con am5 (Ha))
def bf3:RT Empty:=.brt (.obt (.obt (.obt (.cb (.obt (.brt (.obt (.obt (.obt (.cb (.obt (.brt (.obt (.obt (.obt (.cb (.obt (.brt (.obt (.obt (.obt (.cb (.obt (.brf (.obp ((1:Nat)<=(4:Nat)) (.obt (.obp ((1:Nat)<=(4:Nat)) (.obt (.br (decide (g9 4 (A L (b9 [D (E (1000*aW T S W U)),D (E (1000*aW T S O x5)),D (E (1000*aW T S x6 Z)),D (E (1000*aW T S Y x9))] 0 1))<0)) (.br (decide (ga 4 (A L (b9 [D (E (1000*aW T S W U)),D (E (1000*aW T S O x5)),D (E (1000*aW T S x6 Z)),D (E (1000*aW T S Y x9))] 0 1))<0)) (.obp (nz PT) (.obt (.cb (.obp (nz PV) (.obt (.cb (.ret (V.tup [D (cE (dS (g9 4 (A L (b9 [D (E (1000*aW T S W U)),D (E (1000*aW T S O x5)),D (E (1000*aW T S x6 Z)),D (E (1000*aW T S Y x9))] 0 1))) PT)),D (cE (eV (ga 4 (A L (b9 [D (E (1000*aW T S W U)),D (E (1000*aW T S O x5)),D (E (1000*aW T S x6 Z)),D (E (1000*aW T S Y x9))] 0 1))) PV))])))))))) (.obp (nz PT) (.obt (.cb (.obp (nz PT) (.obt (.cb (.ret (V.tup [D (cE (dS (g9 4 (A L (b9 [D (E (1000*aW T S W U)),D (E (1000*aW T S O x5)),D (E (1000*aW T S x6 Z)),D (E (1000*aW T S Y x9))] 0 1))) PT)),D (cE (eV (ga 4 (A L (b9 [D (E (1000*aW T S W U)),D (E (1000*aW T S O x5)),D (E (1000*aW T S x6 Z)),D (E (1000*aW T S Y x9))] 0 1))) PT))]))))))))) (.br (decide (ga 4 (A L (b9 [D (E (1000*aW T S W U)),D (E (1000*aW T S O x5)),D (E (1000*aW T S x6 Z)),D (E (1000*aW T S Y x9))] 0 1))<0)) (.obp (nz PV) (.obt (.cb (.obp (nz PV) (.obt (.cb (.ret (V.tup [D (cE (dS (g9 4 (A L (b9 [D (E (1000*aW T S W U)),D (E (1000*aW T S O x5)),D (E (1000*aW T S x6 Z)),D (E (1000*aW T S Y x9))] 0 1))) PV)),D (cE (eV (ga 4 (A L (b9 [D (E (1000*aW T S W U)),D (E (1000*aW T S O x5)),D (E (1000*aW T S x6 Z)),D (E (1000*aW T S Y x9))] 0 1))) PV))])))))))) (.obp (nz PV) (.obt (.cb (.obp (nz PT) (.obt (.cb (.ret (V.tup [D (cE (dS (g9 4 (A L (b9 [D (E (1000*aW T S W U)),D (E (1000*aW T S O x5)),D (E (1000*aW T S x6 Z)),D (E (1000*aW T S Y x9))] 0 1))) PV)),D (cE (eV (ga 4 (A L (b9 [D (E (1000*aW T S W U)),D (E (1000*aW T S O x5)),D (E (1000*aW T S x6 Z)),D (E (1000*aW T S Y x9))] 0 1))) PT))]))))))))))))))))))))))))))))))))))))))
theorem hs2:cV cX (aQ JJ Jm PD GT [V.fn 72 [V.agg [D T,D S]] [],V.pd [D W,D U,D O,D x5,D x6,D Z,D Y,D x9],V.pd [D PV],V.pd [D PT]]) (bf3 T S W U O x5 x6 Z Y x9 PV PT):=bF
def j5:Int:=bif decide (g9 4 (A L (b9 [D (E (1000*aW T S W U)),D (E (1000*aW T S O x5)),D (E (1000*aW T S x6 Z)),D (E (1000*aW T S Y x9))] 0 1))<0) then cE (dS (g9 4 (A L (b9 [D (E (1000*aW T S W U)),D (E (1000*aW T S O x5)),D (E (1000*aW T S x6 Z)),D (E (1000*aW T S Y x9))] 0 1))) PT) else cE (dS (g9 4 (A L (b9 [D (E (1000*aW T S W U)),D (E (1000*aW T S O x5)),D (E (1000*aW T S x6 Z)),D (E (1000*aW T S Y x9))] 0 1))) PV)
def kc:Int:=bif decide (ga 4 (A L (b9 [D (E (1000*aW T S W U)),D (E (1000*aW T S O x5)),D (E (1000*aW T S x6 Z)),D (E (1000*aW T S Y x9))] 0 1))<0) then cE (eV (ga 4 (A L (b9 [D (E (1000*aW T S W U)),D (E (1000*aW T S O x5)),D (E (1000*aW T S x6 Z)),D (E (1000*aW T S Y x9))] 0 1))) PV) else cE (eV (ga 4 (A L (b9 [D (E (1000*aW T S W U)),D (E (1000*aW T S O x5)),D (E (1000*aW T S x6 Z)),D (E (1000*aW T S Y x9))] 0 1))) PT)
def uq:V:=.tup [D (j5 T S W U O x5 x6 Z Y x9 PV PT),D (kc T S W U O x5 x6 Z Y x9 PV PT)]
theorem ig7 (hp:(PV=0->False)/\(PT=0->False)):aU cN (bf3 T S W U O x5 x6 Z Y x9 PV PT) (uq T S W U O x5 x6 Z Y x9 PV PT):=dX (ac (ac (ac (AM (ac (ac (dX (ac (ac (ac (AM (ac (ac (dX (ac (ac (ac (AM (ac (ac (dX (ac (ac (ac (AM (ac (ac (gQ (aI (by first|assumption|((first|exact hp.1|exact hp.2|decide))) (ac (aI (by first|assumption|((first|exact hp.1|exact hp.2|decide))) (ac (AP (λh0=>AP (λM=>aI (by first|assumption|((first|exact hp.1|exact hp.2|decide))) (ac (AM (ac (aI (by first|assumption|((first|exact hp.1|exact hp.2|decide))) (ac (AM (ac (AF (by unfold uq j5 kc;try rw[h0];try rw[M];rfl)))))))))) (λM=>aI (by first|assumption|((first|exact hp.1|exact hp.2|decide))) (ac (AM (ac (aI (by first|assumption|((first|exact hp.1|exact hp.2|decide))) (ac (AM (ac (AF (by unfold uq j5 kc;try rw[h0];try rw[M];rfl))))))))))) (λh0=>AP (λM=>aI (by first|assumption|((first|exact hp.1|exact hp.2|decide))) (ac (AM (ac (aI (by first|assumption|((first|exact hp.1|exact hp.2|decide))) (ac (AM (ac (AF (by unfold uq j5 kc;try rw[h0];try rw[M];rfl)))))))))) (λM=>aI (by first|assumption|((first|exact hp.1|exact hp.2|decide))) (ac (AM (ac (aI (by first|assumption|((first|exact hp.1|exact hp.2|decide))) (ac (AM (ac (AF (by unfold uq j5 kc;try rw[h0];try rw[M];rfl))))))))))))))))))))))))))))))))))))))))))))
def evL:aD:=bP [.fn 72 [.agg aM] [],.pd [tI,tI,tI,tI,tI,tI,tI,tI],.pd L,.pd L] (λ
 |[.fn _ [.agg [.int _ T,.int _ S]] [],.pd [.int _ W,.int _ U,.int _ O,.int _ x5,.int _ x6,.int _ Z,.int _ Y,.int _ x9],.pd [.int _ PV],.pd [.int _ PT]]=>(PV=0->False)/\(PT=0->False)|_=>False) λ
 |[.fn _ [.agg [.int _ T,.int _ S]] [],.pd [.int _ W,.int _ U,.int _ O,.int _ x5,.int _ x6,.int _ Z,.int _ Y,.int _ x9],.pd [.int _ PV],.pd [.int _ PT]]=>uq T S W U O x5 x6 Z Y x9 PV PT|_=>.any
theorem ie5:b7 evL 68:=aT GG λ_ hp=>c7 (hs2 ..) (ig7 _ _ _ _ _ _ _ _ _ _ _ _ hp)
def crT:RT Empty:=.brt (.obt (.obt (.obt (.cb (.obt (.brt (.obt (.obt (.obt (.cb (.obt (.brt (.obt (.obt (.obt (.cb (.obt (.brt (.obt (.obt (.obt (.cb (.obt (.brf (.obp ((1:Nat)<=(4:Nat)) (.obt (.obp ((1:Nat)<=(4:Nat)) (.obt (.br (decide (g9 4 (A L (b9 [D (E (1000*aX T S W U)),D (E (1000*aX T S O x5)),D (E (1000*aX T S x6 Z)),D (E (1000*aX T S Y x9))] 0 1))<0)) (.br (decide (ga 4 (A L (b9 [D (E (1000*aX T S W U)),D (E (1000*aX T S O x5)),D (E (1000*aX T S x6 Z)),D (E (1000*aX T S Y x9))] 0 1))<0)) (.obp (nz PT) (.obt (.cb (.obp (nz PV) (.obt (.cb (.ret (V.tup [D (cE (dS (g9 4 (A L (b9 [D (E (1000*aX T S W U)),D (E (1000*aX T S O x5)),D (E (1000*aX T S x6 Z)),D (E (1000*aX T S Y x9))] 0 1))) PT)),D (cE (eV (ga 4 (A L (b9 [D (E (1000*aX T S W U)),D (E (1000*aX T S O x5)),D (E (1000*aX T S x6 Z)),D (E (1000*aX T S Y x9))] 0 1))) PV))])))))))) (.obp (nz PT) (.obt (.cb (.obp (nz PT) (.obt (.cb (.ret (V.tup [D (cE (dS (g9 4 (A L (b9 [D (E (1000*aX T S W U)),D (E (1000*aX T S O x5)),D (E (1000*aX T S x6 Z)),D (E (1000*aX T S Y x9))] 0 1))) PT)),D (cE (eV (ga 4 (A L (b9 [D (E (1000*aX T S W U)),D (E (1000*aX T S O x5)),D (E (1000*aX T S x6 Z)),D (E (1000*aX T S Y x9))] 0 1))) PT))]))))))))) (.br (decide (ga 4 (A L (b9 [D (E (1000*aX T S W U)),D (E (1000*aX T S O x5)),D (E (1000*aX T S x6 Z)),D (E (1000*aX T S Y x9))] 0 1))<0)) (.obp (nz PV) (.obt (.cb (.obp (nz PV) (.obt (.cb (.ret (V.tup [D (cE (dS (g9 4 (A L (b9 [D (E (1000*aX T S W U)),D (E (1000*aX T S O x5)),D (E (1000*aX T S x6 Z)),D (E (1000*aX T S Y x9))] 0 1))) PV)),D (cE (eV (ga 4 (A L (b9 [D (E (1000*aX T S W U)),D (E (1000*aX T S O x5)),D (E (1000*aX T S x6 Z)),D (E (1000*aX T S Y x9))] 0 1))) PV))])))))))) (.obp (nz PV) (.obt (.cb (.obp (nz PT) (.obt (.cb (.ret (V.tup [D (cE (dS (g9 4 (A L (b9 [D (E (1000*aX T S W U)),D (E (1000*aX T S O x5)),D (E (1000*aX T S x6 Z)),D (E (1000*aX T S Y x9))] 0 1))) PV)),D (cE (eV (ga 4 (A L (b9 [D (E (1000*aX T S W U)),D (E (1000*aX T S O x5)),D (E (1000*aX T S x6 Z)),D (E (1000*aX T S Y x9))] 0 1))) PT))]))))))))))))))))))))))))))))))))))))))
theorem hz':cV cX (aQ JJ Jm PD GT [V.fn 73 [V.agg [D T,D S]] [],V.pd [D W,D U,D O,D x5,D x6,D Z,D Y,D x9],V.pd [D PV],V.pd [D PT]]) (crT T S W U O x5 x6 Z Y x9 PV PT):=bF
def ka:Int:=bif decide (g9 4 (A L (b9 [D (E (1000*aX T S W U)),D (E (1000*aX T S O x5)),D (E (1000*aX T S x6 Z)),D (E (1000*aX T S Y x9))] 0 1))<0) then cE (dS (g9 4 (A L (b9 [D (E (1000*aX T S W U)),D (E (1000*aX T S O x5)),D (E (1000*aX T S x6 Z)),D (E (1000*aX T S Y x9))] 0 1))) PT) else cE (dS (g9 4 (A L (b9 [D (E (1000*aX T S W U)),D (E (1000*aX T S O x5)),D (E (1000*aX T S x6 Z)),D (E (1000*aX T S Y x9))] 0 1))) PV)
def kj:Int:=bif decide (ga 4 (A L (b9 [D (E (1000*aX T S W U)),D (E (1000*aX T S O x5)),D (E (1000*aX T S x6 Z)),D (E (1000*aX T S Y x9))] 0 1))<0) then cE (eV (ga 4 (A L (b9 [D (E (1000*aX T S W U)),D (E (1000*aX T S O x5)),D (E (1000*aX T S x6 Z)),D (E (1000*aX T S Y x9))] 0 1))) PV) else cE (eV (ga 4 (A L (b9 [D (E (1000*aX T S W U)),D (E (1000*aX T S O x5)),D (E (1000*aX T S x6 Z)),D (E (1000*aX T S Y x9))] 0 1))) PT)
def uu:V:=.tup [D (ka T S W U O x5 x6 Z Y x9 PV PT),D (kj T S W U O x5 x6 Z Y x9 PV PT)]
theorem id2 (hp:(PV=0->False)/\(PT=0->False)):aU cN (crT T S W U O x5 x6 Z Y x9 PV PT) (uu T S W U O x5 x6 Z Y x9 PV PT):=dX (ac (ac (ac (AM (ac (ac (dX (ac (ac (ac (AM (ac (ac (dX (ac (ac (ac (AM (ac (ac (dX (ac (ac (ac (AM (ac (ac (gQ (aI (by first|assumption|((first|exact hp.1|exact hp.2|decide))) (ac (aI (by first|assumption|((first|exact hp.1|exact hp.2|decide))) (ac (AP (λh0=>AP (λM=>aI (by first|assumption|((first|exact hp.1|exact hp.2|decide))) (ac (AM (ac (aI (by first|assumption|((first|exact hp.1|exact hp.2|decide))) (ac (AM (ac (AF (by unfold uu ka kj;try rw[h0];try rw[M];rfl)))))))))) (λM=>aI (by first|assumption|((first|exact hp.1|exact hp.2|decide))) (ac (AM (ac (aI (by first|assumption|((first|exact hp.1|exact hp.2|decide))) (ac (AM (ac (AF (by unfold uu ka kj;try rw[h0];try rw[M];rfl))))))))))) (λh0=>AP (λM=>aI (by first|assumption|((first|exact hp.1|exact hp.2|decide))) (ac (AM (ac (aI (by first|assumption|((first|exact hp.1|exact hp.2|decide))) (ac (AM (ac (AF (by unfold uu ka kj;try rw[h0];try rw[M];rfl)))))))))) (λM=>aI (by first|assumption|((first|exact hp.1|exact hp.2|decide))) (ac (AM (ac (aI (by first|assumption|((first|exact hp.1|exact hp.2|decide))) (ac (AM (ac (AF (by unfold uu ka kj;try rw[h0];try rw[M];rfl))))))))))))))))))))))))))))))))))))))))))))
def fo3:aD:=bP [.fn 73 [.agg aM] [],.pd [tI,tI,tI,tI,tI,tI,tI,tI],.pd L,.pd L] (λ
 |[.fn _ [.agg [.int _ T,.int _ S]] [],.pd [.int _ W,.int _ U,.int _ O,.int _ x5,.int _ x6,.int _ Z,.int _ Y,.int _ x9],.pd [.int _ PV],.pd [.int _ PT]]=>(PV=0->False)/\(PT=0->False)|_=>False) λ
 |[.fn _ [.agg [.int _ T,.int _ S]] [],.pd [.int _ W,.int _ U,.int _ O,.int _ x5,.int _ x6,.int _ Z,.int _ Y,.int _ x9],.pd [.int _ PV],.pd [.int _ PT]]=>uu T S W U O x5 x6 Z Y x9 PV PT|_=>.any
theorem ic12:b7 fo3 68:=aT GG λ_ hp=>c7 (hz' ..) (id2 _ _ _ _ _ _ _ _ _ _ _ _ hp)
def JI (p:List V->Bool) (QG B:aD):aD:=λds=>cond (p ds) (QG ds) (B ds)
theorem HD {P:Program} {f:FuncId} (p:List V->Bool) (QG B:aD) (hA:(vP QG).Ok P f) (hB:(vP B).Ok P f):(vP (JI p QG B)).Ok P f:=by
 have key:∀ {w0 args lh PR},vP (JI p QG B) w0 args lh PR->vP QG w0 args lh PR∨vP B w0 args lh PR:=by
  intro w0 args lh PR ⟨ds,d,yap,r,M,Q,h3⟩;unfold JI at Q;cases hc:p ds with
  |true=>rw[hc]at Q;exact .inl ⟨ds,d,yap,r,M,Q,h3⟩|false=>rw[hc]at Q;exact .inr ⟨ds,d,yap,r,M,Q,h3⟩
 exact ⟨λB m lh w args vs PR hrel hargs Rh=>(key Rh).elim (λh=>hA.1 B m lh w args vs PR hrel hargs h) (λh=>hB.1 B m lh w args vs PR hrel hargs h),
  λ_ _ _ _ _ hk ⟨ds,d,p,r,M,Q,h3,h4,h5⟩=>⟨ds,d,p,r,M,Q,h3,h4,hk _ _ h5⟩,λ_ _ _ _ ⟨_,_,_,_,_,_,_,_,h⟩=>h⟩
def alQ:List V->Bool
 |.fn n _ _::_=>Nat.beq n (match (.fn 72 [] []:V) with|.fn k _ _=>k|_=>0)|_=>false
def ad8:aD:=JI alQ evL fo3
theorem afg:(vP ad8).Ok Tryz.prog 68:=HD _ _ _ ie5 ic12
end
end Go.Dx
namespace Go.Dx
open Go.IntKind (i64 u64 u8)
open Go.Sx
variable (H:Nat) (G:be) (T S:Int) (R:Nat) (N:be) (W U:Int) (n4:Nat) (f4:be) (n6:Nat) (f6:be)
noncomputable section
theorem td (a l h:Int):dC a l h=!bY a l h:=by
 unfold dC bY;by_cases M:a<l
 ·rw[AG M,eM (show ¬l<=a by omega)];rfl
 ·rw[eM M,AG (show l<=a by omega)]
  by_cases Q:h<a
  ·rw[AG Q,cond_false,cond_true];exact eM K
  ·rw[eM Q,cond_false,cond_true];exact AG K
theorem ql {n:Nat} {p PX:Nat->Bool} (h:∀ i,i<n->p i=PX i):gW n p=gW n PX:=by
 cases hq:gW n PX with
 |true=>obtain⟨i,hi,hp⟩:=B1.1 hq;exact cZ i hi (by rw[h i hi];exact hp)
 |false=>
   refine da λi hi=>?_;rw[h i hi];cases hp:PX i with
   |false=>rfl|true=>rw[cZ i hi hp]at hq;cases hq
theorem kd (n:Nat) (f:be):kB n f=!wj n f:=by unfold kB D9 LS;rw[mz];unfold gW wj;congr 1;congr 1;funext i;rw[td];rfl
theorem jf0 (s:ByteArray):∀ (k i:Nat) (r:List UInt8),s.size-i=k->(ByteArray.toList.loop s i r).length=r.length+k:=by
 intro k;induction k with
 |zero=>
   intro i r h;rw[ByteArray.toList.loop];have:¬i<s.size:=by omega
   simp[this]
 |succ k ih=>
   intro i r h;rw[ByteArray.toList.loop];have:i<s.size:=by omega
   simp only[this,Dk];rw[ih (i+1) _ K];simp;omega
theorem ayc (s:ByteArray):(s.toList==(⟨#[]⟩:ByteArray).toList)=decide (s.size=0):=by
 have e:(⟨#[]⟩:ByteArray).toList=[]:=by decide +kernel
 rw[e];have hl:s.toList.length=s.size:=by unfold ByteArray.toList;rw[jf0 s s.size 0 [] K];simp
 by_cases h:s.size=0
 ·rw[AG h];have:s.toList=[]:=List.eq_nil_of_length_eq_zero K;rw[this];rfl
 ·rw[eM h]
  cases hs:s.toList with
  |nil=>rw[hs]at hl;simp at hl;omega|cons a l=>rfl
theorem mR {α:Type} {p:α->Bool}:∀ {l:List α},l.dropWhile p=[]↔∀ x∈l,p x=true
 |[]=>by simp
 |a::l=>by
   rw[List.dropWhile_cons];cases h:p a with
   |true=>simp only[Dk];rw[mR];simp[h]|false=>simp[h]
theorem hx1 (l cs:List UInt8):Lib.trimS l cs=[]↔∀ b∈l,cs.contains b=true:=by
 unfold Lib.trimS Lib.trimLeftS Lib.trimRightS;rw[mR];constructor
 ·intro h
  have M:l.reverse.dropWhile (cs.contains ·)=[]:=by
   cases hd:l.reverse.dropWhile (cs.contains ·) with
   |nil=>rfl
   |cons a r=>have ha:cs.contains a=true:=h a (by rw[hd];simp);have hh:=List.head_dropWhile_not (cs.contains ·) (l:=l.reverse) (by rw[hd];simp);simp only[hd,List.head_cons]at hh;rw[ha]at hh;cases hh
  rw[mR]at M;exact λb hb=>M b (by simpa using hb)
 ·intro h b hb
  have:b∈l.reverse:=by have:=List.mem_reverse.1 hb;exact(List.dropWhile_sublist _).subset this
  exact h b (by simpa using this)
def JH (b:Nat):Bool:=(decide (97<=b)&&decide (b<=122))||((decide (48<=b)&&decide (b<=57))||decide (b=45))
theorem A6 (b:UInt8):([97,98,99,100,101,102,103,104,105,106,107,108,109,110,111,112,113,114,115,116,117,118,119,120,121,122,48,49,50,51,52,53,54,55,56,57,45]:List UInt8).contains b=JH b.toNat:=by
 have key:∀n:Fin 256,([97,98,99,100,101,102,103,104,105,106,107,108,109,110,111,112,113,114,115,116,117,118,119,120,121,122,48,49,50,51,52,53,54,55,56,57,45]:List UInt8).contains (UInt8.ofNat n.val)=JH n.val:=by decide +kernel
 have:=key ⟨b.toNat,b.toNat_lt⟩;simpa using this
theorem avL {l:List UInt8} {i:Nat} (h:i<l.length):l.getD i 0=l[i]:=by simp[List.getD,h]
theorem Ci (s:ByteArray) (i:Nat):(!F2 s i)=(JH (s.data.toList.getD i 0).toNat&&(decide (0<i)||(decide (97<=(s.data.toList.getD i 0).toNat)&&decide ((s.data.toList.getD i 0).toNat<=122)))):=by unfold F2 JH;generalize (s.data.toList.getD i 0).toNat=b;rw[Fl];simp only[J1,EY,Ae,F9,DJ];split<;>split<;>(try split)<;>simp_all<;>omega
theorem avE (s:ByteArray):o9 s=nQ s:=by
 unfold o9 nQ;rw[ayc];have Qu:s.size=s.data.toList.length:=by rw[Iw];rfl
 by_cases h0:s.size=0
 ·rw[AG h0,h0];rfl
 rw[eM h0];have e0:decide (0<(s.size:Int))=true:=AG K;rw[e0];by_cases kJ:(s.size:Int)<=24
 case neg=>rw[eM kJ];simp
 rw[AG kJ];simp only[Ff,cond_true,Jd];rw[ayc];rw[Fl];have ht:(z6 s (ByteArray.mk (Array.mk [97,98,99,100,101,102,103,104,105,106,107,108,109,110,111,112,113,114,115,116,117,118,119,120,121,122,48,49,50,51,52,53,54,55,56,57,45]))).size=0↔∀ b∈s.data.toList,JH b.toNat=true:=by
  rw[show(z6 s (ByteArray.mk (Array.mk [97,98,99,100,101,102,103,104,105,106,107,108,109,110,111,112,113,114,115,116,117,118,119,120,121,122,48,49,50,51,52,53,54,55,56,57,45]))).size=(Lib.trimS s.data.toList [97,98,99,100,101,102,103,104,105,106,107,108,109,110,111,112,113,114,115,116,117,118,119,120,121,122,48,49,50,51,52,53,54,55,56,57,45]).length from by simp[z6,ByteArray.size]];rw[List.length_eq_zero_iff,hx1];constructor
  ·intro h b hb;rw[← A6];exact h b hb
  ·intro h b hb;rw[A6];exact h b hb
 have hb:dz s.size (λi=>!F2 s i)=true↔(∀ b∈s.data.toList,JH b.toNat=true)/\97<=(s.data.toList.getD 0 0).toNat/\(s.data.toList.getD 0 0).toNat<=122:=by
  rw[uG];constructor
  ·intro h
   refine⟨λb hb=>?_,?_⟩
   ·obtain⟨i,hi,rfl⟩:=List.getElem_of_mem hb;have:=h i K;rw[Ci,Ae]at this;rw[avL hi]at this;exact this.1
   ·have:=h 0 K
    rw[Ci]at this;simp only[Ae,F9,DJ]at this;rcases this.2 with M|M
    ·omega
    ·exact M
  ·rintro⟨M,Q,h3⟩ i hi
   rw[Ci];have RI:i<s.data.toList.length:=by omega
   rw[M _ (by rw[avL RI];exact List.getElem_mem RI)];by_cases hz:i=0
   ·subst hz;rw[AG Q,AG h3];rfl
   ·simp;omega
 rw[hb,← ht];cases hd:decide ((z6 s (ByteArray.mk (Array.mk [97,98,99,100,101,102,103,104,105,106,107,108,109,110,111,112,113,114,115,116,117,118,119,120,121,122,48,49,50,51,52,53,54,55,56,57,45]))).size=0) with
 |false=>have:=D2 hd;simp[this]
 |true=>
   have:=As hd;simp only[cond_true,this,D5];rw[show s.data.1.getD 0 0=s.data.toList.getD 0 0 from rfl];generalize (s.data.toList.getD 0 0).toNat=b;by_cases g:97<=b
   ·rw[AG (show(97:Int)<=(b:Int) by omega)];simp only[cond_true,DJ];omega
   ·rw[eM (show ¬(97:Int)<=(b:Int) by omega)];simp;omega
theorem yaF (x y:Int):uA x y=!nY x y:=by unfold uA nY;exact kd _ _
section
variable (n:Nat) (f:be)
include n f
theorem agT (s:ByteArray):vk n f s=gW n λk=>(sv (av (f k))).toList==s.toList:=by unfold vk Mv;rw[mz];rfl
theorem x24 (s:ByteArray):uf n f s=gW n λk=>(sv (av (f k))).toList==s.toList:=by unfold uf Mc;rw[mz];rfl
theorem alW:lX n f=gW n λi=>!nY (aA (f i)) (aR (f i)):=by unfold lX LJ;rw[mz];exact ql λi _=>yaF _ _
end
theorem axn (i:Nat):Kp H (A aZ G) i=cR H G i:=by unfold Kp cR GE GR Q1;rw[avE,agT,alW];simp only[Bt,Nat.sub_zero,DZ,td,Ez];rfl
theorem avp (i:Nat):OA R (A bj N) i=cT N i:=by
 show pO (aA (N i)) (aR (N i)) (bX (N i)) (bf (N i)) (cq (N i))=_;unfold cT pO xt;rw[kd];show(bif !!nY _ _ then _ else _)=_;generalize nY _ _=p;generalize bX (N i)=a;generalize bf (N i)=z;generalize cq (N i)=w;cases p
 ·rfl
 ·simp only [Fs,Ff,cond_true]
  rw[td];cases ha:bY a 1 20000
  ·simp only [Ff,Fs,cond_true,cond_false]
   by_cases hw:1<=w/\w<=1000
   ·have e:bY w 1 1000=false:=by unfold bY;rw[eM K,cond_false];exact eM K
    rw[e,AX K K];unfold bY;by_cases hz:z<0
    ·rw[AG hz];rfl
    ·rw[eM hz]
     by_cases WA:w<=z
     ·rw[AG (show w-1<z by omega),AG WA];rfl
     ·rw[eM (show ¬w-1<z by omega),eM WA,eM (show ¬1000<w by omega)];rfl
   ·have e:bY w 1 1000=true:=by
     unfold bY;by_cases M:w<1
     ·rw[AG M];rfl
     ·rw[eM M,cond_false];exact AG K
    rw[e];have:(bif bif decide (z<0) then true else decide (w<=z) then true else decide (1000<w))=true:=by
     by_cases hz:z<0
     ·rw[AG hz];rfl
     ·rw[eM hz,cond_false]
      by_cases Q:w<=z
      ·rw[AG Q];rfl
      ·rw[eM Q,cond_false];exact AG K
    rw[this];cases !bY z 0 (E (w-1))<;>rfl
  ·rfl
theorem afm:mS T S W U=bif bif bif bif bif decide (T<0) then true else decide (S<=T) then true else decide (1000<S) then true else decide (W<0) then true else decide (U<=W) then true else decide (1000<U):=by
 have key:∀ a b:Int,((bif !bY b 1 1000 then bY a 0 (E (b-1)) else true)=true)↔(a<0∨b<=a∨1000<b):=by
  intro a b;unfold bY;by_cases M:b<1
  ·rw[AG M];simp;omega
  ·rw [eM M]
   by_cases Q:1000<b
   ·rw[AG Q];simp;omega
   ·rw[eM Q,AX K K];simp only[cond_false,Ff,cond_true,J1];split<;>simp_all<;>omega
 have e1:=key T S;have e2:=key W U;have:mS T S W U=(bif !(bif !bY S 1 1000 then bY T 0 (E (S-1)) else true) then(bif !bY U 1 1000 then bY W 0 (E (U-1)) else true) else true):=by unfold mS;cases bY S 1 1000<;>cases bY T 0 (E (S-1))<;>rfl
 rw[this];generalize (bif !bY S 1 1000 then bY T 0 (E (S-1)) else true)=p at e1 ⊢;generalize (bif !bY U 1 1000 then bY W 0 (E (U-1)) else true)=PX at e2 ⊢;rw[Fl];simp only[J1];cases p<;>cases PX<;>simp_all<;>omega
theorem Ret (i:Nat):OB n4 (A bm f4) i=cF f4 i:=by
 show pT (aA (f4 i)) (aR (f4 i)) (bX (f4 i)) (bf (f4 i)) (aw (av (I (I (I (I (f4 i))))))) (λj=>ap gP (bz (av (I (I (I (I (f4 i)))))) j))=_;unfold cF pT GY;rw[kd];have:∀n (f:be),ud n f=gW n λj=>Oi (f j):=by intro n f;unfold ud MK;rw[mz];exact ql λj _=>by rw[afm];rfl
 rw[this];rfl
theorem axU (p PX r t:Bool) (B:Int):(bif p then bif !PX then bif !r then bif t then 7 else B else 7 else 7 else 7)=(bif bif bif bif !p then true else PX then true else r then true else t then 7 else B):=by cases p<;>cases PX<;>cases r<;>cases t<;>rfl
theorem fc7 (i:Nat):Kq n6 (A aV f6) i=cC n6 f6 i:=by unfold Kq cC nh R8;rw[avE,x24,kd];simp only[Bt,Nat.sub_zero,DZ];unfold MD;simp only[td,Ez];rw[axU];rfl
theorem fI {n:Nat} {c d:Nat->Int} (h:∀i,c i=d i):gr n c=gr n d/\d9 n c=d9 n d:=by have:c=d:=funext h;rw[this];exact⟨rfl,rfl⟩
theorem ic3 :
 (nE H G R N n4 f4 n6 f6,nu H G R N n4 f4 n6 f6,j6 H G R N n4 f4 n6 f6)=G5 H G R N n4 f4 n6 f6:=by
 unfold nE nu j6 G5 MO z1 z2 z3 Ay A0 FZ Aa ri AH qV A4 qY;rw[(fI (axn H G)).1,(fI (axn H G)).2,(fI (avp R N)).1,(fI (avp R N)).2,(fI (Ret n4 f4)).1,(fI (Ret n4 f4)).2,(fI (fc7 n6 f6)).1,(fI (fc7 n6 f6)).2];cases (bif bif bif decide (8<(H:Int)) then true else decide (12<(R:Int)) then true else decide (8<(n4:Int)) then true else decide (24<(n6:Int)))
 ·simp only [cond_false]
  cases M:d9 H (cR H G)!=0
  ·simp only [cond_false]
   cases Q:d9 R (cT N)!=0
   ·simp only [cond_false]
    cases h3:d9 n4 (cF f4)!=0
    ·simp only[cond_false]
     cases h4:d9 n6 (cC n6 f6)!=0
     ·rfl
     ·rfl
    ·rfl
   ·rfl
  ·rfl
 ·rfl
theorem arf (ts:List Ty) (f:be):A ts (A ts f)=A ts f:=by funext i;exact eb ts _
theorem hnk {n:Nat} {c:Nat->Int} (h:d9 n c=0):∀ i,i<n->c i=0:=by
 unfold d9 at h;rcases hat (n:=n) (p:=λi=>c i !=0) with ⟨_,Q⟩|⟨j,M,Q,h3,_⟩
 ·intro i hi;have:=Q i hi;simpa using this
 ·rw[Q]at h
  have:((j:Int)==-1)=false:=by rw[KV];omega
  rw[this,cond_false,Bt]at h;rw[h]at h3;cases h3
section
variable {H:Nat} {G:be} {R:Nat} {N:be} {n4:Nat} {f4:be} {n6:Nat} {f6:be} {i j m l:Int}
structure ad4 (H:Nat) (G:be) (R:Nat) (N:be) (n4:Nat) (f4:be) (n6:Nat) (f6:be):Prop where
 l0:H<=8
 l2:R<=12
 l4:n4<=8
 l6:n6<=24
 rd:∀i,i<H->cR H G i=0
 tr:∀i,i<R->cT N i=0
 fr:∀i,i<n4->cF f4 i=0
 cl:∀i,i<n6->cC n6 f6 i=0
theorem lD {n:Nat} {c:Nat->Int} {k:Int} {z:Int×Int×Int} (h:(Ay n c k z).2.2=0):(∀ i,i<n->c i=0)/\z.2.2=0:=by
 unfold Ay at h;cases hb:d9 n c !=0 with
 |true=>rw[hb]at h;simp only[cond_true]at h;rw[h]at hb;cases hb
 |false=>rw[hb]at h;exact⟨hnk (by simpa using hb),h⟩
theorem Fx (h:gR H G R N n4 f4 n6 f6=0):ad4 H G R N n4 f4 n6 f6:=by
 unfold gR G5 at h;cases hl:MO H G R N n4 f4 n6 f6 with
 |true=>rw[hl]at h;cases h
 |false=>
   rw[hl,cond_false]at h;obtain⟨M,h⟩:=lD h;unfold z1 at h;obtain⟨Q,h⟩:=lD h;unfold z2 at h;obtain⟨h3,h⟩:=lD h;unfold z3 at h;obtain⟨h4,_⟩:=lD h;unfold MO at hl;simp only[J1,Bool.ite_eq_false_distrib]at hl;have:H<=8/\R<=12/\n4<=8/\n6<=24:=by refine⟨?_,?_,?_,?_⟩<;>(apply Classical.byContradiction;intro hn)<;>simp_all<;>omega
   exact⟨this.1,this.2.1,this.2.2.1,this.2.2.2,M,Q,h3,h4⟩
def SF (i m:Int):Bool:=bif decide (i<0) then true else decide (m<=i)
def Di (e i m:Int):Int:=bif e==0 then(bif SF i m then 4 else 0) else e
theorem GN:j6 H G R N n4 f4 n6 f6=gR H G R N n4 f4 n6 f6:=congrArg (λt=>t.2.2) (ic3 H G R N n4 f4 n6 f6)
theorem m44 {i:Int} {m:Nat} (hm:m<=9223372036854775807):bY i 0 (E ((m:Int)-1))=SF i m:=by
 unfold bY SF;rw[AX K K];by_cases h:i<0
 ·rw[AG h];rfl
 ·rw[eM h,cond_false,cond_false]
  by_cases g:(m:Int)<=i
  ·rw[AG g];exact AG K
  ·rw[eM g];exact eM K
theorem asT {i:Int} {m:Nat} (hm:gR H (A aZ G) R (A bj N) n4 (A bm f4) n6 (A aV f6)=0->m<=9223372036854775807) :
 M1 H (A aZ G) R (A bj N) n4 (A bm f4) n6 (A aV f6) 2 (A L (b9 [D i,D m] 0 1))=Di (gR H (A aZ G) R (A bj N) n4 (A bm f4) n6 (A aV f6)) i m:=by
 unfold M1 Zt Di;simp only[arf,GN];cases he:gR H (A aZ G) R (A bj N) n4 (A bm f4) n6 (A aV f6)==0 with
 |false=>rfl
 |true=>rw[cond_true,cond_true];have:=hm (DU he);rw[← m44 this];show(bif !(true&&!bY i 0 (E ((m:Int)-1))) then _ else _)=_;rw[Bool.true_and,Ez]
theorem aeH {i m:Int}:jv H (A aZ G) R (A bj N) n4 (A bm f4) n6 (A aV f6) i m=Di (gR H (A aZ G) R (A bj N) n4 (A bm f4) n6 (A aV f6)) i m:=by
 unfold jv sW Di SF;simp only[arf];generalize gR H (A aZ G) R (A bj N) n4 (A bm f4) n6 (A aV f6)=e;by_cases he:e=0
 ·subst he;cases (bif decide (i<0) then true else decide (m<=i))<;>rfl
 ·rw[show(e==0)=false from by simpa using he];rfl
end
end
end Go.Dx
namespace Go.Dx
open Go.IntKind (i64 u64 u8)
open Go.Sx Go.Proofs
variable (H:Nat) (G:be) (T S:Int) (R:Nat) (N:be) (W U O:Int) (n5:Nat) (q:be) (x5:Int) (n7:Nat) (f7:be) (n9:Nat) (f9:be) (PS:Nat) (At:be) (Pi:Nat) (Pf:be) (Pm:Nat) (Ph:be) (Pb:Int)
noncomputable section
structure zi (H:Nat) (G:be) (R:Nat) (N:be):Prop where
 l0:H<=10
 l2:R<=20
 tb:∀i,i<H->iJ (A al G) i=0
 lm:∀i,i<R->mg H (A ao N) i=0
theorem uE {H:Nat} {G:be} {R:Nat} {N:be} (h:bW H G R N=0):zi H G R N:=by
 unfold bW zB at h;cases hl:(bif decide (10<(H:Int)) then true else decide (20<(R:Int))) with
 |true=>rw[hl]at h;cases h
 |false=>
   rw[hl]at h;obtain⟨M,Q⟩:=lD h;obtain⟨h3,_⟩:=lD Q;have a:(decide (10<(H:Int)))=false:=by cases hh:decide (10<(H:Int)) with|false=>rfl|true=>rw[hh]at hl;cases hl
   rw[a]at hl;have b:=D2 hl;have a:=D2 a;exact⟨K,K,M,h3⟩
theorem wZ {x a b:Int} (h:aG x a b=true):a<=x/\x<=b:=by
 unfold aG at h;cases M:decide (a<=x) with
 |false=>rw[M]at h;cases h|true=>rw[M]at h;exact⟨As M,As h⟩
theorem Oa {a b:Bool} (h:M0 a b=false):a=true/\b=true:=by unfold M0 at h;cases a<;>cases b<;>first|exact⟨rfl,rfl⟩|cases h
def Ec (x:List V):Nat:=aw (av (I (I (I x))))
def zM (x:List V):Nat->List V:=bz (av (I (I (I x))))
structure qR (x:List V):Prop where
 u:2<=aw (av (I x))/\aw (av (I x))<=12
 v:2<=aw (av (I (I x)))/\aw (av (I (I x)))<=12
 n:Ec x=aw (av (I x))
 row:∀i,i<Ec x->aw (av (zM x i))=aw (av (I (I x)))
 side:0<=cq x/\cq x<=10000000
 sky:0<=bG x/\bG x<=10000000
 val:∀i,i<Ec x->∀j,j<aw (av (zM x i))->0<=aA (bz (av (zM x i)) j)/\aA (bz (av (zM x i)) j)<=10000000
theorem lP {b:Bool} {k z:Int} (h:(bif b then k else z)=0) (hk:k≠0):b=false/\z=0:=by
 cases b with
 |true=>exact absurd h hk|false=>exact⟨rfl,h⟩
theorem Ck {b:Bool} (h:(!b)=false):b=true:=by cases b<;>first|rfl|cases h
theorem FK {a b:Bool} (h:(a&&b)=true):a=true/\b=true:=by cases a<;>cases b<;>first|exact⟨rfl,rfl⟩|cases h
theorem axY {n:Nat} {p:Nat->Bool} (h:gW n p=false):∀ i,i<n->p i=false:=λi hi=>by
 cases hp:p i with
 |false=>rfl|true=>rw[cZ i hi hp]at h;cases h
theorem BE {G:be} {a:Nat} (h:iJ (A al G) a=0):qR (G a):=by
 unfold iJ at h;obtain⟨_,h⟩:=lP h aO;obtain⟨_,h⟩:=lP h aO;unfold Gk at h;obtain⟨M,h⟩:=lP h aO;obtain⟨_,h⟩:=lP h aO;obtain⟨_,h⟩:=lP h aO;obtain⟨Q,h⟩:=lP h aO;obtain⟨h3,h⟩:=lP h aO;obtain⟨h4,_⟩:=lP h aO;obtain⟨u,v⟩:=Oa M;have u:=wZ u;have v:=wZ v;have g:m8 (cq (G a)) (bG (G a))=true:=(FK (Ck h4)).1;have w:dz (Ec (G a)) (jF (aw (av (I (I (G a))))) (A [.sl L] (zM (G a))))=true:=(FK (Ck h4)).2;have row:∀i,i<Ec (G a)->aw (av (zM (G a) i))=aw (av (I (I (G a)))):=λi hi=>by have:=axY h3 i hi;have:((aw (av (zM (G a) i)):Int)!=(aw (av (I (I (G a)))):Int))=false:=this;have:=DU (by simpa using this:((aw (av (zM (G a) i)):Int)==(aw (av (I (I (G a)))):Int))=true);omega
 unfold m8 at g;have g1:aG (cq (G a)) 0 10000000=true:=by
  cases hh:aG (cq (G a)) 0 10000000 with
  |true=>rfl|false=>rw[hh]at g;cases g
 rw[g1]at g
 exact ⟨⟨by have:=u.1;exact Int.ofNat_le.1 this,by have:=u.2;exact Int.ofNat_le.1 this⟩,⟨by have:=v.1;exact Int.ofNat_le.1 this,by have:=v.2;exact Int.ofNat_le.1 this⟩,
  by have:((Ec (G a):Int)!=(aw (av (I (G a))):Int))=false:=Q
     have:=DU (by simpa using this:((Ec (G a):Int)==(aw (av (I (G a))):Int))=true);omega,
  row,wZ g1,wZ g,λi hi j hj=>by rw[row i hi]at hj;exact wZ (dB (dB w i hi) j hj)⟩
structure asQ (H:Nat) (x:List V):Prop where
 t:0<=aR x/\aR x<H
 kind:1<=bX x/\bX x<=3
 lum:1<=bf x/\bf x<=1000000
theorem S2 {H:Nat} {N:be} {a:Nat} (hn:H<=10) (h:mg H (A ao N) a=0):asQ H (N a):=by unfold mg at h;obtain⟨_,h⟩:=lP h aO;obtain⟨_,h⟩:=lP h aO;unfold RU Mo at h;obtain⟨M,h⟩:=lP h aO;obtain⟨Q,h⟩:=lP h aO;obtain⟨h3,h⟩:=lP h aO;have M:=wZ (Ck M:aG (aR (N a)) 0 (E ((H:Int)-1))=true);have Q:=wZ (Ck Q:aG (bX (N a)) 1 3=true);have h3:=wZ ((FK (Ck h3)).1:aG (bf (N a)) 1 1000000=true);rw[AX K K]at M;exact⟨⟨M.1,K⟩,Q,h3⟩
def Hd (dx dy:Int):Prop:=(-1000<=dx/\dx<=1000)/\(-1000<=dy/\dy<=1000)/\(dx≠0∨dy≠0)
def Bd (x:Int):Prop:=-1000000000<=x/\x<=1000000000
theorem U6 {a b:Int} (ha:Bd a) (hb:-1000<=b/\b<=1000):-1000000000000<=a*b/\a*b<=1000000000000:=by unfold Bd at ha;have h:=Ei (show a.natAbs<=1000000000 by omega) (show b.natAbs<=1000 by omega);rw[← Int.natAbs_mul]at h;omega
theorem sqB {a:Int} (ha:-1000<=a/\a<=1000):0<=a*a/\a*a<=1000000/\(a≠0->1<=a*a):=by have h:=Ei (show a.natAbs<=1000 by omega) (show a.natAbs<=1000 by omega);rw[← Int.natAbs_mul_self' a];refine⟨K,K,λh0=>?_⟩;have:1<=a.natAbs*a.natAbs:=Ei (show 1<=a.natAbs by omega) (show 1<=a.natAbs by omega);omega
theorem JF {dx dy:Int} (h:Hd dx dy):1<=cv dx dy/\cv dx dy<=2000000:=by
 obtain⟨a,b,c⟩:=h;have M:=sqB a;have Q:=sqB b;unfold cv;rw[AX (x:=dx*dx) K K,AX (x:=dy*dy) K K,AX K K];rcases c with c|c
 ·have:=M.2.2 c;omega
 ·have:=Q.2.2 c;omega
theorem wS (x:Int):cE x=ft x:=by unfold cE ft;omega
theorem iz7 {n:Nat}:gb n<=n:=by
 have h:=(qL n).1;cases hr:gb n with
 |zero=>omega
 |succ k=>rw[hr]at h;have:=Ei (show 1<=k+1 by omega) (Ah (k+1));omega
theorem i21 {n:Nat} (h:1<=n):1<=gb n:=by
 have Q:=(qL n).2;cases hr:gb n with
 |zero=>rw[hr]at Q;omega|succ k=>omega
theorem wU {x:Int} (h:x<=3999999999999999999):eK x=dW x:=by unfold eK dW me oW;rw[show min x 4611686018427387903=x by omega,show min x 3999999999999999999=x by omega]
theorem M5 {x:Int} (h:x<=3999999999999999999):dU x=dE x:=by unfold dU dE;rw[wU h]
theorem R92 {x:Int} (M:1<=x):1<=dW x/\dW x<=3999999999999999999:=by
 unfold dW;have a:=i21 (n:=oW x) (by unfold oW;omega);have b:=iz7 (n:=oW x);have:oW x<=3999999999999999999:=by unfold oW;omega
 omega
theorem ahF {x:Int} (M:1<=x):1<=dE x:=by
 have:=R92 M;unfold dE;cases decide (E (dW x*dW x)<x) with
 |true=>show 1<=E (dW x+1);rw[AX K K];omega|false=>exact this.1
theorem rts {s:Int} (h:1<=s/\s<=2000000):Kz s:=by unfold Kz;rw[AX (x:=1000000*s) K K];exact⟨λh0=>by have:=ahF (x:=1000000*s) K;omega,λh0=>by have:=(R92 (x:=1000000*s) K).1;omega⟩
def Kj (x:Int):Prop:=-2000000000000<=x/\x<=2000000000000
theorem rr {a:Int} (h:Kj a):E (1000*a)=1000*a:=by unfold Kj at h;exact AX K K
section
variable {a b c d s:Int} (ha:Kj a) (hb:Kj b) (hc:Kj c) (hd:Kj d) (hs:1<=s/\s<=2000000)
include a b c d s ha hb hc hd hs
theorem fh6 :
 (bif decide (min (min (min (min (E (1000*a)) (E (1000*a))) (E (1000*b))) (E (1000*c))) (E (1000*d))<0)
   then cE (dS (min (min (min (min (E (1000*a)) (E (1000*a))) (E (1000*b))) (E (1000*c))) (E (1000*d))) (eK (E (1000000*s))))
   else cE (dS (min (min (min (min (E (1000*a)) (E (1000*a))) (E (1000*b))) (E (1000*c))) (E (1000*d))) (dU (E (1000000*s)))))=IZ (min (min (min (min a a) c) b) d) s:=by
 have hm:Kj (min (min (min (min a a) c) b) d):=by unfold Kj at *;omega
 rw[rr ha,rr hb,rr hc,rr hd];unfold IZ;rw[rr hm,wS,wS,wU (by rw[AX K K];omega),M5 (by rw[AX K K];omega)];rw[show min (min (min (min (1000*a) (1000*a)) (1000*b)) (1000*c)) (1000*d)=1000*min (min (min (min a a) c) b) d by omega];rw[show decide (1000*min (min (min (min a a) c) b) d<0)=decide (min (min (min (min a a) c) b) d<0) from decide_eq_decide.2 K];rfl
theorem dqt :
 (bif decide (max (max (max (max (E (1000*a)) (E (1000*a))) (E (1000*b))) (E (1000*c))) (E (1000*d))<0)
   then cE (eV (max (max (max (max (E (1000*a)) (E (1000*a))) (E (1000*b))) (E (1000*c))) (E (1000*d))) (dU (E (1000000*s))))
   else cE (eV (max (max (max (max (E (1000*a)) (E (1000*a))) (E (1000*b))) (E (1000*c))) (E (1000*d))) (eK (E (1000000*s)))))=IY (max (max (max (max a a) c) b) d) s:=by
 have hm:Kj (max (max (max (max a a) c) b) d):=by unfold Kj at *;omega
 rw[rr ha,rr hb,rr hc,rr hd];unfold IY;rw[rr hm,wS,wS,wU (by rw[AX K K];omega),M5 (by rw[AX K K];omega)];rw[show max (max (max (max (1000*a) (1000*a)) (1000*b)) (1000*c)) (1000*d)=1000*max (max (max (max a a) c) b) d by omega];rw[show decide (1000*max (max (max (max a a) c) b) d<0)=decide (max (max (max (max a a) c) b) d<0) from decide_eq_decide.2 K];rfl
end
theorem H3 {dx dy x y:Int} (h:Hd dx dy) (hx:Bd x) (hy:Bd y):Kj (E (E (x*dy)-E (y*dx))):=by have M:=U6 hx h.2.1;have Q:=U6 hy h.1;unfold Kj;rw[AX (x:=x*dy) K K,AX (x:=y*dx) K K,AX K K];omega
theorem H5 {dx dy x y:Int} (h:Hd dx dy) (hx:Bd x) (hy:Bd y):Kj (E (E (x*dx)+E (y*dy))):=by have M:=U6 hx h.1;have Q:=U6 hy h.2.1;unfold Kj;rw[AX (x:=x*dx) K K,AX (x:=y*dy) K K,AX K K];omega
def Js:bo:=(68,.con ad8)::Jm
theorem GC:ba Tryz.prog AQ AS Js:=.con afg (GG)
theorem aa7 {ts:List Ty} {ds:List V} (h:ap ts ds=ds):l9 ts ds []=ma ts ds []:=by have:=gI ts ds [];rw[h]at this;exact this
theorem fl4 (a b c d:Int):A L (lL (bc 3 (bc 2 (bc 1 (λ_=>[D a]) λ_=>[D b]) λ_=>[D c]) λ_=>[D d]))=lL (bc 3 (bc 2 (bc 1 (λ_=>[D a]) λ_=>[D b]) λ_=>[D c]) λ_=>[D d]):=by funext i;unfold A lL bc;cases Nat.blt i 3<;>cases Nat.blt i 2<;>cases Nat.blt i 1<;>rfl
def acb:RT Empty:=.brt (.obt (.brf (.obt (.brf (.obt (.obt (.obt (.obt (.brt (.obt (.brt (.obt (.brf (.obt (.obt (.obt (.obt (.brt (.obt (.brf (.obt (.brt (.obt (.obt (.obt (.obt (.brt (.obt (.brt (.obt (.brt (.obt (.obt (.obt (.obt (.brf (.obe ([Ty.sl L,tI]) ([V.sl 4 (lL (bc 3 (bc 2 (bc 1 (λx=>[D (E (E (T*x5)-E (W*O)))]) λx=>[D (E (E (S*x5)-E (W*O)))]) λx=>[D (E (E (T*x5)-E (U*O)))]) λx=>[D (E (E (S*x5)-E (U*O)))])),D (E (E (O*O)+E (x5*x5)))]) (.obp ((1:Nat)<=(4:Nat)/\(dE (E ((1000000:Int)*E (E (O*O)+E (x5*x5))))=(0:Int)->False)/\(dW (E ((1000000:Int)*E (E (O*O)+E (x5*x5))))=(0:Int)->False)) (.obt (.obt (.obe ([Ty.sl L,tI]) ([V.sl 4 (lL (bc 3 (bc 2 (bc 1 (λx=>[D (E (E (T*O)+E (W*x5)))]) λx=>[D (E (E (S*O)+E (W*x5)))]) λx=>[D (E (E (T*O)+E (U*x5)))]) λx=>[D (E (E (S*O)+E (U*x5)))])),D (E (E (O*O)+E (x5*x5)))]) (.obp ((1:Nat)<=(4:Nat)/\(dE (E ((1000000:Int)*E (E (O*O)+E (x5*x5))))=(0:Int)->False)/\(dW (E ((1000000:Int)*E (E (O*O)+E (x5*x5))))=(0:Int)->False)) (.obt (.obt (.ret (V.agg [D (ip 4 (lL (bc 3 (bc 2 (bc 1 (λx=>[D (E (E (T*x5)-E (W*O)))]) λx=>[D (E (E (S*x5)-E (W*O)))]) λx=>[D (E (E (T*x5)-E (U*O)))]) λx=>[D (E (E (S*x5)-E (U*O)))])) (E (E (O*O)+E (x5*x5)))),D (iu 4 (lL (bc 3 (bc 2 (bc 1 (λx=>[D (E (E (T*x5)-E (W*O)))]) λx=>[D (E (E (S*x5)-E (W*O)))]) λx=>[D (E (E (T*x5)-E (U*O)))]) λx=>[D (E (E (S*x5)-E (U*O)))])) (E (E (O*O)+E (x5*x5)))),D (ip 4 (lL (bc 3 (bc 2 (bc 1 (λx=>[D (E (E (T*O)+E (W*x5)))]) λx=>[D (E (E (S*O)+E (W*x5)))]) λx=>[D (E (E (T*O)+E (U*x5)))]) λx=>[D (E (E (S*O)+E (U*x5)))])) (E (E (O*O)+E (x5*x5)))),D (iu 4 (lL (bc 3 (bc 2 (bc 1 (λx=>[D (E (E (T*O)+E (W*x5)))]) λx=>[D (E (E (S*O)+E (W*x5)))]) λx=>[D (E (E (T*O)+E (U*x5)))]) λx=>[D (E (E (S*O)+E (U*x5)))])) (E (E (O*O)+E (x5*x5))))]))))))))))))))))))))))))))))))))))))))))))))))
theorem x16:cV cX (aQ JJ Js PD ahe [D T,D S,D W,D U,D O,D x5]) (acb T S W U O x5):=bF
def iU:Int:=ip 4 (lL (bc 3 (bc 2 (bc 1 (λx=>[D (E (E (T*x5)-E (W*O)))]) λx=>[D (E (E (S*x5)-E (W*O)))]) λx=>[D (E (E (T*x5)-E (U*O)))]) λx=>[D (E (E (S*x5)-E (U*O)))])) (E (E (O*O)+E (x5*x5)))
def jp:Int:=iu 4 (lL (bc 3 (bc 2 (bc 1 (λx=>[D (E (E (T*x5)-E (W*O)))]) λx=>[D (E (E (S*x5)-E (W*O)))]) λx=>[D (E (E (T*x5)-E (U*O)))]) λx=>[D (E (E (S*x5)-E (U*O)))])) (E (E (O*O)+E (x5*x5)))
def iV:Int:=ip 4 (lL (bc 3 (bc 2 (bc 1 (λx=>[D (E (E (T*O)+E (W*x5)))]) λx=>[D (E (E (S*O)+E (W*x5)))]) λx=>[D (E (E (T*O)+E (U*x5)))]) λx=>[D (E (E (S*O)+E (U*x5)))])) (E (E (O*O)+E (x5*x5)))
def jd:Int:=iu 4 (lL (bc 3 (bc 2 (bc 1 (λx=>[D (E (E (T*O)+E (W*x5)))]) λx=>[D (E (E (S*O)+E (W*x5)))]) λx=>[D (E (E (T*O)+E (U*x5)))]) λx=>[D (E (E (S*O)+E (U*x5)))])) (E (E (O*O)+E (x5*x5)))
def Uw:V:=.agg [D (iU T S W U O x5),D (jp T S W U O x5),D (iV T S W U O x5),D (jd T S W U O x5)]
theorem aj1 (hp:Kz (E (E (O*O)+E (x5*x5)))):aU cN (acb T S W U O x5) (Uw T S W U O x5):=dX (ac (gQ (ac (gQ (ac (ac (ac (ac (dX (ac (dX (ac (gQ (ac (ac (ac (ac (dX (ac (gQ (ac (dX (ac (ac (ac (ac (dX (ac (dX (ac (dX (ac (ac (ac (ac (gQ (adn (by exact aa7 (congrArg (λf=>[V.sl 4 f,_]) (fl4 ..))) (aI (by first|assumption|(exact⟨aO,hp⟩)) (ac (ac (adn (by exact aa7 (congrArg (λf=>[V.sl 4 f,_]) (fl4 ..))) (aI (by first|assumption|(exact⟨aO,hp⟩)) (ac (ac (AF (by unfold Uw iU jp iV jd;rfl))))))))))))))))))))))))))))))))))))))))))))))
def abU:aD:=bP [tI,tI,tI,tI,tI,tI] (λ
 |[.int _ T,.int _ S,.int _ W,.int _ U,.int _ O,.int _ x5]=>Kz (E (E (O*O)+E (x5*x5)))|_=>False) λ
 |[.int _ T,.int _ S,.int _ W,.int _ U,.int _ O,.int _ x5]=>Uw T S W U O x5|_=>.any
theorem ait:b7 abU 75:=aT GC λ_ hp=>c7 (x16 ..) (aj1 _ _ _ _ _ _ hp)
def adk:RT Empty:=.cb (.cb (.cb (.obp ((dU (E ((1000000:Int)*cv T S))=(0:Int)->False)/\(eK (E ((1000000:Int)*cv T S))=(0:Int)->False)) (.obt (.obp ((dU (E ((1000000:Int)*cv T S))=(0:Int)->False)/\(eK (E ((1000000:Int)*cv T S))=(0:Int)->False)) (.obt (.ret (V.agg [D (j5 T S W O W x5 U O U x5 (dU (E (1000000*cv T S))) (eK (E (1000000*cv T S)))),D (kc T S W O W x5 U O U x5 (dU (E (1000000*cv T S))) (eK (E (1000000*cv T S)))),D (ka T S W O W x5 U O U x5 (dU (E (1000000*cv T S))) (eK (E (1000000*cv T S)))),D (kj T S W O W x5 U O U x5 (dU (E (1000000*cv T S))) (eK (E (1000000*cv T S))))]))))))))
theorem uu5:cV cX (aQ JJ Js u0 C3 [V.agg [D T,D S],D W,D U,D O,D x5]) (adk T S W U O x5):=bF
def hval0:Int:=j5 T S W O W x5 U O U x5 (dU (E (1000000*cv T S))) (eK (E (1000000*cv T S)))
def fzb14:Int:=kc T S W O W x5 U O U x5 (dU (E (1000000*cv T S))) (eK (E (1000000*cv T S)))
def iza10:Int:=ka T S W O W x5 U O U x5 (dU (E (1000000*cv T S))) (eK (E (1000000*cv T S)))
def hsrc2:Int:=kj T S W O W x5 U O U x5 (dU (E (1000000*cv T S))) (eK (E (1000000*cv T S)))
theorem axs {T S W U O x5:Int} (hd:Hd T S) (Q:Bd W) (h3:Bd U) (h4:Bd O) (h5:Bd x5):j5 T S W O W x5 U O U x5 (dU (E (1000000*cv T S))) (eK (E (1000000*cv T S)))=iU W U O x5 T S:=fh6 (H3 hd Q h4) (H3 hd Q h5) (H3 hd h3 h4) (H3 hd h3 h5) (JF hd)
theorem axZ {T S W U O x5:Int} (hd:Hd T S) (Q:Bd W) (h3:Bd U) (h4:Bd O) (h5:Bd x5):kc T S W O W x5 U O U x5 (dU (E (1000000*cv T S))) (eK (E (1000000*cv T S)))=jp W U O x5 T S:=dqt (H3 hd Q h4) (H3 hd Q h5) (H3 hd h3 h4) (H3 hd h3 h5) (JF hd)
theorem aya {T S W U O x5:Int} (hd:Hd T S) (Q:Bd W) (h3:Bd U) (h4:Bd O) (h5:Bd x5):ka T S W O W x5 U O U x5 (dU (E (1000000*cv T S))) (eK (E (1000000*cv T S)))=iV W U O x5 T S:=fh6 (H5 hd Q h4) (H5 hd Q h5) (H5 hd h3 h4) (H5 hd h3 h5) (JF hd)
theorem ayv {T S W U O x5:Int} (hd:Hd T S) (Q:Bd W) (h3:Bd U) (h4:Bd O) (h5:Bd x5):kj T S W O W x5 U O U x5 (dU (E (1000000*cv T S))) (eK (E (1000000*cv T S)))=jd W U O x5 T S:=dqt (H5 hd Q h4) (H5 hd Q h5) (H5 hd h3 h4) (H5 hd h3 h5) (JF hd)
theorem afM (hp:Hd T S/\Bd W/\Bd U/\Bd O/\Bd x5):aU cN (adk T S W U O x5) (.agg [D (iU W U O x5 T S),D (jp W U O x5 T S),D (iV W U O x5 T S),D (jd W U O x5 T S)]):=by
 obtain⟨hd,Q,h3,h4,h5⟩:=hp;have hs:=JF hd;have hr:=rts hs;have hw:E (1000000*cv T S)<=3999999999999999999:=by rw[AX K K];omega
 unfold Kz at hr;rw[← M5 hw,← wU hw]at hr;exact AM (ac (AM (ac (AM (ac (aI hr (ac (aI hr (ac (AF (by rw[axs hd Q h3 h4 h5,axZ hd Q h3 h4 h5,aya hd Q h3 h4 h5,ayv hd Q h3 h4 h5])))))))))))
def acH:aD:=bP [.agg aM,tI,tI,tI,tI] (λ
 |[.agg [.int _ T,.int _ S],.int _ W,.int _ U,.int _ O,.int _ x5]=>Hd T S/\Bd W/\Bd U/\Bd O/\Bd x5|_=>False) λ
 |[.agg [.int _ T,.int _ S],.int _ W,.int _ U,.int _ O,.int _ x5]=>.agg [D (iU W U O x5 T S),D (jp W U O x5 T S),D (iV W U O x5 T S),D (jd W U O x5 T S)]|_=>.any
theorem ajy:b7 acH 46:=aT GC λ_ hp=>c7 (uu5 ..) (afM _ _ _ _ _ _ hp)
def NZ:bo:=(75,.con abU)::(46,.con acH)::Js
theorem To:ba Tryz.prog AQ AS NZ:=.con ait (.con ajy (GC))
theorem wg {v:Int} {n:Nat} (h:(!bg v (-1) (E ((n:Int)-1)))=false) (Q:decide (0<=v)=true) (hn:true=true->n<=9223372036854775807):decide (0<=v/\v<(n:Int))=true:=by have:=wZ (x:=v) (Ck h);have hn:=hn rfl;rw[AX K K]at this;have:=As Q;exact AG K
def Mk (x:Int):Prop:=(0<=x/\x<Pi)/\(0<=x/\x<Pm)/\∀i:Nat,i<R->0<=aR (N i)/\aR (N i)<H
theorem z7 {H R:Nat} {N:be} {Pi Pm:Nat} {x v:Int} (h:Mk H R N Pi Pm x) (hv:decide (0<=v/\v<(R:Int))=true):decide (0<=aR (N v.toNat)/\aR (N v.toNat)<(H:Int))=true:=by have:=As hv;exact AG (h.2.2 v.toNat K)
def ado:RT Empty:=dm (O,n5,q,n7,f7,n9,f9,PS,At) (.ob (dI Pb Pi) (.ob (dI Pb Pm) (.am R (.cb (.br (!bg (aA (Pf Pb.toNat)) (-1) (E ((R:Int)-1))) (.ret (D 4)) (.cb (.obi (.br (!!bg (aA (Ph Pb.toNat)) 0 200000) (.ob (!!bg (aA (Ph Pb.toNat)) 0 200000) (.cb (.obi (.br (!!bg (aR (Ph Pb.toNat)) 0 600) (.ob (!!bg (aR (Ph Pb.toNat)) 0 600) (.cb (.br (!bg (bX (Ph Pb.toNat)) 0 1000) (.ret (D 7)) (.br (decide (0<=aA (Pf Pb.toNat))) (.ob (dI (aA (Pf Pb.toNat)) R) (.ob (dI (aR (N (aA (Pf Pb.toNat)).toNat)) H) (.cb (.br (decide (100000000000<E (max (FV (aw (av (I (I (I (G (aR (N (aA (Pf Pb.toNat)).toNat)).toNat)))))) (λi=>ap [Ty.sl L] (bz (av (I (I (I (G (aR (N (aA (Pf Pb.toNat)).toNat)).toNat))))) i)) (cq (G (aR (N (aA (Pf Pb.toNat)).toNat)).toNat))) (bG (G (aR (N (aA (Pf Pb.toNat)).toNat)).toNat))*bf (N (aA (Pf Pb.toNat)).toNat)))) (.ret (D 7)) (.ret (D 0)))))) (.ret (D 0)))))) (.ret (D 7)))))) (.ret (D 7))))))))))
theorem id8:cV cX (aQ JJ NZ u0 ai6 [V.agg [V.sl H (A al G),V.sl R (A ao N),D O,V.sl n5 (A aZ q),V.sl n7 (A bj f7),V.sl n9 (A bm f9),V.sl PS (A aV At),V.sl Pi (A L Pf),V.sl Pm (A cg Ph)],D Pb]) (ado H G R N O n5 q n7 f7 n9 f9 PS At Pi Pf Pm Ph Pb):=bF
def gN:Int:=bif !bg (aA (Pf Pb.toNat)) (-1) (E ((R:Int)-1)) then 4 else bif !!bg (aA (Ph Pb.toNat)) 0 200000 then bif !!bg (aR (Ph Pb.toNat)) 0 600 then bif !bg (bX (Ph Pb.toNat)) 0 1000 then 7 else bif decide (0<=aA (Pf Pb.toNat)) then bif decide (100000000000<E (max (FV (aw (av (I (I (I (G (aR (N (aA (Pf Pb.toNat)).toNat)).toNat)))))) (λi=>ap [Ty.sl L] (bz (av (I (I (I (G (aR (N (aA (Pf Pb.toNat)).toNat)).toNat))))) i)) (cq (G (aR (N (aA (Pf Pb.toNat)).toNat)).toNat))) (bG (G (aR (N (aA (Pf Pb.toNat)).toNat)).toNat))*bf (N (aA (Pf Pb.toNat)).toNat))) then 7 else 0 else 0 else 7 else 7
def tE:V:=dm (H,O,n5,q,n7,f7,n9,f9,PS,At,Pi,Pm) (D (gN G R N Pf Ph Pb))
theorem amx (hp:Mk H R N Pi Pm Pb):aU cN (ado H G R N O n5 q n7 f7 n9 f9 PS At Pi Pf Pm Ph Pb) (tE H G R N O n5 q n7 f7 n9 f9 PS At Pi Pf Pm Ph Pb):=aF (by first|assumption|(first|exact AG hp.1|exact AG hp.2.1|exact wg h0 h4 a0|exact z7 hp (wg h0 h4 a0))) (aF (by first|assumption|(first|exact AG hp.1|exact AG hp.2.1|exact wg h0 h4 a0|exact z7 hp (wg h0 h4 a0))) (Af (λa0=>AM (ac (AP (λh0=>AF (by unfold tE gN;try rw[h0];rfl)) (λh0=>AM (ac (AE (AP (λM=>aF (by first|assumption|(first|exact AG hp.1|exact AG hp.2.1|exact wg h0 h4 a0|exact z7 hp (wg h0 h4 a0))) (AM (ac (AE (AP (λQ=>aF (by first|assumption|(first|exact AG hp.1|exact AG hp.2.1|exact wg h0 h4 a0|exact z7 hp (wg h0 h4 a0))) (AM (ac (AP (λh3=>AF (by unfold tE gN;try rw[h0];try rw[M];try rw[Q];try rw[h3];rfl)) (λh3=>AP (λh4=>aF (by first|assumption|(first|exact AG hp.1|exact AG hp.2.1|exact wg h0 h4 a0|exact z7 hp (wg h0 h4 a0))) (aF (by first|assumption|(first|exact AG hp.1|exact AG hp.2.1|exact wg h0 h4 a0|exact z7 hp (wg h0 h4 a0))) (AM (ac (AP (λh5=>AF (by unfold tE gN;try rw[h0];try rw[M];try rw[Q];try rw[h3];try rw[h4];try rw[h5];rfl)) (λh5=>AF (by unfold tE gN;try rw[h0];try rw[M];try rw[Q];try rw[h3];try rw[h4];try rw[h5];rfl))))))) (λh4=>AF (by unfold tE gN;try rw[h0];try rw[M];try rw[Q];try rw[h3];try rw[h4];rfl))))))) (λQ=>AF (by unfold tE gN;try rw[h0];try rw[M];try rw[Q];rfl))))))) (λM=>AF (by unfold tE gN;try rw[h0];try rw[M];rfl)))))))))))
def aeL:aD:=bP [.agg [.sl al,.sl ao,tI,.sl aZ,.sl bj,.sl bm,.sl aV,.sl L,.sl cg],tI] (λ
 |[.agg [.sl H G,.sl R N,.int _ O,.sl n5 q,.sl n7 f7,.sl n9 f9,.sl PS At,.sl Pi Pf,.sl Pm Ph],.int _ Pb]=>Mk H R N Pi Pm Pb|_=>False) λ
 |[.agg [.sl H G,.sl R N,.int _ O,.sl n5 q,.sl n7 f7,.sl n9 f9,.sl PS At,.sl Pi Pf,.sl Pm Ph],.int _ Pb]=>tE H G R N O n5 q n7 f7 n9 f9 PS At Pi Pf Pm Ph Pb|_=>.any
theorem ahu:b7 aeL 109:=aT To λ_ hp=>c7 (id8 ..) (amx _ _ _ _ _ _ _ _ _ _ _ _ _ _ _ _ _ _ hp)
theorem avF {p:Nat->Int} {z:Int}:∀ k:Nat,1<=k->BD p z k=max z (BD p (p 0) k)
 |0,h=>absurd h aO|1,_=>by show max z (p 0)=max z (max (p 0) (p 0));rw[Int.max_self]
 |k+2,_=>by show max (BD p z (k+1)) (p (k+1))=max z (max (BD p (p 0) (k+1)) (p (k+1)));rw[avF (k+1) K,Int.max_assoc]
theorem Cv {n5:Nat} {q:be} {z:Int} (h:∀ i,i<n5->1<=aw (av (q i))):sw n5 q z=FV n5 q z:=by
 unfold sw FV;have:∀ k,k<=n5->BD (λi=>KL q i) z k=IL q z k:=λk=>by
  induction k with
  |zero=>intro _;rfl
  |succ k ih=>intro hk;show max (BD (λi=>KL q i) z k) (KL q k)=BD (λj=>aA (bz (av (q k)) j)) (IL q z k) (aw (av (q k)));rw[ih K,avF _ (h k K)];rfl
 exact this n5 (Ah _)
def IK (x:List V):Int:=FV (Ec x) (A [.sl L] (zM x)) (cq x)
def Bg (H:Nat) (G:be) (O:Int):Int:=bif !bg O (-1) (E ((H:Int)-1)) then 4 else bif decide (0<=O) then(bif decide (10000<IK (G O.toNat)) then 7 else 0) else 0
def Mn (x:List V):Bool:=decide (100000000000<E (max (IK (G (aR x).toNat)) (bG ((G (aR x).toNat)))*bf x))
def Bo (a b c d e g:Bool):Int:=bif !a then 4 else bif !!b then(bif !!c then(bif !d then 7 else bif e then(bif g then 7 else 0) else 0) else 7) else 7
def u7 (G:be) (R:Nat) (N Pf Ph:be) (i:Nat):Int:=Bo (bg (aA ((Pf i))) (-1) (E ((R:Int)-1))) (bg (aA ((Ph i))) 0 200000) (bg (aR ((Ph i))) 0 600) (bg (bX ((Ph i))) 0 1000) (decide (0<=aA ((Pf i)))) (Mn G (N (aA ((Pf i))).toNat))
theorem au3 (N Pf Ph:be) (i:Nat):gN (A al G) R (A ao N) (A L Pf) (A cg Ph) i=u7 G R N Pf Ph i:=by unfold gN u7 Bo Mn IK;rfl
section
variable {a b c d e g:Bool}
include a b c d e g
theorem aph (h:a=false):Bo a b c d e g=4:=by subst h;rfl
theorem atj (h:a=true) (Q:b=false):Bo a b c d e g=7:=by subst h Q;rfl
theorem atm (h:a=true) (Q:b=true) (h3:c=false):Bo a b c d e g=7:=by subst h Q h3;rfl
theorem aoc (h:a=true) (Q:b=true) (h3:c=true) (h4:d=false):Bo a b c d e g=7:=by subst h Q h3 h4;rfl
theorem ar0 (h:a=true) (Q:b=true) (h3:c=true) (h4:d=true) (h5:e=false):Bo a b c d e g=0:=by subst h Q h3 h4 h5;rfl
theorem atM (h:a=true) (Q:b=true) (h3:c=true) (h4:d=true) (h5:e=true) (h6:g=true):Bo a b c d e g=7:=by subst h Q h3 h4 h5 h6;rfl
theorem ap7 (h:a=true) (Q:b=true) (h3:c=true) (h4:d=true) (h5:e=true) (h6:g=false):Bo a b c d e g=0:=by subst h Q h3 h4 h5 h6;rfl
end
def E2 (PS Pi Pm:Nat):Bool:=bif(Pi:Int)!=(PS:Int) then true else(Pm:Int)!=(PS:Int)
def Wp:Int×Int×Int:=bif bW H (A al G) R (A ao N)!=0 then(1,0,bW H (A al G) R (A ao N)) else bif gR n5 (A aZ q) n7 (A bj f7) n9 (A bm f9) PS (A aV At)!=0 then(2,0,gR n5 (A aZ q) n7 (A bj f7) n9 (A bm f9) PS (A aV At)) else bif Bg H G O !=0 then(3,0,Bg H G O) else bif E2 PS Pi Pm then(4,0,2) else Ay PS (u7 G R N Pf Ph) 4 (0,0,0)
def qt:Int:=(Wp H G R N O n5 q n7 f7 n9 f9 PS At Pi Pf Pm Ph).1
def qu:Int:=(Wp H G R N O n5 q n7 f7 n9 f9 PS At Pi Pf Pm Ph).2.1
def ji:Int:=(Wp H G R N O n5 q n7 f7 n9 f9 PS At Pi Pf Pm Ph).2.2
theorem xx {PS Pi Pm:Nat} (h:E2 PS Pi Pm=false):Pi=PS/\Pm=PS:=by
 unfold E2 at h;cases M:((Pi:Int)!=(PS:Int)) with
 |true=>rw[M]at h;cases h
 |false=>rw[M]at h;have h:((Pm:Int)!=(PS:Int))=false:=h;have M:=DU (by simpa using M:((Pi:Int)==(PS:Int))=true);have h:=DU (by simpa using h:((Pm:Int)==(PS:Int))=true);omega
def AV:bo:=(109,.con aeL)::NZ
theorem FO:ba Tryz.prog AQ AS AV:=.con ahu (To)
theorem pU {x:Int} (h:(x !=0)=false):x=0:=DU (by simpa using h:(x==0)=true)
theorem aur {x:Int} (h:x≠0):(x !=0)=true:=by simpa using h
theorem GU {b:Bool} (h:(!b)=true):b=false:=by cases b<;>first|rfl|cases h
theorem we {b:Bool} (h:(!!b)=true):b=true:=by cases b<;>first|rfl|cases h
theorem RR {b:Bool} (h:(!!b)=false):b=false:=by cases b<;>first|rfl|cases h
section
variable {Pe:Type} {Nx:Pe->V->Prop} {r:V} {b:Bool} {x y:RT Pe}
include Pe Nx r b x y
theorem Cf (h:b=true) (hx:aU Nx x r):aU Nx (.br b x y) r:=AP (λ_=>hx) (λh'=>by rw[h]at h';cases h')
theorem CX (h:b=false) (hx:aU Nx y r):aU Nx (.br b x y) r:=AP (λh'=>by rw[h]at h';cases h') (λ_=>hx)
end
theorem qR.of_el {G:be} {i:Nat} (h:qR (A al G i)):qR (G i):=⟨h.u,h.v,h.n,h.row,h.side,h.sky,h.val⟩
theorem Bq {x:List V} (h:qR x):∀i:Nat,i<aw (av (I (I (I x))))->1<=aw (av (bz (av (I (I (I x)))) i)):=λi hi=>by have M:=h.row i hi;have Q:=h.v.1;show 1<=aw (av (zM x i));omega
theorem Bl {x:List V} (h:qR x):∀i:Nat,i<Ec x->1<=aw (av (A [.sl L] (zM x) i)):=Bq h
theorem K7 {O:Int} {H:Nat} (h:bg O (-1) (E ((H:Int)-1))=true) (Q:decide (0<=O)=true) (hn:H<=9223372036854775807):decide (0<=O/\O<(H:Int))=true:=by have:=wZ h;rw[AX K K]at this;have:=As Q;exact AG K
inductive tg where|L0 (_:Int)
def yaX:tg->bT×List AD×Option Ex
 |.L0 PW=>([(9,D PW),(8,D (PS:Int)),(1,V.pl 0 0)],[AD.cells [V.sl H (A al G),V.sl R (A ao N),D O,V.sl n5 (A aZ q),V.sl n7 (A bj f7),V.sl n9 (A bm f9),V.sl PS (A aV At),V.sl Pi (A L Pf),V.sl Pm (A cg Ph)] 35],none)
def ahq:tg->JJ
 |.L0 _=>(0,[])
def azQ:AN (cr JJ):=aQ JJ AV u0 ajD [V.agg [V.sl H (A al G),V.sl R (A ao N),D O,V.sl n5 (A aZ q),V.sl n7 (A bj f7),V.sl n9 (A bm f9),V.sl PS (A aV At),V.sl Pi (A L Pf),V.sl Pm (A cg Ph)]]
def adt (cx:List Cx):Lp JJ:=eX (eC (azQ H G R N O n5 q n7 f7 n9 f9 PS At Pi Pf Pm Ph) [false,false,false,true,false,false])
def ae4:JJ->Lp JJ
 |(0,cx)=>adt H G R N O n5 q n7 f7 n9 f9 PS At Pi Pf Pm Ph cx|(_,cx)=>adt H G R N O n5 q n7 f7 n9 f9 PS At Pi Pf Pm Ph cx
def ave:LD JJ tg:=⟨ahq,ae4 H G R N O n5 q n7 f7 n9 f9 PS At Pi Pf Pm Ph,yaX H G R N O n5 q n7 f7 n9 f9 PS At Pi Pf Pm Ph⟩
def xz (H:Nat) (G:be) (R:Nat) (N:be) (O:Int) (n5:Nat) (q:be) (n7:Nat) (f7:be) (n9:Nat) (f9:be) (PS:Nat) (At:be) (Pi:Nat) (Pf:be) (Pm:Nat) (Ph:be):tg->RT tg
 |.L0 PW=>.br (decide (PW<(PS:Int))) (.obp (((0:Int)<=PW/\PW<(Pi:Int))/\((0:Int)<=PW/\PW<(Pm:Int))/\∀(i:Nat),i<R->(0:Int)<=aR (N i)/\aR (N i)<(H:Int)) (.obt (.br (gN (A al G) R (A ao N) (A L Pf) (A cg Ph) PW !=0) (.ret (V.tup [D 4,D PW,D (gN (A al G) R (A ao N) (A L Pf) (A cg Ph) PW)])) (.next Az (tg.L0 (E (PW+1))) [])))) (.ret (V.tup Fb))
def NN:RT tg:=dm (Pf,Ph) (.obp ((aC H G)/\aC R N) (.obt (.br (bW H (A al G) R (A ao N)!=0) (.ret (V.tup [D 1,D 0,D (bW H (A al G) R (A ao N))])) (.obp ((aC n5 q)/\aC PS At) (.obt (.br (gR n5 (A aZ q) n7 (A bj f7) n9 (A bm f9) PS (A aV At)!=0) (.ret (V.tup [D 2,D 0,D (gR n5 (A aZ q) n7 (A bj f7) n9 (A bm f9) PS (A aV At))])) (.am H (.cb (.br (!bg O (-1) (E ((H:Int)-1))) (.ret (V.tup [D 3,D 0,D 4])) (.iv (.obi (.obj (decide (0<=O)) (dI O H) (.obi (.br (decide (0<=O)) (.ob (decide (0<=O)) (.cb (.br (decide (10000<FV (aw (av (I (I (I (G O.toNat)))))) (λi=>ap [Ty.sl L] (bz (av (I (I (I (G O.toNat))))) i)) (cq (G O.toNat)))) (.ret (V.tup [D 3,D 0,D 7])) (.am PS (.am Pi (.ii (.asm ((!(Pi:Int)!=(PS:Int))=true->Pm<=9223372036854775807) (.ii (.obi (.br (bif(Pi:Int)!=(PS:Int) then true else(Pm:Int)!=(PS:Int)) (.ret (V.tup [D 4,D 0,D 2])) (.enter Az (tg.L0 0) []))))))))))) (.am PS (.am Pi (.ii (.asm ((!(Pi:Int)!=(PS:Int))=true->Pm<=9223372036854775807) (.ii (.obi (.br (bif(Pi:Int)!=(PS:Int) then true else(Pm:Int)!=(PS:Int)) (.ret (V.tup [D 4,D 0,D 2])) (.enter Az (tg.L0 0) []))))))))))))))))))))))
theorem ih8:d0 AV u0 (ave H G R N O n5 q n7 f7 n9 f9 PS At Pi Pf Pm Ph) (azQ H G R N O n5 q n7 f7 n9 f9 PS At Pi Pf Pm Ph) (NN H G R N O n5 q n7 f7 n9 f9 PS At Pi Pf Pm Ph) (xz H G R N O n5 q n7 f7 n9 f9 PS At Pi Pf Pm Ph):=⟨bF,λs=>by cases s<;>exact bF⟩
theorem amO (hn:PS<=9223372036854775807) (hT:∀i,i<H->qR (G i)) (hL:∀i:Nat,i<R->0<=aR (N i)/\aR (N i)<H):Ev (xz H G R N O n5 q n7 f7 n9 f9 PS At PS Pf PS Ph) (.L0 0) (MR (Ay PS (u7 G R N Pf Ph) 4 (0,0,0))):=by refine ky (n:=PS) hn (λi=>u7 G R N Pf Ph i !=0) (P:=λi=>Ev (xz H G R N O n5 q n7 f7 n9 f9 PS At PS Pf PS Ph) (.L0 i) _) (λi Pj hj next=>Ev.of rfl (dt Pj (aI ⟨⟨K,K⟩,⟨K,K⟩,hL⟩ (ac ?_)))) (λhj=>Ev.of rfl (dp (AF (by rw[mq 4 _ hj];rfl))));rw[show gN (A al G) R (A ao N) (A L Pf) (A cg Ph) i=u7 G R N Pf Ph i from au3 ..];exact AP (λh=>AF (by rw[kV 4 _ Pj h hj];rfl)) (λh=>aK (next h))
theorem hno0 (hp:aC H G/\aC R N/\aC n5 q/\aC PS At):aU (Ev (xz H G R N O n5 q n7 f7 n9 f9 PS At Pi Pf Pm Ph)) (NN H G R N O n5 q n7 f7 n9 f9 PS At Pi Pf Pm Ph) (.tup [D (qt H G R N O n5 q n7 f7 n9 f9 PS At Pi Pf Pm Ph),D (qu H G R N O n5 q n7 f7 n9 f9 PS At Pi Pf Pm Ph),D (ji H G R N O n5 q n7 f7 n9 f9 PS At Pi Pf Pm Ph)]):=by
 obtain⟨p0,p2,p5,p11⟩:=hp;show aU _ _ (MR (Wp H G R N O n5 q n7 f7 n9 f9 PS At Pi Pf Pm Ph));unfold Wp;refine aI ⟨p0,p2⟩ (ac (AP (λh=>AF (by rw[h];rfl)) (λh=>?_)));rw[h];have V2:=uE (H:=H) (G:=A al G) (R:=R) (N:=A ao N) (pU h);have hT:∀i,i<H->qR (G i):=λi hi=>qR.of_el (BE (V2.tb i hi));have hL:∀i:Nat,i<R->0<=aR (N i)/\aR (N i)<H:=λi hi=>(S2 V2.l0 (V2.lm i hi)).t;refine aI ⟨p5,p11⟩ (ac (AP (λh'=>AF (by rw[h'];rfl)) (λh'=>?_)));rw[h'];have V3:=Fx (H:=n5) (G:=A aZ q) (R:=n7) (N:=A bj f7) (n4:=n9) (f4:=A bm f9) (n6:=PS) (f6:=A aV At) (pU h');refine bC λTO=>AM (ac (AP (λM=>?_) (λM=>?_)))
 ·have hk:Bg H G O=4:=by
   unfold Bg;rw[show bg O (-1) (E ((H:Int)-1))=false from GU M];rfl
  exact AF (by rw[hk];rfl)
 ·have M:bg O (-1) (E ((H:Int)-1))=true:=Ck M
  refine AE (AE (AE (AE (AE (Ba (λQ=>?_) (AE (AP (λQ=>?_) (λQ=>?_))))))))
  ·exact K7 M Q TO
  ·have hx:=As (K7 M Q TO)
   refine aF Q (AM (ac (AP (λh3=>?_) (λh3=>?_))))
   ·have hk:Bg H G O=7:=by
     unfold Bg IK;rw[M,Q];exact congrArg (λb=>bif b then(7:Int) else 0) h3
    exact AF (by rw[hk];rfl)
   have hk:Bg H G O=0:=by unfold Bg IK;rw[M,Q];exact congrArg (λb=>bif b then(7:Int) else 0) h3
   rw[hk];cases hl:E2 PS Pi Pm with
   |true=>exact Af λ_=>Af λ_=>AE (AE (Af λ_=>AE (AE (AE (Cf hl (AF rfl))))))
   |false=>obtain⟨e1,e2⟩:=xx hl;refine Af λ_=>Af λ_=>AE (AE (Af λ_=>AE (AE (AE (CX hl (aH ?_))))));subst e1 e2;exact amO _ _ _ _ _ _ _ _ _ _ _ _ _ _ _ (by have:=V3.l6;omega) hT hL
  ·have hk:Bg H G O=0:=by
    unfold Bg;rw[M,Q];rfl
   rw[hk];cases hl:E2 PS Pi Pm with
   |true=>exact Af λ_=>Af λ_=>AE (AE (Af λ_=>AE (AE (AE (Cf hl (AF rfl))))))
   |false=>obtain⟨e1,e2⟩:=xx hl;refine Af λ_=>Af λ_=>AE (AE (Af λ_=>AE (AE (AE (CX hl (aH ?_))))));subst e1 e2;exact amO _ _ _ _ _ _ _ _ _ _ _ _ _ _ _ (by have:=V3.l6;omega) hT hL
theorem aio (hp:aC H (A al G)/\aC R (A ao N)/\aC n5 (A aZ q)/\aC PS (A aV At)):aU (Ev (xz H G R N O n5 q n7 f7 n9 f9 PS At Pi Pf Pm Ph)) (NN H G R N O n5 q n7 f7 n9 f9 PS At Pi Pf Pm Ph) (.tup [D (qt H (A al G) R (A ao N) O n5 (A aZ q) n7 (A bj f7) n9 (A bm f9) PS (A aV At) Pi (A L Pf) Pm (A cg Ph)),D (qu H (A al G) R (A ao N) O n5 (A aZ q) n7 (A bj f7) n9 (A bm f9) PS (A aV At) Pi (A L Pf) Pm (A cg Ph)),D (ji H (A al G) R (A ao N) O n5 (A aZ q) n7 (A bj f7) n9 (A bm f9) PS (A aV At) Pi (A L Pf) Pm (A cg Ph))]):=hno0 H G R N O n5 q n7 f7 n9 f9 PS At Pi Pf Pm Ph hp
def ac2:aD:=bP [.agg [.sl al,.sl ao,tI,.sl aZ,.sl bj,.sl bm,.sl aV,.sl L,.sl cg]] (λ
 |[.agg [.sl H G,.sl R N,.int _ O,.sl n5 q,.sl n7 f7,.sl n9 f9,.sl PS At,.sl Pi Pf,.sl Pm Ph]]=>aC H G/\aC R N/\aC n5 q/\aC PS At|_=>False) λ
 |[.agg [.sl H G,.sl R N,.int _ O,.sl n5 q,.sl n7 f7,.sl n9 f9,.sl PS At,.sl Pi Pf,.sl Pm Ph]]=>.tup [D (qt H G R N O n5 q n7 f7 n9 f9 PS At Pi Pf Pm Ph),D (qu H G R N O n5 q n7 f7 n9 f9 PS At Pi Pf Pm Ph),D (ji H G R N O n5 q n7 f7 n9 f9 PS At Pi Pf Pm Ph)]|_=>.any
theorem akN:b7 ac2 59:=aT FO λ_ hp=>kt (ih8 ..) (aio _ _ _ _ _ _ _ _ _ _ _ _ _ _ _ _ _ hp)
inductive rl where|L0 (_:Int)
def nrT:rl->bT×List AD×Option Ex
 |.L0 PW=>([(82,D PW),(81,D (Pi:Int)),(80,V.sl Pi (A L Pf)),(1,V.pl 0 0)],[AD.cells [V.sl H (A al G),V.sl R (A ao N),D O,V.sl n5 (A aZ q),V.sl n7 (A bj f7),V.sl n9 (A bm f9),V.sl PS (A aV At),V.sl Pi (A L Pf),V.sl Pm (A cg Ph)] 35],none)
def anq:rl->JJ
 |.L0 _=>(0,[])
def yaQ:AN (cr JJ):=aQ JJ AV u0 ajV [V.agg [V.sl H (A al G),V.sl R (A ao N),D O,V.sl n5 (A aZ q),V.sl n7 (A bj f7),V.sl n9 (A bm f9),V.sl PS (A aV At),V.sl Pi (A L Pf),V.sl Pm (A cg Ph)]]
def aa1 (cx:List Cx):Lp JJ:=eX (eC (yaQ H G R N O n5 q n7 f7 n9 f9 PS At Pi Pf Pm Ph) [false,false,false,true,false,false])
def ae1:JJ->Lp JJ
 |(0,cx)=>aa1 H G R N O n5 q n7 f7 n9 f9 PS At Pi Pf Pm Ph cx|(_,cx)=>aa1 H G R N O n5 q n7 f7 n9 f9 PS At Pi Pf Pm Ph cx
def ic17:LD JJ rl:=⟨anq,ae1 H G R N O n5 q n7 f7 n9 f9 PS At Pi Pf Pm Ph,nrT H G R N O n5 q n7 f7 n9 f9 PS At Pi Pf Pm Ph⟩
def yo (H:Nat) (G:be) (R:Nat) (N:be) (O:Int) (n5:Nat) (q:be) (n7:Nat) (f7:be) (n9:Nat) (f9:be) (PS:Nat) (At:be) (Pi:Nat) (Pf:be) (Pm:Nat) (Ph:be):rl->RT rl
 |.L0 PW=>.br (decide (PW<(Pi:Int))) (.ob (dI PW Pi) (.ob (dI PW Pm) (.am R (.cb (.br (!fp (aA (Pf PW.toNat)) (-1) (E ((R:Int)-1))) (.ret (V.tup [D 4,D PW,D 4])) (.cb (.obi (.br (!!fp (aA (Ph PW.toNat)) 0 200000) (.ob (!!fp (aA (Ph PW.toNat)) 0 200000) (.cb (.obi (.br (!!fp (aR (Ph PW.toNat)) 0 600) (.ob (!!fp (aR (Ph PW.toNat)) 0 600) (.cb (.br (!fp (bX (Ph PW.toNat)) 0 1000) (.ret (V.tup [D 4,D PW,D 7])) (.br (decide (aA (Pf PW.toNat)<0)) (.next Az (rl.L0 (E (PW+1))) []) (.ob (dI (aA (Pf PW.toNat)) R) (.ob (dI (aR (N (aA (Pf PW.toNat)).toNat)) H) (.obp (∀(i:Nat),i<aw (av (I (I (I (G (aR (N (aA (Pf PW.toNat)).toNat)).toNat)))))->(1:Nat)<=aw (av (bz (av (I (I (I (G (aR (N (aA (Pf PW.toNat)).toNat)).toNat))))) i))) (.obt (.br (decide (100000000000<E (max (sw (aw (av (I (I (I (G (aR (N (aA (Pf PW.toNat)).toNat)).toNat)))))) (λi=>ap [Ty.sl L] (bz (av (I (I (I (G (aR (N (aA (Pf PW.toNat)).toNat)).toNat))))) i)) (cq (G (aR (N (aA (Pf PW.toNat)).toNat)).toNat))) (bG (G (aR (N (aA (Pf PW.toNat)).toNat)).toNat))*bf (N (aA (Pf PW.toNat)).toNat)))) (.ret (V.tup [D 4,D PW,D 7])) (.next Az (rl.L0 (E (PW+1))) [])))))))))) (.ret (V.tup [D 4,D PW,D 7])))))) (.ret (V.tup [D 4,D PW,D 7])))))))))) (.ret (V.tup Fb))
def NF:RT rl:=dm (Pf,Ph) (.obp ((aC H G)/\aC R N) (.obt (.br (bH H (A al G) R (A ao N)!=0) (.ret (V.tup [D 1,D 0,D (bH H (A al G) R (A ao N))])) (.obp ((aC n5 q)/\aC PS At) (.obt (.br (j6 n5 (A aZ q) n7 (A bj f7) n9 (A bm f9) PS (A aV At)!=0) (.ret (V.tup [D 2,D 0,D (j6 n5 (A aZ q) n7 (A bj f7) n9 (A bm f9) PS (A aV At))])) (.am PS (.am H (.cb (.br (!fp O (-1) (E ((H:Int)-1))) (.ret (V.tup [D 3,D 0,D 4])) (.iv (.obi (.obj (decide (0<=O)) (dI O H) (.obi (.br (decide (0<=O)) (.ob (decide (0<=O)) (.obp (∀(i:Nat),i<aw (av (I (I (I (G O.toNat)))))->(1:Nat)<=aw (av (bz (av (I (I (I (G O.toNat))))) i))) (.obt (.br (decide (10000<sw (aw (av (I (I (I (G O.toNat)))))) (λi=>ap [Ty.sl L] (bz (av (I (I (I (G O.toNat))))) i)) (cq (G O.toNat)))) (.ret (V.tup [D 3,D 0,D 7])) (.am Pi (.ii (.asm ((!(Pi:Int)!=(PS:Int))=true->Pm<=9223372036854775807) (.ii (.obi (.br (bif(Pi:Int)!=(PS:Int) then true else(Pm:Int)!=(PS:Int)) (.ret (V.tup [D 4,D 0,D 2])) (.am Pi (.enter Az (rl.L0 0) [])))))))))))) (.am Pi (.ii (.asm ((!(Pi:Int)!=(PS:Int))=true->Pm<=9223372036854775807) (.ii (.obi (.br (bif(Pi:Int)!=(PS:Int) then true else(Pm:Int)!=(PS:Int)) (.ret (V.tup [D 4,D 0,D 2])) (.am Pi (.enter Az (rl.L0 0) [])))))))))))))))))))))))
theorem jcs:d0 AV u0 (ic17 H G R N O n5 q n7 f7 n9 f9 PS At Pi Pf Pm Ph) (yaQ H G R N O n5 q n7 f7 n9 f9 PS At Pi Pf Pm Ph) (NF H G R N O n5 q n7 f7 n9 f9 PS At Pi Pf Pm Ph) (yo H G R N O n5 q n7 f7 n9 f9 PS At Pi Pf Pm Ph):=⟨bF,λs=>by cases s<;>exact bF⟩
theorem avr (hn:PS<=9223372036854775807) (hT:∀ i,i<H->qR (G i)) (hL:∀ i:Nat,i<R->0<=aR (N i)/\aR (N i)<H):Ev (yo H G R N O n5 q n7 f7 n9 f9 PS At PS Pf PS Ph) (.L0 0) (MR (Ay PS (u7 G R N Pf Ph) 4 (0,0,0))):=by
 refine ky (n:=PS) hn (λi=>u7 G R N Pf Ph i !=0) (P:=λi=>Ev (yo H G R N O n5 q n7 f7 n9 f9 PS At PS Pf PS Ph) (.L0 i) _) (λi Pj hj next=>Ev.of rfl (dt Pj (c8 Pj (c8 Pj (bC λiz23=>AM (ac ?_)))))) (λhj=>Ev.of rfl (dp (AF (by rw[mq 4 _ hj];rfl))));have QS:∀e,e≠0->u7 G R N Pf Ph i=e->dj (V.tup [D 4,D i,D e])=dj (MR (Ay PS (u7 G R N Pf Ph) 4 (0,0,0))):=λe he hc=>by rw[kV 4 _ Pj (by rw[hc];exact aur he) hj,hc];rfl
 have Pn:u7 G R N Pf Ph i=0->(u7 G R N Pf Ph i !=0)=false:=λh=>by rw[h];rfl
 refine AP (λh0=>AF (QS 4 aO (aph (GU h0)))) (λh0=>AM (ac (AE (AP (λM=>aF M (AM (ac (AE ?_)))) (λM=>AF (QS 7 aO (atj (Ck h0) (RR M))))))));refine AP (λQ=>aF Q (AM (ac ?_))) (λQ=>AF (QS 7 aO (atm (Ck h0) (we M) (RR Q))));refine AP (λh3=>AF (QS 7 aO (aoc (Ck h0) (we M) (we Q) (GU h3)))) (λh3=>?_);refine AP (λh4=>aK (next (Pn (ar0 (Ck h0) (we M) (we Q) (Ck h3) (eM (λhh:0<=aA (Pf (i:Int).toNat)=>by have:=As h4;omega)))))) (λh4=>?_);have h5:decide (0<=aA (Pf (i:Int).toNat))=true:=AG (by have:=D2 h4;omega);have hv:=K7 (Ck h0) h5 iz23;have X7:=As hv;have ht:=hL (aA (Pf (i:Int).toNat)).toNat K;have hr:=hT (aR (N (aA (Pf (i:Int).toNat)).toNat)).toNat K;refine aF hv (aF (AG ht) (aI (Bq hr) (ac ?_)));have hb:∀b,decide (100000000000<E (max (sw (Ec (G (aR (N (aA (Pf (i:Int).toNat)).toNat)).toNat)) (A [.sl L] (zM (G (aR (N (aA (Pf (i:Int).toNat)).toNat)).toNat))) (cq (G (aR (N (aA (Pf (i:Int).toNat)).toNat)).toNat))) (bG (G (aR (N (aA (Pf (i:Int).toNat)).toNat)).toNat))*bf (N (aA (Pf (i:Int).toNat)).toNat)))=b->Mn G (N (aA (Pf i)).toNat)=b:=λb h=>by rw[Cv (Bl hr)]at h;exact h
 exact AP (λh6=>AF (QS 7 aO (atM (Ck h0) (we M) (we Q) (Ck h3) h5 (hb true h6)))) (λh6=>aK (next (Pn (ap7 (Ck h0) (we M) (we Q) (Ck h3) h5 (hb false h6)))))
theorem ib1 (hp:aC H G/\aC R N/\aC n5 q/\aC PS At):aU (Ev (yo H G R N O n5 q n7 f7 n9 f9 PS At Pi Pf Pm Ph)) (NF H G R N O n5 q n7 f7 n9 f9 PS At Pi Pf Pm Ph) (.tup [D (qt H G R N O n5 q n7 f7 n9 f9 PS At Pi Pf Pm Ph),D (qu H G R N O n5 q n7 f7 n9 f9 PS At Pi Pf Pm Ph),D (ji H G R N O n5 q n7 f7 n9 f9 PS At Pi Pf Pm Ph)]):=by
 obtain⟨p0,p2,p5,p11⟩:=hp;show aU _ _ (MR (Wp H G R N O n5 q n7 f7 n9 f9 PS At Pi Pf Pm Ph));unfold Wp;rw[← show bH H (A al G) R (A ao N)=bW H (A al G) R (A ao N) from congrArg (λt=>t.2.2) (nt ..),← GN];refine aI ⟨p0,p2⟩ (ac (AP (λh=>AF (by rw[h];rfl)) (λh=>?_)));rw[h];have V2:=uE (H:=H) (G:=A al G) (R:=R) (N:=A ao N) ((congrArg (λt=>t.2.2) (nt ..)).symm.trans (pU h));have hT:∀i,i<H->qR (G i):=λi hi=>qR.of_el (BE (V2.tb i hi));have hL:∀i:Nat,i<R->0<=aR (N i)/\aR (N i)<H:=λi hi=>(S2 V2.l0 (V2.lm i hi)).t;refine aI ⟨p5,p11⟩ (ac (AP (λh'=>AF (by rw[h'];rfl)) (λh'=>?_)));rw[h'];have V3:=Fx (H:=n5) (G:=A aZ q) (R:=n7) (N:=A bj f7) (n4:=n9) (f4:=A bm f9) (n6:=PS) (f6:=A aV At) (GN.symm.trans (pU h'));refine Af λ_=>?_;refine bC λTO=>AM (ac (AP (λM=>?_) (λM=>?_)))
 ·have hk:Bg H G O=4:=by
   unfold Bg;rw[show bg O (-1) (E ((H:Int)-1))=false from GU M];rfl
  exact AF (by rw[hk];rfl)
 ·have M:bg O (-1) (E ((H:Int)-1))=true:=Ck M
  refine AE (AE (AE (AE (AE (Ba (λQ=>?_) (AE (AP (λQ=>?_) (λQ=>?_))))))))
  ·exact K7 M Q TO
  ·have hx:=As (K7 M Q TO)
   refine aF Q (aI (Bq (hT _ K)) (ac (AP (λh3=>?_) (λh3=>?_))))
   ·have hk:Bg H G O=7:=by
     unfold Bg IK;rw[M,Q,← Cv (Bl (hT O.toNat K))];exact congrArg (λb=>bif b then(7:Int) else 0) h3
    exact AF (by rw[hk];rfl)
   have hk:Bg H G O=0:=by unfold Bg IK;rw[M,Q,← Cv (Bl (hT O.toNat K))];exact congrArg (λb=>bif b then(7:Int) else 0) h3
   rw[hk];cases hl:E2 PS Pi Pm with
   |true=>exact Af λ_=>AE (AE (Af λ_=>AE (AE (AE (Cf hl (AF rfl))))))
   |false=>obtain⟨e1,e2⟩:=xx hl;refine Af λ_=>AE (AE (Af λ_=>AE (AE (AE (CX hl (Af λ_=>aH ?_))))));subst e1 e2;exact avr _ _ _ _ _ _ _ _ _ _ _ _ _ _ _ (by have:=V3.l6;omega) hT hL
  ·have hk:Bg H G O=0:=by
    unfold Bg;rw[M,Q];rfl
   rw[hk];cases hl:E2 PS Pi Pm with
   |true=>exact Af λ_=>AE (AE (Af λ_=>AE (AE (AE (Cf hl (AF rfl))))))
   |false=>obtain⟨e1,e2⟩:=xx hl;refine Af λ_=>AE (AE (Af λ_=>AE (AE (AE (CX hl (Af λ_=>aH ?_))))));subst e1 e2;exact avr _ _ _ _ _ _ _ _ _ _ _ _ _ _ _ (by have:=V3.l6;omega) hT hL
theorem amJ (hp:aC H (A al G)/\aC R (A ao N)/\aC n5 (A aZ q)/\aC PS (A aV At)):aU (Ev (yo H G R N O n5 q n7 f7 n9 f9 PS At Pi Pf Pm Ph)) (NF H G R N O n5 q n7 f7 n9 f9 PS At Pi Pf Pm Ph) (.tup [D (qt H (A al G) R (A ao N) O n5 (A aZ q) n7 (A bj f7) n9 (A bm f9) PS (A aV At) Pi (A L Pf) Pm (A cg Ph)),D (qu H (A al G) R (A ao N) O n5 (A aZ q) n7 (A bj f7) n9 (A bm f9) PS (A aV At) Pi (A L Pf) Pm (A cg Ph)),D (ji H (A al G) R (A ao N) O n5 (A aZ q) n7 (A bj f7) n9 (A bm f9) PS (A aV At) Pi (A L Pf) Pm (A cg Ph))]):=ib1 H G R N O n5 q n7 f7 n9 f9 PS At Pi Pf Pm Ph hp
def adu:aD:=bP [.agg [.sl al,.sl ao,tI,.sl aZ,.sl bj,.sl bm,.sl aV,.sl L,.sl cg]] (λ
 |[.agg [.sl H G,.sl R N,.int _ O,.sl n5 q,.sl n7 f7,.sl n9 f9,.sl PS At,.sl Pi Pf,.sl Pm Ph]]=>aC H G/\aC R N/\aC n5 q/\aC PS At|_=>False) λ
 |[.agg [.sl H G,.sl R N,.int _ O,.sl n5 q,.sl n7 f7,.sl n9 f9,.sl PS At,.sl Pi Pf,.sl Pm Ph]]=>.tup [D (qt H G R N O n5 q n7 f7 n9 f9 PS At Pi Pf Pm Ph),D (qu H G R N O n5 q n7 f7 n9 f9 PS At Pi Pf Pm Ph),D (ji H G R N O n5 q n7 f7 n9 f9 PS At Pi Pf Pm Ph)]|_=>.any
theorem fm5:b7 adu 23:=aT FO λ_ hp=>kt (jcs ..) (amJ _ _ _ _ _ _ _ _ _ _ _ _ _ _ _ _ _ hp)
end
end Go.Dx
