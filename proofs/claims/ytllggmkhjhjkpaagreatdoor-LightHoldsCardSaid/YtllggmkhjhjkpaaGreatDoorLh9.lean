/- Part 9 of a proof. No conditions. -/
import Derived.Test.YtllggmkhjhjkpaaGreatDoorLh8
import Derived.Test.YtllggmkhjhjkpaaGreatDoorRows
import Derived.Test.YtllggmkhjhjkpaaGreatDoorTie
import Derived.Test.YtllggmkhjhjkpaaGreatDoorCards
import Derived.ProofKit
import Derived.OpenShut
import Derived.LaidMore
import Derived.Lay
import Derived.SevenTiedAt
import Derived.Stop.Joined
set_option maxRecDepth 100000
set_option linter.unusedVariables false
set_option linter.unusedSimpArgs false
namespace Go.Proofs.YtllggmkhjhjkpaaGreatDoor
open Go.ChangeShapes Go.WideShapes Go.ChangeAt Go.RowKit
section
variable {Qa:Type} {enc:TypeId×Value->Qa} {P:Program}
theorem hno0 {f:Func} {s:ChangeSpec} {apart fresh handsOn again:Bool} {R2 W':World} {args:Array Value} {v:Value} {ds gs:List (DataW Qa)} {before pa pv:List MemPlace}
 (hW:DataW.Whole enc P f.params.toList s.vars apart R2 args.toList ds gs before)
 (hres:∀(b:Nat) (sp:Nat->Bool) (hd:Bool),DataW.TrodAll enc P W' b sp hd f.resultTypes.toList (v.resultList f.resultTypes.size) (s.fn Qa (ds++gs)).results [])
 (hargs:∀sp:Nat->Bool,(∀p∈before,sp p.block=true)->DataW.TrodAll enc P W' 0 sp true f.params.toList args.toList (s.fn Qa (ds++gs)).args pa)
 (hvars:∀sp:Nat->Bool,(∀p∈before,sp p.block=true)->DataW.TrodVars enc P W' sp s.vars (s.fn Qa (ds++gs)).vars pv)
 (Xd:before=pa++pv) (hb:Below R2.heap.size R2 W')
 (Tb:∀(j:Nat) (t:TypeId) (r:Value),f.resultTypes[j]? = some t->(v.resultList f.resultTypes.size)[j]? = some r->Value.okWide P W' .any 0 t r) :
 s.post enc P f apart fresh handsOn again R2 args v W':=by
 have Qw:∀p∈before,p.block<R2.heap.size:=λp hp=>hW.lt p hp;have hold:∀p∈before,(λb=>decide (b<R2.heap.size)) p.block=true:=λp hp=>by simpa using Qw p hp
 refine⟨ds,gs,before,[],pa,pv,hW,hres _ _ _,hargs _ hold,hvars _ hold,World.keptBut_mono (λp hp=>⟨hp,?_⟩) (hb.frame (·∈before)),λ_=>?_⟩
 ·rw[Xd,KD]at hp;exact Or.inr hp
 ·obtain ⟨_,_,_,_,_,hz,hn⟩:=hW
  refine⟨Tb,_,_,([]++pa)++pv,⟨[]++pa,pv,trodAll_append (hargs _ (λ_ _=>rfl)) (hres _ _ _),hvars _ (λ_ _=>rfl),rfl,?_,?_⟩,?_⟩
  ·intro b off hp
   have Sz:MemPlace.cell b off∈before:=by rw[Xd];simpa using hp
   rw[hb.frozen (Qw _ Sz)];exact hz b off Sz
  ·intro ha;have:=hn ha;rw[Xd]at this;simpa using this
  ·intro p hp _;rw[Xd];simpa using hp
theorem hf0 (hl:laidOutB P=true) {R2 W':World} (hb:Below R2.heap.size R2 W') {sp:Nat->Bool}:∀ {ts:List TypeId} {vs:List Value} {ds:List (DataW Qa)} {ps:List MemPlace},(ts.all λt=>P.readableRec t&&decide (t<P.types.size))=true->DataW.TrodAll enc P R2 0 (λ_=>true) true ts vs ds ps->(∀ x∈ps,x.block<R2.heap.size)->(∀ x∈ps,sp x.block=true) ->
 DataW.TrodAll enc P W' 0 sp true ts vs ds ps
 |[],[],[],_,_,h,_,_=>h
 |t::ts,v::vs,d::ds,ps,ht,h,Qw,hs=>by
   simp only[Gw,Eg,GV]at ht;obtain⟨p,At,M,N,rfl⟩:=h
   exact ⟨p,At,WideElems.Trod_stays hl ht.1.1 ht.1.2 M (λx hx=>hb.same (Qw x (Kv _ hx))) (λx hx=>hs x (Kv _ hx)),
    hf0 hl hb ht.2 N (λx hx=>Qw x (List.mem_append_right _ hx)) (λx hx=>hs x (List.mem_append_right _ hx)),rfl⟩
 |[],_::_,_,_,_,h,_,_=>by simp[DataW.TrodAll]at h
 |[],[],_::_,_,_,h,_,_=>by simp[DataW.TrodAll]at h
 |_::_,[],_,_,_,h,_,_=>by simp[DataW.TrodAll]at h
 |_::_,_::_,[],_,_,h,_,_=>by simp[DataW.TrodAll]at h
end
theorem his {Qa:Type} {enc:TypeId×Value->Qa} {P:Program} {R2:World} {b:Nat} {sp:Nat->Bool} {hd:Bool}:∀ {ts:List TypeId} {vs:List Value} {ds:List (DataW Qa)} {ps:List MemPlace},DataW.TrodAll enc P R2 b sp hd ts vs ds ps->ds.length=ts.length
 |[],[],[],_,_=>rfl|t::ts,v::vs,d::ds,ps,h=>by obtain⟨p,At,M,N,rfl⟩:=h;simp[his N]
 |[],_::_,_,_,h=>by simp[DataW.TrodAll]at h
 |[],[],_::_,_,h=>by simp[DataW.TrodAll]at h
 |_::_,[],_,_,h=>by simp[DataW.TrodAll]at h
 |_::_,_::_,[],_,h=>by simp[DataW.TrodAll]at h
theorem own:ownKnob Tryz.prog.godebug=none:=by kernel_rfl
theorem nm8:laidOutB Tryz.prog=true:=by kernel_rfl
end Go.Proofs.YtllggmkhjhjkpaaGreatDoor
namespace Go.Proofs.YtllggmkhjhjkpaaGreatDoor
open Go.ChangeShapes Go.WideShapes Go.ChangeAt Go.RowKit
def JD:List (String×DataW Unit):=Rows.lightHoldsRow.laid
set_option maxRecDepth 100000 in
theorem lifted {tys:List Dx.Ty} (TG:Dx.argTys Tryz.prog 20 Tryz.f3.params.toList=some tys) (hOk:(Dx.vP (Dx.lawC tys)).Ok Tryz.prog 3) (os:Os) (started:os.Started) (Qa:Type) (enc:TypeId×Value->Qa) :
 ReturnsInHanded {} Tryz.checked os 3 .any (λw args=>(Rows.lightHoldsSpec.pre enc Tryz.prog Tryz.f3 [] false w args/\laidMetH Tryz.prog JD w)/\sizedMet enc Tryz.prog Tryz.f3 (OpenSpec.ofChange Rows.lightHoldsSpec) false w args)
  (Rows.lightHoldsSpec.post enc Tryz.prog Tryz.f3 false true false false):=by
 refine returnsInHanded_of_change_and (C:=Tryz.checked) (X:=λw _=>laidMetH Tryz.prog JD w) (λ_ _ _ hh h=>h.of_heap hh) own started bw Tryz.func3
  (ChangeSpec.witness_shaped (enc:=enc) (C:=Tryz.checked) (os:=os) (X:=λw _=>laidMetH Tryz.prog JD w) false (World.laidAll Tryz.prog os JD) #[.agg #[.slice none 0 0,.slice none 0 0,.int .i64 0,.slice none 0 0,.slice none 0 0,.slice none 0 0,.slice none 0 0,.slice none 0 0,.slice none 0 0],.agg #[.int .i64 0,.int .i64 0,.int .i64 0,.int .i64 0],.agg #[.int .u8 0,.int .u8 0,.int .u8 0,.int .u8 0]] 8 (World.laidAll_os _ _ _)
    (World.shaped_of_ZipB bw bw) bw bw bw
    (by rw[MakeChecks.laidMetH_plain _ _ _ bw];exact laidMet_laidAll _ bw bw)) ?_
 intro R2 base args ds gs before nx11 hW hc _ hL _;have hval:∀(j:Nat) t v,Tryz.f3.params.toList[j]? = some t->args[j]? = some v->Value.okWide Tryz.prog R2 .any base t v:=λj t v M N=>nx11 j t v (by simpa using M) N;have rK:=hW;obtain⟨p,At,hA,hV,rfl,_,_⟩:=hW;obtain⟨rfl,rfl⟩:=trodVars_none hV;simp only[LK]at rK;refine(Dx.law_calls hOk TG hval hA).mono λe W' ⟨he,hb⟩=>?_;subst he;have hpar:Tryz.f3.params.toList.length=3:=by kernel_rfl
 have hlen:=his hA;rw[hpar]at hlen;obtain⟨d1,d2,d3,rfl⟩:∃ d1 d2 d3,ds=[d1,d2,d3]:=by
  match ds,hlen with
  |[d1,d2,d3],_=>exact⟨d1,d2,d3,rfl⟩
 exact⟨_,rfl,hno0 (pa:=p) (pv:=[]) rK (λ_ _ _=>trodAll_mk1 (shut_bool (t:=4) bw _)) (λsp hs=>hf0 nm8 hb bw hA (λx hx=>rK.lt x hx) hs) (λ_ _=>rfl) av hb (ok_one (t:=4) bw rfl (okWide_bool_mk bw _))⟩
theorem qW {a b:Bool} (h:a=true) (k:b=true):(a&&b)=true:=by rw[h,k];rfl
theorem fg11:(Rows.lightHoldsRow.wf (OpenSpec.ofChange Rows.lightHoldsSpec))=true:=by kernel_rfl
theorem fh11:(laidOutB Tryz.prog)=true:=by kernel_rfl
theorem fm15:(mapsRowed Tryz.prog)=true:=by kernel_rfl
theorem fo18:(Tryz.f3.params.all (Tryz.prog.readableRec ·))=true:=by kernel_rfl
theorem fp17:(namedTie Tryz.prog Rows.lightHoldsRow.named Rows.lightHoldsSpec.vars)=true:=by kernel_rfl
theorem frzH:((Rows.lightHoldsRow.stops==[]))=true:=by kernel_rfl
theorem fs10:((Tryz.prog.stops==[]))=true:=by kernel_rfl
theorem fu11:((Rows.lightHoldsRow.knobs==[]))=true:=by kernel_rfl
theorem fu13:((Tryz.prog.stopKnobs==[]))=true:=by kernel_rfl
theorem fw12:((Rows.lightHoldsRow.inPlace==Tryz.prog.inPlace 3))=true:=by kernel_rfl
theorem ap8:((Rows.lightHoldsRow.unfollowed==Tryz.prog.unfollowed 3))=true:=by kernel_rfl
theorem apx:((Rows.lightHoldsRow.recurses==Tryz.prog.recurses 3))=true:=by kernel_rfl
theorem arv:((Rows.lightHoldsRow.named==Tryz.prog.varsNamed 3))=true:=by kernel_rfl
theorem arH:((Rows.lightHoldsRow.maps==(Tryz.f3.params.toList++Rows.lightHoldsSpec.plain.varTypes Tryz.prog).any (Tryz.prog.mapsRec ·)))=true:=by kernel_rfl
theorem ao5:((Rows.lightHoldsRow.ifaces==(Tryz.f3.params.toList++Rows.lightHoldsSpec.plain.varTypes Tryz.prog).any (Tryz.prog.ifacesRec ·)))=true:=by kernel_rfl
theorem arR:((Rows.lightHoldsRow.mapsOut==Tryz.prog.mapsAmong Tryz.f3.resultTypes.toList))=true:=by kernel_rfl
theorem aqW:((Rows.lightHoldsRow.loops==(Tryz.f3.params.toList++Rows.lightHoldsSpec.plain.varTypes Tryz.prog).any (Tryz.prog.loopsFrom ·)))=true:=by kernel_rfl
theorem apX:((Rows.lightHoldsRow.wideKeys==(Tryz.f3.params.toList++Rows.lightHoldsSpec.plain.varTypes Tryz.prog++Tryz.f3.resultTypes.toList).any (Tryz.prog.wideKeysFrom ·)))=true:=by kernel_rfl
theorem apr:(Rows.lightHoldsSpec.vars.all (Tryz.prog.varReadable ·))=true:=by kernel_rfl
theorem aqs:(Tryz.f3.resultTypes.all (λt=>Tryz.prog.readableRec t&&decide (t<Tryz.prog.types.size)))=true:=by kernel_rfl
theorem apL:((Rows.lightHoldsRow.ifacesOut==Tryz.f3.resultTypes.toList.any (Tryz.prog.ifacesRec ·)))=true:=by kernel_rfl
theorem arz:((Rows.lightHoldsRow.loopsOut==Tryz.f3.resultTypes.toList.any (Tryz.prog.loopsFrom ·)))=true:=by kernel_rfl
theorem aqM:((Rows.lightHoldsRow.plainKeys==Tryz.prog.plainKeys))=true:=by kernel_rfl
theorem apM:(Rows.lightHoldsRow.shortTexts.isNone)=true:=by kernel_rfl
theorem arI:(Tryz.prog.stopsHeard)=true:=by kernel_rfl
theorem arl:(Tryz.prog.mayEnter)=true:=by kernel_rfl
theorem ao4:((Rows.lightHoldsRow.lifted==Tryz.prog.liftsFinal))=true:=by kernel_rfl
theorem aqZ:((Tryz.prog.make==some Rows.lightHoldsRow.make))=true:=by kernel_rfl
theorem apP:((Rows.lightHoldsRow.kinds==(if Rows.lightHoldsRow.domain.isEmpty then [] else Tryz.f3.params.toList.map λt=>match Tryz.prog.underlying t with|some (.int k)=>some k|_=>none)))=true:=by kernel_rfl
theorem arq:((Rows.lightHoldsRow.pinned==Rows.lightHoldsRow.pinnedBy))=true:=by kernel_rfl
theorem apu:((Rows.lightHoldsRow.veiled==(Tryz.f3.params.toList++Rows.lightHoldsSpec.plain.varTypes Tryz.prog++Tryz.f3.resultTypes.toList).any (Tryz.prog.veiledRec ·)))=true:=by kernel_rfl
theorem aqV:(Rows.lightHoldsRow.veiledFits Tryz.prog Tryz.f3.params.toList (Tryz.f3.params.toList++Rows.lightHoldsSpec.plain.varTypes Tryz.prog++Tryz.f3.resultTypes.toList))=true:=by kernel_rfl
set_option maxRecDepth 100000 in
theorem ff11:joinedFacts Tryz.pinned.checked.prog 3 Tryz.f3 Rows.lightHoldsSpec Rows.lightHoldsRow=true:=qW (qW (qW (qW (qW (qW (qW (qW (qW (qW (qW (qW (qW (qW (qW (qW (qW (qW (qW (qW (qW (qW (qW (qW (qW (qW (qW (qW (qW (qW (qW (fg11) fh11) fm15) fo18) fp17) frzH) fs10) fu11) fu13) fw12) ap8) apx) arv) arH) ao5) arR) aqW) apX) apr) aqs) apL) arz) aqM) apM) arI) arl) ao4) aqZ) apP) arq) apu) aqV
theorem jfn:Tryz.pinned.checked.prog.funcNamed Rows.lightHoldsRow.func=some 3:=by kernel_rfl
theorem fw14:decide (Tryz.f3.isInstance Tryz.pinned.checked.prog Rows.lightHoldsRow.origin Rows.lightHoldsRow.targs)=true:=by kernel_rfl
theorem fx10:Tryz.f3.isWrapper Tryz.pinned.checked.prog Rows.lightHoldsRow.wrapper Rows.lightHoldsRow.mainSum:=by unfold Func.isWrapper;first|(rw[E5 (by decide +kernel)];kernel_rfl)|(rw[DX (by decide +kernel)];exact⟨rfl,rfl⟩)
theorem fe11:Rows.lightHoldsRow.wfByText (OpenSpec.ofChange Rows.lightHoldsSpec)=true:=by kernel_rfl
theorem evBr : Tryz.pinned.checked.prog.mainIs = some (true, "c4cc4bebecb6db6dad9906a9255ee6d90c0db6239cca12c0e759778b7d748cb5".toList) := by kernel_rfl
theorem bs57:false=Tryz.pinned.checked.prog.looks []:=by kernel_rfl
theorem fd11:(Tryz.f3.params.toList.all λu=>!Tryz.prog.wantsStandIn u)=true:=by kernel_rfl
theorem Post:false=Rows.lightHoldsRow.goesBy Tryz.pinned.checked.prog:=by kernel_rfl
section
variable {tys:List Dx.Ty} (TG:Dx.argTys Tryz.prog 20 Tryz.f3.params.toList=some tys) (hOk:(Dx.vP (Dx.lawC tys)).Ok Tryz.prog 3)
include tys TG hOk
theorem aln:Rows.LightHoldsSaid :=
 OpenClaim.holds_of_wide 3 Tryz.f3 rfl rfl rfl rfl rfl rfl rfl ⟨rfl,rfl,rfl,rfl,rfl⟩ rfl rfl rfl rfl rfl jfn Tryz.func3 ff11
  (Fv fw14) fx10 (λos started Qa enc _=>lifted TG hOk os started Qa enc)
theorem apy:Rows.LightHoldsCardSaid :=
 Claim7.holds_tied_plain_at .later [] [.data, .pinned] true (true, "c4cc4bebecb6db6dad9906a9255ee6d90c0db6239cca12c0e759778b7d748cb5") false (aln TG hOk) (fun _ h => by cases h) fe11 (fun _ h => by cases h) lightHolds_row_tie rfl ⟨rfl, rfl⟩ evBr rfl
  (fun f fn hf sT=>by
    obtain rfl:f=3:=Option.some.inj ((hf.symm.trans jfn:some f=some 3))
    obtain rfl:fn=Tryz.f3:=(Option.some.inj (Tryz.func3.symm.trans sT)).symm
    exact⟨bs57,λj t ht=>by
     have hm:t∈Tryz.f3.params.toList:=by simpa using Array.mem_of_getElem? ht
     exact(show Tryz.prog.wantsStandIn t=false by simpa using List.all_eq_true.1 fd11 t hm)⟩)
  Post
end
theorem lightHolds_card:Rows.LightHoldsCardSaid:=apy (tys:=Dx.tys1005) bw Dx.ok1005
#print axioms lightHolds_card
end Go.Proofs.YtllggmkhjhjkpaaGreatDoor
