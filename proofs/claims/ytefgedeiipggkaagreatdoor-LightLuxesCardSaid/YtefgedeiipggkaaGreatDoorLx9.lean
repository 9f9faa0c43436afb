/- Part 9 of a proof. No conditions. -/
import Derived.Test.YtefgedeiipggkaaGreatDoorLx8
import Derived.Test.YtefgedeiipggkaaGreatDoorRows
import Derived.Test.YtefgedeiipggkaaGreatDoorTie
import Derived.Test.YtefgedeiipggkaaGreatDoorCards
import Derived.ProofKit
import Derived.OpenShut
import Derived.LaidMore
import Derived.Lay
import Derived.SevenTiedAt
import Derived.Stop.Joined
set_option maxRecDepth 100000
set_option linter.unusedVariables false
set_option linter.unusedSimpArgs false
namespace Go.Proofs.YtefgedeiipggkaaGreatDoor
open Go.ChangeShapes Go.WideShapes Go.ChangeAt Go.RowKit
section
variable {QR:Type} {enc:TypeId×Value->QR} {P:Program}
theorem id10 {f:Func} {s:ChangeSpec} {apart fresh handsOn again:Bool} {QW W':World} {args:Array Value} {v:Value} {ds gs:List (DataW QR)} {before pa pv:List MemPlace}
 (hW:DataW.Whole enc P f.params.toList s.vars apart QW args.toList ds gs before)
 (hres:∀(b:Nat) (sp:Nat->Bool) (hd:Bool),DataW.TrodAll enc P W' b sp hd f.resultTypes.toList (v.resultList f.resultTypes.size) (s.fn QR (ds++gs)).results [])
 (hargs:∀sp:Nat->Bool,(∀p∈before,sp p.block=true)->DataW.TrodAll enc P W' 0 sp true f.params.toList args.toList (s.fn QR (ds++gs)).args pa)
 (hvars:∀sp:Nat->Bool,(∀p∈before,sp p.block=true)->DataW.TrodVars enc P W' sp s.vars (s.fn QR (ds++gs)).vars pv)
 (XE:before=pa++pv) (hb:Below QW.heap.size QW W')
 (TN:∀(j:Nat) (t:TypeId) (r:Value),f.resultTypes[j]? = some t->(v.resultList f.resultTypes.size)[j]? = some r->Value.okWide P W' .any 0 t r) :
 s.post enc P f apart fresh handsOn again QW args v W':=by
 have Q7:∀p∈before,p.block<QW.heap.size:=λp hp=>hW.lt p hp;have hold:∀p∈before,(λb=>decide (b<QW.heap.size)) p.block=true:=λp hp=>by simpa using Q7 p hp
 refine⟨ds,gs,before,[],pa,pv,hW,hres _ _ _,hargs _ hold,hvars _ hold,World.keptBut_mono (λp hp=>⟨hp,?_⟩) (hb.frame (·∈before)),λ_=>?_⟩
 ·rw[XE,Ih]at hp;exact Or.inr hp
 ·obtain ⟨_,_,_,_,_,hz,hn⟩:=hW
  refine⟨TN,_,_,([]++pa)++pv,⟨[]++pa,pv,trodAll_append (hargs _ (λ_ _=>rfl)) (hres _ _ _),hvars _ (λ_ _=>rfl),rfl,?_,?_⟩,?_⟩
  ·intro b off hp
   have Ru:MemPlace.cell b off∈before:=by rw[XE];simpa using hp
   rw[hb.frozen (Q7 _ Ru)];exact hz b off Ru
  ·intro ha;have:=hn ha;rw[XE]at this;simpa using this
  ·intro p hp _;rw[XE];simpa using hp
theorem hf2 (hl:laidOutB P=true) {QW W':World} (hb:Below QW.heap.size QW W') {sp:Nat->Bool}:∀ {ts:List TypeId} {vs:List Value} {ds:List (DataW QR)} {ps:List MemPlace},(ts.all λt=>P.readableRec t&&decide (t<P.types.size))=true->DataW.TrodAll enc P QW 0 (λ_=>true) true ts vs ds ps->(∀ x∈ps,x.block<QW.heap.size)->(∀ x∈ps,sp x.block=true) ->
 DataW.TrodAll enc P W' 0 sp true ts vs ds ps
 |[],[],[],_,_,h,_,_=>h
 |t::ts,v::vs,d::ds,ps,ht,h,Q7,hs=>by
   simp only[EJ,D2,E0]at ht;obtain⟨p,Pw,M,N,rfl⟩:=h
   exact ⟨p,Pw,WideElems.Trod_stays hl ht.1.1 ht.1.2 M (λx hx=>hb.same (Q7 x (K2 _ hx))) (λx hx=>hs x (K2 _ hx)),
    hf2 hl hb ht.2 N (λx hx=>Q7 x (List.mem_append_right _ hx)) (λx hx=>hs x (List.mem_append_right _ hx)),rfl⟩
 |[],_::_,_,_,_,h,_,_=>by simp[DataW.TrodAll]at h
 |[],[],_::_,_,_,h,_,_=>by simp[DataW.TrodAll]at h
 |_::_,[],_,_,_,h,_,_=>by simp[DataW.TrodAll]at h
 |_::_,_::_,[],_,_,h,_,_=>by simp[DataW.TrodAll]at h
end
theorem hi0 {QR:Type} {enc:TypeId×Value->QR} {P:Program} {QW:World} {b:Nat} {sp:Nat->Bool} {hd:Bool}:∀ {ts:List TypeId} {vs:List Value} {ds:List (DataW QR)} {ps:List MemPlace},DataW.TrodAll enc P QW b sp hd ts vs ds ps->ds.length=ts.length
 |[],[],[],_,_=>rfl|t::ts,v::vs,d::ds,ps,h=>by obtain⟨p,Pw,M,N,rfl⟩:=h;simp[hi0 N]
 |[],_::_,_,_,h=>by simp[DataW.TrodAll]at h
 |[],[],_::_,_,h=>by simp[DataW.TrodAll]at h
 |_::_,[],_,_,h=>by simp[DataW.TrodAll]at h
 |_::_,_::_,[],_,h=>by simp[DataW.TrodAll]at h
theorem own:ownKnob Tryz.prog.godebug=none:=by kernel_rfl
theorem nh5:laidOutB Tryz.prog=true:=by kernel_rfl
end Go.Proofs.YtefgedeiipggkaaGreatDoor
namespace Go.Proofs.YtefgedeiipggkaaGreatDoor
open Go.ChangeShapes Go.WideShapes Go.ChangeAt Go.RowKit
def Kr:List (String×DataW Unit):=Rows.lightLuxesRow.laid
set_option maxRecDepth 100000 in
theorem lifted {tys:List Dx.Ty} (Sk:Dx.argTys Tryz.prog 20 Tryz.f3.params.toList=some tys) (hOk:(Dx.vP (Dx.lawC tys)).Ok Tryz.prog 3) (os:Os) (started:os.Started) (QR:Type) (enc:TypeId×Value->QR) :
 ReturnsInHanded {} Tryz.checked os 3 .any (λw args=>(Rows.lightLuxesSpec.pre enc Tryz.prog Tryz.f3 [] false w args/\laidMetH Tryz.prog Kr w)/\sizedMet enc Tryz.prog Tryz.f3 (OpenSpec.ofChange Rows.lightLuxesSpec) false w args)
  (Rows.lightLuxesSpec.post enc Tryz.prog Tryz.f3 false true false false):=by
 refine returnsInHanded_of_change_and (C:=Tryz.checked) (X:=λw _=>laidMetH Tryz.prog Kr w) (λ_ _ _ hh h=>h.of_heap hh) own started bw Tryz.func3
  (ChangeSpec.witness_shaped (enc:=enc) (C:=Tryz.checked) (os:=os) (X:=λw _=>laidMetH Tryz.prog Kr w) false (World.laidAll Tryz.prog os Kr) #[.agg #[.slice none 0 0,.slice none 0 0,.int .i64 0,.slice none 0 0,.slice none 0 0,.slice none 0 0,.slice none 0 0,.slice none 0 0,.slice none 0 0],.agg #[.int .i64 0,.int .i64 0,.int .i64 0,.int .i64 0]] 8 (World.laidAll_os _ _ _)
    (World.shaped_of_ZipB bw bw) bw bw bw
    (by rw[MakeChecks.laidMetH_plain _ _ _ bw];exact laidMet_laidAll _ bw bw)) ?_
 intro QW base args ds gs before np10 hW hc _ hL _;have hval:∀(j:Nat) t v,Tryz.f3.params.toList[j]? = some t->args[j]? = some v->Value.okWide Tryz.prog QW .any base t v:=λj t v M N=>np10 j t v (by simpa using M) N;have nT:=hW;obtain⟨p,Pw,hA,hV,rfl,_,_⟩:=hW;obtain⟨rfl,rfl⟩:=trodVars_none hV;simp only[KE]at nT;refine(Dx.law_calls hOk Sk hval hA).mono λe W' ⟨he,hb⟩=>?_;subst he;have hpar:Tryz.f3.params.toList.length=2:=by kernel_rfl
 have hlen:=hi0 hA;rw[hpar]at hlen;obtain⟨d1,d2,rfl⟩:∃ d1 d2,ds=[d1,d2]:=by
  match ds,hlen with
  |[d1,d2],_=>exact⟨d1,d2,rfl⟩
 exact⟨_,rfl,id10 (pa:=p) (pv:=[]) nT (λ_ _ _=>trodAll_mk1 (shut_bool (t:=4) bw _)) (λsp hs=>hf2 nh5 hb bw hA (λx hx=>nT.lt x hx) hs) (λ_ _=>rfl) au hb (ok_one (t:=4) bw rfl (okWide_bool_mk bw _))⟩
theorem rI {a b:Bool} (h:a=true) (k:b=true):(a&&b)=true:=by rw[h,k];rfl
theorem fg11:(Rows.lightLuxesRow.wf (OpenSpec.ofChange Rows.lightLuxesSpec))=true:=by kernel_rfl
theorem fh11:(laidOutB Tryz.prog)=true:=by kernel_rfl
theorem fm15:(mapsRowed Tryz.prog)=true:=by kernel_rfl
theorem fo18:(Tryz.f3.params.all (Tryz.prog.readableRec ·))=true:=by kernel_rfl
theorem fp17:(namedTie Tryz.prog Rows.lightLuxesRow.named Rows.lightLuxesSpec.vars)=true:=by kernel_rfl
theorem frzH:((Rows.lightLuxesRow.stops==[]))=true:=by kernel_rfl
theorem fs10:((Tryz.prog.stops==[]))=true:=by kernel_rfl
theorem fu11:((Rows.lightLuxesRow.knobs==[]))=true:=by kernel_rfl
theorem fu13:((Tryz.prog.stopKnobs==[]))=true:=by kernel_rfl
theorem fw12:((Rows.lightLuxesRow.inPlace==Tryz.prog.inPlace 3))=true:=by kernel_rfl
theorem awC:((Rows.lightLuxesRow.unfollowed==Tryz.prog.unfollowed 3))=true:=by kernel_rfl
theorem avP:((Rows.lightLuxesRow.recurses==Tryz.prog.recurses 3))=true:=by kernel_rfl
theorem ayw:((Rows.lightLuxesRow.named==Tryz.prog.varsNamed 3))=true:=by kernel_rfl
theorem ayM:((Rows.lightLuxesRow.maps==(Tryz.f3.params.toList++Rows.lightLuxesSpec.plain.varTypes Tryz.prog).any (Tryz.prog.mapsRec ·)))=true:=by kernel_rfl
theorem au3:((Rows.lightLuxesRow.ifaces==(Tryz.f3.params.toList++Rows.lightLuxesSpec.plain.varTypes Tryz.prog).any (Tryz.prog.ifacesRec ·)))=true:=by kernel_rfl
theorem azb:((Rows.lightLuxesRow.mapsOut==Tryz.prog.mapsAmong Tryz.f3.resultTypes.toList))=true:=by kernel_rfl
theorem axG:((Rows.lightLuxesRow.loops==(Tryz.f3.params.toList++Rows.lightLuxesSpec.plain.varTypes Tryz.prog).any (Tryz.prog.loopsFrom ·)))=true:=by kernel_rfl
theorem ay7:((Rows.lightLuxesRow.wideKeys==(Tryz.f3.params.toList++Rows.lightLuxesSpec.plain.varTypes Tryz.prog++Tryz.f3.resultTypes.toList).any (Tryz.prog.wideKeysFrom ·)))=true:=by kernel_rfl
theorem avE:(Rows.lightLuxesSpec.vars.all (Tryz.prog.varReadable ·))=true:=by kernel_rfl
theorem avm:(Tryz.f3.resultTypes.all (λt=>Tryz.prog.readableRec t&&decide (t<Tryz.prog.types.size)))=true:=by kernel_rfl
theorem av6:((Rows.lightLuxesRow.ifacesOut==Tryz.f3.resultTypes.toList.any (Tryz.prog.ifacesRec ·)))=true:=by kernel_rfl
theorem ayB:((Rows.lightLuxesRow.loopsOut==Tryz.f3.resultTypes.toList.any (Tryz.prog.loopsFrom ·)))=true:=by kernel_rfl
theorem axo:((Rows.lightLuxesRow.plainKeys==Tryz.prog.plainKeys))=true:=by kernel_rfl
theorem av8:(Rows.lightLuxesRow.shortTexts.isNone)=true:=by kernel_rfl
theorem ayO:(Tryz.prog.stopsHeard)=true:=by kernel_rfl
theorem aye:(Tryz.prog.mayEnter)=true:=by kernel_rfl
theorem au2:((Rows.lightLuxesRow.lifted==Tryz.prog.liftsFinal))=true:=by kernel_rfl
theorem axK:((Tryz.prog.make==some Rows.lightLuxesRow.make))=true:=by kernel_rfl
theorem awg:((Rows.lightLuxesRow.kinds==(if Rows.lightLuxesRow.domain.isEmpty then [] else Tryz.f3.params.toList.map λt=>match Tryz.prog.underlying t with|some (.int k)=>some k|_=>none)))=true:=by kernel_rfl
theorem ayp:((Rows.lightLuxesRow.pinned==Rows.lightLuxesRow.pinnedBy))=true:=by kernel_rfl
theorem avK:((Rows.lightLuxesRow.veiled==(Tryz.f3.params.toList++Rows.lightLuxesSpec.plain.varTypes Tryz.prog++Tryz.f3.resultTypes.toList).any (Tryz.prog.veiledRec ·)))=true:=by kernel_rfl
theorem axD:(Rows.lightLuxesRow.veiledFits Tryz.prog Tryz.f3.params.toList (Tryz.f3.params.toList++Rows.lightLuxesSpec.plain.varTypes Tryz.prog++Tryz.f3.resultTypes.toList))=true:=by kernel_rfl
set_option maxRecDepth 100000 in
theorem ff11:joinedFacts Tryz.pinned.checked.prog 3 Tryz.f3 Rows.lightLuxesSpec Rows.lightLuxesRow=true:=rI (rI (rI (rI (rI (rI (rI (rI (rI (rI (rI (rI (rI (rI (rI (rI (rI (rI (rI (rI (rI (rI (rI (rI (rI (rI (rI (rI (rI (rI (rI (fg11) fh11) fm15) fo18) fp17) frzH) fs10) fu11) fu13) fw12) awC) avP) ayw) ayM) au3) azb) axG) ay7) avE) avm) av6) ayB) axo) av8) ayO) aye) au2) axK) awg) ayp) avK) axD
theorem jfn:Tryz.pinned.checked.prog.funcNamed Rows.lightLuxesRow.func=some 3:=by kernel_rfl
theorem fw14:decide (Tryz.f3.isInstance Tryz.pinned.checked.prog Rows.lightLuxesRow.origin Rows.lightLuxesRow.targs)=true:=by kernel_rfl
theorem fx10:Tryz.f3.isWrapper Tryz.pinned.checked.prog Rows.lightLuxesRow.wrapper Rows.lightLuxesRow.mainSum:=by unfold Func.isWrapper;first|(rw[CV (by decide +kernel)];kernel_rfl)|(rw[C4 (by decide +kernel)];exact⟨rfl,rfl⟩)
theorem fe11:Rows.lightLuxesRow.wfByText (OpenSpec.ofChange Rows.lightLuxesSpec)=true:=by kernel_rfl
theorem evBr : Tryz.pinned.checked.prog.mainIs = some (true, "02511621f7f3cff9786ed33d881f6a1a46a90cac463bb3397d9c62ee79e31115".toList) := by kernel_rfl
theorem bs57:false=Tryz.pinned.checked.prog.looks []:=by kernel_rfl
theorem fd11:(Tryz.f3.params.toList.all λu=>!Tryz.prog.wantsStandIn u)=true:=by kernel_rfl
theorem Post:false=Rows.lightLuxesRow.goesBy Tryz.pinned.checked.prog:=by kernel_rfl
section
variable {tys:List Dx.Ty} (Sk:Dx.argTys Tryz.prog 20 Tryz.f3.params.toList=some tys) (hOk:(Dx.vP (Dx.lawC tys)).Ok Tryz.prog 3)
include tys Sk hOk
theorem aqk:Rows.LightLuxesSaid :=
 OpenClaim.holds_of_wide 3 Tryz.f3 rfl rfl rfl rfl rfl rfl rfl ⟨rfl,rfl,rfl,rfl,rfl⟩ rfl rfl rfl rfl rfl jfn Tryz.func3 ff11
  (DU fw14) fx10 (λos started QR enc _=>lifted Sk hOk os started QR enc)
theorem avQ:Rows.LightLuxesCardSaid :=
 Claim7.holds_tied_plain_at .later [] [.data, .pinned] true (true, "02511621f7f3cff9786ed33d881f6a1a46a90cac463bb3397d9c62ee79e31115") false (aqk Sk hOk) (fun _ h => by cases h) fe11 (fun _ h => by cases h) lightLuxes_row_tie rfl ⟨rfl, rfl⟩ evBr rfl
  (fun f fn hf pr=>by
    obtain rfl:f=3:=Option.some.inj ((hf.symm.trans jfn:some f=some 3))
    obtain rfl:fn=Tryz.f3:=(Option.some.inj (Tryz.func3.symm.trans pr)).symm
    exact⟨bs57,λj t ht=>by
     have hm:t∈Tryz.f3.params.toList:=by simpa using Array.mem_of_getElem? ht
     exact(show Tryz.prog.wantsStandIn t=false by simpa using List.all_eq_true.1 fd11 t hm)⟩)
  Post
end
theorem lightLuxes_card:Rows.LightLuxesCardSaid:=avQ (tys:=Dx.tys1003) bw Dx.ok1003
#print axioms lightLuxes_card
end Go.Proofs.YtefgedeiipggkaaGreatDoor
