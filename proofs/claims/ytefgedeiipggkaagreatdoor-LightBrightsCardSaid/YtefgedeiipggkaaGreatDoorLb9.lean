/- Part 9 of a proof. No conditions. -/
import Derived.Test.YtefgedeiipggkaaGreatDoorLb8
import Derived.Test.YtefgedeiipggkaaGreatDoorRows
import Derived.Test.YtefgedeiipggkaaGreatDoorTie
import Derived.Test.YtefgedeiipggkaaGreatDoorCards
import Derived.ProofKit
import Derived.OpenShut
import Derived.LaidMore
import Derived.Lay
import Derived.SevenTiedAt
import Derived.Stop.Joined
set_option maxRecDepth 100000
set_option linter.unusedVariables false
set_option linter.unusedSimpArgs false
namespace Go.Proofs.YtefgedeiipggkaaGreatDoor
open Go.ChangeShapes Go.WideShapes Go.ChangeAt Go.RowKit
section
variable {Pu:Type} {enc:TypeId×Value->Pu} {P:Program}
theorem if10 {f:Func} {s:ChangeSpec} {apart fresh handsOn again:Bool} {Q8 W':World} {args:Array Value} {v:Value} {ds gs:List (DataW Pu)} {before pa pv:List MemPlace}
 (hW:DataW.Whole enc P f.params.toList s.vars apart Q8 args.toList ds gs before)
 (hres:∀(b:Nat) (sp:Nat->Bool) (hd:Bool),DataW.TrodAll enc P W' b sp hd f.resultTypes.toList (v.resultList f.resultTypes.size) (s.fn Pu (ds++gs)).results [])
 (hargs:∀sp:Nat->Bool,(∀p∈before,sp p.block=true)->DataW.TrodAll enc P W' 0 sp true f.params.toList args.toList (s.fn Pu (ds++gs)).args pa)
 (hvars:∀sp:Nat->Bool,(∀p∈before,sp p.block=true)->DataW.TrodVars enc P W' sp s.vars (s.fn Pu (ds++gs)).vars pv)
 (X4:before=pa++pv) (hb:Below Q8.heap.size Q8 W')
 (Sk:∀(j:Nat) (t:TypeId) (r:Value),f.resultTypes[j]? = some t->(v.resultList f.resultTypes.size)[j]? = some r->Value.okWide P W' .any 0 t r) :
 s.post enc P f apart fresh handsOn again Q8 args v W':=by
 have Pj:∀p∈before,p.block<Q8.heap.size:=λp hp=>hW.lt p hp;have hold:∀p∈before,(λb=>decide (b<Q8.heap.size)) p.block=true:=λp hp=>by simpa using Pj p hp
 refine⟨ds,gs,before,[],pa,pv,hW,hres _ _ _,hargs _ hold,hvars _ hold,World.keptBut_mono (λp hp=>⟨hp,?_⟩) (hb.frame (·∈before)),λ_=>?_⟩
 ·rw[X4,IC]at hp;exact Or.inr hp
 ·obtain ⟨_,_,_,_,_,hz,hn⟩:=hW
  refine⟨Sk,_,_,([]++pa)++pv,⟨[]++pa,pv,trodAll_append (hargs _ (λ_ _=>rfl)) (hres _ _ _),hvars _ (λ_ _=>rfl),rfl,?_,?_⟩,?_⟩
  ·intro b off hp
   have RV:MemPlace.cell b off∈before:=by rw[X4];simpa using hp
   rw[hb.frozen (Pj _ RV)];exact hz b off RV
  ·intro ha;have:=hn ha;rw[X4]at this;simpa using this
  ·intro p hp _;rw[X4];simpa using hp
theorem hi3 (hl:laidOutB P=true) {Q8 W':World} (hb:Below Q8.heap.size Q8 W') {sp:Nat->Bool}:∀ {ts:List TypeId} {vs:List Value} {ds:List (DataW Pu)} {ps:List MemPlace},(ts.all λt=>P.readableRec t&&decide (t<P.types.size))=true->DataW.TrodAll enc P Q8 0 (λ_=>true) true ts vs ds ps->(∀ x∈ps,x.block<Q8.heap.size)->(∀ x∈ps,sp x.block=true) ->
 DataW.TrodAll enc P W' 0 sp true ts vs ds ps
 |[],[],[],_,_,h,_,_=>h
 |t::ts,v::vs,d::ds,ps,ht,h,Pj,hs=>by
   simp only[Dj,Ae,DJ]at ht;obtain⟨p,PX,M,Q,rfl⟩:=h
   exact ⟨p,PX,WideElems.Trod_stays hl ht.1.1 ht.1.2 M (λx hx=>hb.same (Pj x (Jj _ hx))) (λx hx=>hs x (Jj _ hx)),
    hi3 hl hb ht.2 Q (λx hx=>Pj x (List.mem_append_right _ hx)) (λx hx=>hs x (List.mem_append_right _ hx)),rfl⟩
 |[],_::_,_,_,_,h,_,_=>by simp[DataW.TrodAll]at h
 |[],[],_::_,_,_,h,_,_=>by simp[DataW.TrodAll]at h
 |_::_,[],_,_,_,h,_,_=>by simp[DataW.TrodAll]at h
 |_::_,_::_,[],_,_,h,_,_=>by simp[DataW.TrodAll]at h
end
theorem hjy {Pu:Type} {enc:TypeId×Value->Pu} {P:Program} {Q8:World} {b:Nat} {sp:Nat->Bool} {hd:Bool}:∀ {ts:List TypeId} {vs:List Value} {ds:List (DataW Pu)} {ps:List MemPlace},DataW.TrodAll enc P Q8 b sp hd ts vs ds ps->ds.length=ts.length
 |[],[],[],_,_=>rfl|t::ts,v::vs,d::ds,ps,h=>by obtain⟨p,PX,M,Q,rfl⟩:=h;simp[hjy Q]
 |[],_::_,_,_,h=>by simp[DataW.TrodAll]at h
 |[],[],_::_,_,h=>by simp[DataW.TrodAll]at h
 |_::_,[],_,_,h=>by simp[DataW.TrodAll]at h
 |_::_,_::_,[],_,h=>by simp[DataW.TrodAll]at h
theorem own:ownKnob Tryz.prog.godebug=none:=by kernel_rfl
theorem sl0:laidOutB Tryz.prog=true:=by kernel_rfl
end Go.Proofs.YtefgedeiipggkaaGreatDoor
namespace Go.Proofs.YtefgedeiipggkaaGreatDoor
open Go.ChangeShapes Go.WideShapes Go.ChangeAt Go.RowKit
def KU:List (String×DataW Unit):=Rows.lightBrightsRow.laid
set_option maxRecDepth 100000 in
theorem lifted {tys:List Dx.Ty} (SH:Dx.argTys Tryz.prog 20 Tryz.f4.params.toList=some tys) (hOk:(Dx.vP (Dx.lawC tys)).Ok Tryz.prog 4) (os:Os) (started:os.Started) (Pu:Type) (enc:TypeId×Value->Pu) :
 ReturnsInHanded {} Tryz.checked os 4 .any (λw args=>(Rows.lightBrightsSpec.pre enc Tryz.prog Tryz.f4 [] false w args/\laidMetH Tryz.prog KU w)/\sizedMet enc Tryz.prog Tryz.f4 (OpenSpec.ofChange Rows.lightBrightsSpec) false w args)
  (Rows.lightBrightsSpec.post enc Tryz.prog Tryz.f4 false true false false):=by
 refine returnsInHanded_of_change_and (C:=Tryz.checked) (X:=λw _=>laidMetH Tryz.prog KU w) (λ_ _ _ hh h=>h.of_heap hh) own started bD Tryz.func4
  (ChangeSpec.witness_shaped (enc:=enc) (C:=Tryz.checked) (os:=os) (X:=λw _=>laidMetH Tryz.prog KU w) false (World.laidAll Tryz.prog os KU) #[.agg #[.slice none 0 0,.slice none 0 0,.int .i64 0,.slice none 0 0,.slice none 0 0,.slice none 0 0,.slice none 0 0,.slice none 0 0,.slice none 0 0],.agg #[.int .i64 0,.int .i64 0,.int .i64 0,.int .i64 0],.agg #[.int .i64 0,.int .i64 0]] 8 (World.laidAll_os _ _ _)
    (World.shaped_of_ZipB bD bD) bD bD bD
    (by rw[MakeChecks.laidMetH_plain _ _ _ bD];exact laidMet_laidAll _ bD bD)) ?_
 intro Q8 base args ds gs before nw10 hW hc _ hL _;have hval:∀(j:Nat) t v,Tryz.f4.params.toList[j]? = some t->args[j]? = some v->Value.okWide Tryz.prog Q8 .any base t v:=λj t v M Q=>nw10 j t v (by simpa using M) Q;have lx:=hW;obtain⟨p,PX,hA,hV,rfl,_,_⟩:=hW;obtain⟨rfl,rfl⟩:=trodVars_none hV;simp only[Jc]at lx;refine(Dx.law_calls hOk SH hval hA).mono λe W' ⟨he,hb⟩=>?_;subst he;have hpar:Tryz.f4.params.toList.length=3:=by kernel_rfl
 have hlen:=hjy hA;rw[hpar]at hlen;obtain⟨d1,d2,d3,rfl⟩:∃ d1 d2 d3,ds=[d1,d2,d3]:=by
  match ds,hlen with
  |[d1,d2,d3],_=>exact⟨d1,d2,d3,rfl⟩
 exact⟨_,rfl,if10 (pa:=p) (pv:=[]) lx (λ_ _ _=>trodAll_mk1 (shut_bool (t:=4) bD _)) (λsp hs=>hi3 sl0 hb bD hA (λx hx=>lx.lt x hx) hs) (λ_ _=>rfl) au hb (ok_one (t:=4) bD rfl (okWide_bool_mk bD _))⟩
theorem rG {a b:Bool} (h:a=true) (k:b=true):(a&&b)=true:=by rw[h,k];rfl
theorem fg11:(Rows.lightBrightsRow.wf (OpenSpec.ofChange Rows.lightBrightsSpec))=true:=by kernel_rfl
theorem fh11:(laidOutB Tryz.prog)=true:=by kernel_rfl
theorem fm15:(mapsRowed Tryz.prog)=true:=by kernel_rfl
theorem fo18:(Tryz.f4.params.all (Tryz.prog.readableRec ·))=true:=by kernel_rfl
theorem fp17:(namedTie Tryz.prog Rows.lightBrightsRow.named Rows.lightBrightsSpec.vars)=true:=by kernel_rfl
theorem frzH:((Rows.lightBrightsRow.stops==[]))=true:=by kernel_rfl
theorem fs10:((Tryz.prog.stops==[]))=true:=by kernel_rfl
theorem fu11:((Rows.lightBrightsRow.knobs==[]))=true:=by kernel_rfl
theorem fu13:((Tryz.prog.stopKnobs==[]))=true:=by kernel_rfl
theorem fw12:((Rows.lightBrightsRow.inPlace==Tryz.prog.inPlace 4))=true:=by kernel_rfl
theorem axC:((Rows.lightBrightsRow.unfollowed==Tryz.prog.unfollowed 4))=true:=by kernel_rfl
theorem awP:((Rows.lightBrightsRow.recurses==Tryz.prog.recurses 4))=true:=by kernel_rfl
theorem azw:((Rows.lightBrightsRow.named==Tryz.prog.varsNamed 4))=true:=by kernel_rfl
theorem azM:((Rows.lightBrightsRow.maps==(Tryz.f4.params.toList++Rows.lightBrightsSpec.plain.varTypes Tryz.prog).any (Tryz.prog.mapsRec ·)))=true:=by kernel_rfl
theorem av4:((Rows.lightBrightsRow.ifaces==(Tryz.f4.params.toList++Rows.lightBrightsSpec.plain.varTypes Tryz.prog).any (Tryz.prog.ifacesRec ·)))=true:=by kernel_rfl
theorem aAb:((Rows.lightBrightsRow.mapsOut==Tryz.prog.mapsAmong Tryz.f4.resultTypes.toList))=true:=by kernel_rfl
theorem ayG:((Rows.lightBrightsRow.loops==(Tryz.f4.params.toList++Rows.lightBrightsSpec.plain.varTypes Tryz.prog).any (Tryz.prog.loopsFrom ·)))=true:=by kernel_rfl
theorem az7:((Rows.lightBrightsRow.wideKeys==(Tryz.f4.params.toList++Rows.lightBrightsSpec.plain.varTypes Tryz.prog++Tryz.f4.resultTypes.toList).any (Tryz.prog.wideKeysFrom ·)))=true:=by kernel_rfl
theorem awE:(Rows.lightBrightsSpec.vars.all (Tryz.prog.varReadable ·))=true:=by kernel_rfl
theorem awm:(Tryz.f4.resultTypes.all (λt=>Tryz.prog.readableRec t&&decide (t<Tryz.prog.types.size)))=true:=by kernel_rfl
theorem aw7:((Rows.lightBrightsRow.ifacesOut==Tryz.f4.resultTypes.toList.any (Tryz.prog.ifacesRec ·)))=true:=by kernel_rfl
theorem azB:((Rows.lightBrightsRow.loopsOut==Tryz.f4.resultTypes.toList.any (Tryz.prog.loopsFrom ·)))=true:=by kernel_rfl
theorem ayo:((Rows.lightBrightsRow.plainKeys==Tryz.prog.plainKeys))=true:=by kernel_rfl
theorem aw9:(Rows.lightBrightsRow.shortTexts.isNone)=true:=by kernel_rfl
theorem azO:(Tryz.prog.stopsHeard)=true:=by kernel_rfl
theorem azf:(Tryz.prog.mayEnter)=true:=by kernel_rfl
theorem av3:((Rows.lightBrightsRow.lifted==Tryz.prog.liftsFinal))=true:=by kernel_rfl
theorem ayK:((Tryz.prog.make==some Rows.lightBrightsRow.make))=true:=by kernel_rfl
theorem axh:((Rows.lightBrightsRow.kinds==(if Rows.lightBrightsRow.domain.isEmpty then [] else Tryz.f4.params.toList.map λt=>match Tryz.prog.underlying t with|some (.int k)=>some k|_=>none)))=true:=by kernel_rfl
theorem azp:((Rows.lightBrightsRow.pinned==Rows.lightBrightsRow.pinnedBy))=true:=by kernel_rfl
theorem awK:((Rows.lightBrightsRow.veiled==(Tryz.f4.params.toList++Rows.lightBrightsSpec.plain.varTypes Tryz.prog++Tryz.f4.resultTypes.toList).any (Tryz.prog.veiledRec ·)))=true:=by kernel_rfl
theorem ayD:(Rows.lightBrightsRow.veiledFits Tryz.prog Tryz.f4.params.toList (Tryz.f4.params.toList++Rows.lightBrightsSpec.plain.varTypes Tryz.prog++Tryz.f4.resultTypes.toList))=true:=by kernel_rfl
set_option maxRecDepth 100000 in
theorem ff11:joinedFacts Tryz.pinned.checked.prog 4 Tryz.f4 Rows.lightBrightsSpec Rows.lightBrightsRow=true:=rG (rG (rG (rG (rG (rG (rG (rG (rG (rG (rG (rG (rG (rG (rG (rG (rG (rG (rG (rG (rG (rG (rG (rG (rG (rG (rG (rG (rG (rG (rG (fg11) fh11) fm15) fo18) fp17) frzH) fs10) fu11) fu13) fw12) axC) awP) azw) azM) av4) aAb) ayG) az7) awE) awm) aw7) azB) ayo) aw9) azO) azf) av3) ayK) axh) azp) awK) ayD
theorem jfn:Tryz.pinned.checked.prog.funcNamed Rows.lightBrightsRow.func=some 4:=by kernel_rfl
theorem fw14:decide (Tryz.f4.isInstance Tryz.pinned.checked.prog Rows.lightBrightsRow.origin Rows.lightBrightsRow.targs)=true:=by kernel_rfl
theorem fx10:Tryz.f4.isWrapper Tryz.pinned.checked.prog Rows.lightBrightsRow.wrapper Rows.lightBrightsRow.mainSum:=by unfold Func.isWrapper;first|(rw[Ad (by decide +kernel)];kernel_rfl)|(rw[AU (by decide +kernel)];exact⟨rfl,rfl⟩)
theorem fe11:Rows.lightBrightsRow.wfByText (OpenSpec.ofChange Rows.lightBrightsSpec)=true:=by kernel_rfl
theorem evBr : Tryz.pinned.checked.prog.mainIs = some (true, "02511621f7f3cff9786ed33d881f6a1a46a90cac463bb3397d9c62ee79e31115".toList) := by kernel_rfl
theorem bs57:false=Tryz.pinned.checked.prog.looks []:=by kernel_rfl
theorem fd11:(Tryz.f4.params.toList.all λu=>!Tryz.prog.wantsStandIn u)=true:=by kernel_rfl
theorem Post:false=Rows.lightBrightsRow.goesBy Tryz.pinned.checked.prog:=by kernel_rfl
section
variable {tys:List Dx.Ty} (SH:Dx.argTys Tryz.prog 20 Tryz.f4.params.toList=some tys) (hOk:(Dx.vP (Dx.lawC tys)).Ok Tryz.prog 4)
include tys SH hOk
theorem arh:Rows.LightBrightsSaid :=
 OpenClaim.holds_of_wide 4 Tryz.f4 rfl rfl rfl rfl rfl rfl rfl ⟨rfl,rfl,rfl,rfl,rfl⟩ rfl rfl rfl rfl rfl jfn Tryz.func4 ff11
  (As fw14) fx10 (λos started Pu enc _=>lifted SH hOk os started Pu enc)
theorem awQ:Rows.LightBrightsCardSaid :=
 Claim7.holds_tied_plain_at .later [] [.data, .pinned] true (true, "02511621f7f3cff9786ed33d881f6a1a46a90cac463bb3397d9c62ee79e31115") false (arh SH hOk) (fun _ h => by cases h) fe11 (fun _ h => by cases h) lightBrights_row_tie rfl ⟨rfl, rfl⟩ evBr rfl
  (fun f fn hf oY=>by
    obtain rfl:f=4:=Option.some.inj ((hf.symm.trans jfn:some f=some 4))
    obtain rfl:fn=Tryz.f4:=(Option.some.inj (Tryz.func4.symm.trans oY)).symm
    exact⟨bs57,λj t ht=>by
     have hm:t∈Tryz.f4.params.toList:=by simpa using Array.mem_of_getElem? ht
     exact(show Tryz.prog.wantsStandIn t=false by simpa using List.all_eq_true.1 fd11 t hm)⟩)
  Post
end
theorem lightBrights_card:Rows.LightBrightsCardSaid:=awQ (tys:=Dx.tys1004) bD Dx.ok1004
#print axioms lightBrights_card
end Go.Proofs.YtefgedeiipggkaaGreatDoor
