/- Part 9 of a proof. No conditions. -/
import Derived.Test.YthpfocnocgnhjaaGreatDoorLt8
import Derived.Test.YthpfocnocgnhjaaGreatDoorRows
import Derived.Test.YthpfocnocgnhjaaGreatDoorTie
import Derived.Test.YthpfocnocgnhjaaGreatDoorCards
import Derived.ProofKit
import Derived.OpenShut
import Derived.LaidMore
import Derived.Lay
import Derived.SevenTiedAt
import Derived.Stop.Joined
set_option maxRecDepth 100000
set_option linter.unusedVariables false
set_option linter.unusedSimpArgs false
namespace Go.Proofs.YthpfocnocgnhjaaGreatDoor
open Go.ChangeShapes Go.WideShapes Go.ChangeAt Go.RowKit
section
variable {H:Type} {enc:TypeId×Value->H} {P:Program}
theorem xQ {f:Func} {s:ChangeSpec} {apart fresh handsOn again:Bool} {W W':World} {args:Array Value} {v:Value} {ds gs:List (DataW H)} {before pa pv:List MemPlace}
 (hW:DataW.Whole enc P f.params.toList s.vars apart W args.toList ds gs before)
 (hres:∀ (b:Nat) (sp:Nat->Bool) (hd:Bool),DataW.TrodAll enc P W' b sp hd f.resultTypes.toList (v.resultList f.resultTypes.size) (s.fn H (ds++gs)).results [])
 (hargs:∀ sp:Nat->Bool,(∀ p∈before,sp p.block=true)->DataW.TrodAll enc P W' 0 sp true f.params.toList args.toList (s.fn H (ds++gs)).args pa)
 (hvars:∀ sp:Nat->Bool,(∀ p∈before,sp p.block=true)->DataW.TrodVars enc P W' sp s.vars (s.fn H (ds++gs)).vars pv)
 (hps:before=pa++pv) (hb:Below W.heap.size W W')
 (hok:∀ (j:Nat) (t:TypeId) (r:Value),f.resultTypes[j]? = some t->(v.resultList f.resultTypes.size)[j]? = some r->Value.okWide P W' .any 0 t r) :
 s.post enc P f apart fresh handsOn again W args v W':=by
 have hlt:∀ p∈before,p.block<W.heap.size:=fun p hp=>hW.lt p hp
 have hold:∀ p∈before,(fun b=>decide (b<W.heap.size)) p.block=true:=fun p hp=>by simpa using hlt p hp
 refine ⟨ds,gs,before,[],pa,pv,hW,hres _ _ _,hargs _ hold,hvars _ hold,World.keptBut_mono (fun p hp=>⟨hp,?_⟩) (hb.frame (·∈before)),fun _=>?_⟩
 ·rw[hps,aqK]at hp
  exact Or.inr hp
 ·obtain ⟨_,_,_,_,_,hz,hn⟩:=hW
  refine ⟨hok,_,_,([]++pa)++pv,⟨[]++pa,pv,trodAll_append (hargs _ (fun _ _=>rfl)) (hres _ _ _),hvars _ (fun _ _=>rfl),rfl,?_,?_⟩,?_⟩
  ·intro b off hp
   have hin:MemPlace.cell b off∈before:=by rw[hps];simpa using hp
   rw [hb.frozen (hlt _ hin)]
   exact hz b off hin
  ·intro ha
   have:=hn ha
   rw [hps]at this
   simpa using this
  ·intro p hp _
   rw [hps]
   simpa using hp
theorem pJ (hl:laidOutB P=true) {W W':World} (hb:Below W.heap.size W W') {sp:Nat->Bool}:∀ {ts:List TypeId} {vs:List Value} {ds:List (DataW H)} {ps:List MemPlace},(ts.all fun t=>P.readableRec t&&decide (t<P.types.size))=true->DataW.TrodAll enc P W 0 (fun _=>true) true ts vs ds ps->(∀ x∈ps,x.block<W.heap.size)->(∀ x∈ps,sp x.block=true) ->
 DataW.TrodAll enc P W' 0 sp true ts vs ds ps
 |[],[],[],_,_,h,_,_=>h
 | t::ts,v::vs,d::ds,ps,ht,h,hlt,hs=>by
   simp only [adT,aaw,abN]at ht
   obtain ⟨p,q,h1,h2,rfl⟩:=h
   exact ⟨p,q,WideElems.Trod_stays hl ht.1.1 ht.1.2 h1 (fun x hx=>hb.same (hlt x (apc _ hx))) (fun x hx=>hs x (apc _ hx)),
    pJ hl hb ht.2 h2 (fun x hx=>hlt x (List.mem_append_right _ hx)) (fun x hx=>hs x (List.mem_append_right _ hx)),rfl⟩
 |[],_::_,_,_,_,h,_,_=>by simp[DataW.TrodAll]at h
 |[],[],_::_,_,_,h,_,_=>by simp[DataW.TrodAll]at h
 |_::_,[],_,_,_,h,_,_=>by simp[DataW.TrodAll]at h
 |_::_,_::_,[],_,_,h,_,_=>by simp[DataW.TrodAll]at h
end
theorem tO {H:Type} {enc:TypeId×Value->H} {P:Program} {W:World} {b:Nat} {sp:Nat->Bool} {hd:Bool}:∀ {ts:List TypeId} {vs:List Value} {ds:List (DataW H)} {ps:List MemPlace},DataW.TrodAll enc P W b sp hd ts vs ds ps->ds.length=ts.length
 |[],[],[],_,_=>rfl
 |t::ts,v::vs,d::ds,ps,h=>by obtain⟨p,q,h1,h2,rfl⟩:=h;simp[tO h2]
 |[],_::_,_,_,h=>by simp[DataW.TrodAll]at h
 |[],[],_::_,_,h=>by simp[DataW.TrodAll]at h
 |_::_,[],_,_,h=>by simp[DataW.TrodAll]at h
 |_::_,_::_,[],_,h=>by simp[DataW.TrodAll]at h
theorem own:ownKnob Tryz.prog.godebug=none:=by kernel_rfl
theorem Yd:laidOutB Tryz.prog=true:=by kernel_rfl
end Go.Proofs.YthpfocnocgnhjaaGreatDoor
namespace Go.Proofs.YthpfocnocgnhjaaGreatDoor
open Go.ChangeShapes Go.WideShapes Go.ChangeAt Go.RowKit
def JV:List (String×DataW Unit):=Rows.lightSumsRow.laid
set_option maxRecDepth 100000 in
theorem lifted {tys:List Dx.Ty} (hty:Dx.argTys Tryz.prog 20 Tryz.f3.params.toList=some tys) (hOk:(Dx.vP (Dx.lawC tys)).Ok Tryz.prog 3) (os:Os) (started:os.Started) (H:Type) (enc:TypeId×Value->H) :
 ReturnsInHanded {} Tryz.checked os 3 .any (fun w args=>(Rows.lightSumsSpec.pre enc Tryz.prog Tryz.f3 [] false w args/\laidMetH Tryz.prog JV w)/\sizedMet enc Tryz.prog Tryz.f3 (OpenSpec.ofChange Rows.lightSumsSpec) false w args)
  (Rows.lightSumsSpec.post enc Tryz.prog Tryz.f3 false true false false):=by
 refine returnsInHanded_of_change_and (C:=Tryz.checked) (X:=fun w _=>laidMetH Tryz.prog JV w) (fun _ _ _ hh h=>h.of_heap hh) own started bb Tryz.func3
  (ChangeSpec.witness_shaped (enc:=enc) (C:=Tryz.checked) (os:=os) (X:=fun w _=>laidMetH Tryz.prog JV w) false (World.laidAll Tryz.prog os JV) #[.agg #[.slice none 0 0,.slice none 0 0,.int .i64 0,.slice none 0 0,.slice none 0 0,.slice none 0 0,.slice none 0 0,.slice none 0 0,.slice none 0 0],.agg #[.int .i64 0,.int .i64 0,.int .i64 0,.int .i64 0,.int .i64 0,.int .i64 0,.int .i64 0,.int .i64 0,.int .i64 0,.int .i64 0,.int .i64 0,.int .i64 0]] 8 (World.laidAll_os _ _ _)
    (World.shaped_of_ZipB bb bb) bb bb bb
    (by rw[MakeChecks.laidMetH_plain _ _ _ bb];exact laidMet_laidAll _ bb bb)) ?_
 intro W base args ds gs before hval0 hW hc _ hL _
 have hval:∀ (j:Nat) t v,Tryz.f3.params.toList[j]? = some t->args[j]? = some v->Value.okWide Tryz.prog W .any base t v:=fun j t v h1 h2=>hval0 j t v (by simpa using h1) h2
 have hW':=hW
 obtain ⟨p,q,hA,hV,rfl,_,_⟩:=hW
 obtain ⟨rfl,rfl⟩:=trodVars_none hV
 simp only [apz]at hW'
 refine (Dx.law_calls hOk hty hval hA).mono fun e W' ⟨he,hb⟩=>?_
 subst he
 have hpar:Tryz.f3.params.toList.length=2:=by kernel_rfl
 have hlen:=tO hA
 rw [hpar]at hlen
 obtain ⟨d1,d2,rfl⟩:∃ d1 d2,ds=[d1,d2]:=by
  match ds,hlen with
  |[d1,d2],_=>exact⟨d1,d2,rfl⟩
 exact ⟨_,rfl,xQ (pa:=p) (pv:=[]) hW' (fun _ _ _=>trodAll_mk1 (shut_bool (t:=4) bb _)) (fun sp hs=>pJ Yd hb bb hA (fun x hx=>hW'.lt x hx) hs) (fun _ _=>rfl) (by simp) hb (ok_one (t:=4) bb rfl (okWide_bool_mk bb _))⟩
theorem pW {a b:Bool} (h:a=true) (k:b=true):(a&&b)=true:=by rw[h,k];rfl
theorem jf0:(Rows.lightSumsRow.wf (OpenSpec.ofChange Rows.lightSumsSpec))=true:=by kernel_rfl
theorem jf1:(laidOutB Tryz.prog)=true:=by kernel_rfl
theorem jf2:(mapsRowed Tryz.prog)=true:=by kernel_rfl
theorem jf3:(Tryz.f3.params.all (Tryz.prog.readableRec ·))=true:=by kernel_rfl
theorem jf4:(namedTie Tryz.prog Rows.lightSumsRow.named Rows.lightSumsSpec.vars)=true:=by kernel_rfl
theorem jf5:((Rows.lightSumsRow.stops==[]))=true:=by kernel_rfl
theorem jf6:((Tryz.prog.stops==[]))=true:=by kernel_rfl
theorem jf7:((Rows.lightSumsRow.knobs==[]))=true:=by kernel_rfl
theorem jf8:((Tryz.prog.stopKnobs==[]))=true:=by kernel_rfl
theorem jf9:((Rows.lightSumsRow.inPlace==Tryz.prog.inPlace 3))=true:=by kernel_rfl
theorem aqH:((Rows.lightSumsRow.unfollowed==Tryz.prog.unfollowed 3))=true:=by kernel_rfl
theorem ap4:((Rows.lightSumsRow.recurses==Tryz.prog.recurses 3))=true:=by kernel_rfl
theorem arY:((Rows.lightSumsRow.named==Tryz.prog.varsNamed 3))=true:=by kernel_rfl
theorem ar8:((Rows.lightSumsRow.maps==(Tryz.f3.params.toList++Rows.lightSumsSpec.plain.varTypes Tryz.prog).any (Tryz.prog.mapsRec ·)))=true:=by kernel_rfl
theorem apy:((Rows.lightSumsRow.ifaces==(Tryz.f3.params.toList++Rows.lightSumsSpec.plain.varTypes Tryz.prog).any (Tryz.prog.ifacesRec ·)))=true:=by kernel_rfl
theorem ybo:((Rows.lightSumsRow.mapsOut==Tryz.prog.mapsAmong Tryz.f3.resultTypes.toList))=true:=by kernel_rfl
theorem arv:((Rows.lightSumsRow.loops==(Tryz.f3.params.toList++Rows.lightSumsSpec.plain.varTypes Tryz.prog).any (Tryz.prog.loopsFrom ·)))=true:=by kernel_rfl
theorem aqy:((Rows.lightSumsRow.wideKeys==(Tryz.f3.params.toList++Rows.lightSumsSpec.plain.varTypes Tryz.prog++Tryz.f3.resultTypes.toList).any (Tryz.prog.wideKeysFrom ·)))=true:=by kernel_rfl
theorem apW:(Rows.lightSumsSpec.vars.all (Tryz.prog.varReadable ·))=true:=by kernel_rfl
theorem aq2:(Tryz.f3.resultTypes.all (fun t=>Tryz.prog.readableRec t&&decide (t<Tryz.prog.types.size)))=true:=by kernel_rfl
theorem aql:((Rows.lightSumsRow.ifacesOut==Tryz.f3.resultTypes.toList.any (Tryz.prog.ifacesRec ·)))=true:=by kernel_rfl
theorem ar1:((Rows.lightSumsRow.loopsOut==Tryz.f3.resultTypes.toList.any (Tryz.prog.loopsFrom ·)))=true:=by kernel_rfl
theorem arl:((Rows.lightSumsRow.plainKeys==Tryz.prog.plainKeys))=true:=by kernel_rfl
theorem aqn:(Rows.lightSumsRow.shortTexts.isNone)=true:=by kernel_rfl
theorem ar9:(Tryz.prog.stopsHeard)=true:=by kernel_rfl
theorem arQ:(Tryz.prog.mayEnter)=true:=by kernel_rfl
theorem apx:((Rows.lightSumsRow.lifted==Tryz.prog.liftsFinal))=true:=by kernel_rfl
theorem arx:((Tryz.prog.make==some Rows.lightSumsRow.make))=true:=by kernel_rfl
theorem aqq:((Rows.lightSumsRow.kinds==(if Rows.lightSumsRow.domain.isEmpty then [] else Tryz.f3.params.toList.map fun t=>match Tryz.prog.underlying t with|some (.int k)=>some k|_=>none)))=true:=by kernel_rfl
theorem arU:((Rows.lightSumsRow.pinned==Rows.lightSumsRow.pinnedBy))=true:=by kernel_rfl
theorem ap1:((Rows.lightSumsRow.veiled==(Tryz.f3.params.toList++Rows.lightSumsSpec.plain.varTypes Tryz.prog++Tryz.f3.resultTypes.toList).any (Tryz.prog.veiledRec ·)))=true:=by kernel_rfl
theorem aru:(Rows.lightSumsRow.veiledFits Tryz.prog Tryz.f3.params.toList (Tryz.f3.params.toList++Rows.lightSumsSpec.plain.varTypes Tryz.prog++Tryz.f3.resultTypes.toList))=true:=by kernel_rfl
set_option maxRecDepth 100000 in
theorem jf:joinedFacts Tryz.pinned.checked.prog 3 Tryz.f3 Rows.lightSumsSpec Rows.lightSumsRow=true:=pW (pW (pW (pW (pW (pW (pW (pW (pW (pW (pW (pW (pW (pW (pW (pW (pW (pW (pW (pW (pW (pW (pW (pW (pW (pW (pW (pW (pW (pW (pW (jf0) jf1) jf2) jf3) jf4) jf5) jf6) jf7) jf8) jf9) aqH) ap4) arY) ar8) apy) ybo) arv) aqy) apW) aq2) aql) ar1) arl) aqn) ar9) arQ) apx) arx) aqq) arU) ap1) aru
theorem jfn:Tryz.pinned.checked.prog.funcNamed Rows.lightSumsRow.func=some 3:=by kernel_rfl
theorem jfi:decide (Tryz.f3.isInstance Tryz.pinned.checked.prog Rows.lightSumsRow.origin Rows.lightSumsRow.targs)=true:=by kernel_rfl
theorem jfw:Tryz.f3.isWrapper Tryz.pinned.checked.prog Rows.lightSumsRow.wrapper Rows.lightSumsRow.mainSum:=by unfold Func.isWrapper;first|(rw[aby (by decide +kernel)];kernel_rfl)|(rw[aaT (by decide +kernel)];exact⟨rfl,rfl⟩)
theorem jct:Rows.lightSumsRow.wfByText (OpenSpec.ofChange Rows.lightSumsSpec)=true:=by kernel_rfl
theorem jcm : Tryz.pinned.checked.prog.mainIs = some (true, "b75abc27d7224dd83ec94adb84d3ea236446437492972a9c6db0cd644c3f5c2c".toList) := by kernel_rfl
theorem jcl:false=Tryz.pinned.checked.prog.looks []:=by kernel_rfl
theorem jcs:(Tryz.f3.params.toList.all fun u=>!Tryz.prog.wantsStandIn u)=true:=by kernel_rfl
theorem jcg:false=Rows.lightSumsRow.goesBy Tryz.pinned.checked.prog:=by kernel_rfl
section
variable {tys:List Dx.Ty} (hty:Dx.argTys Tryz.prog 20 Tryz.f3.params.toList=some tys) (hOk:(Dx.vP (Dx.lawC tys)).Ok Tryz.prog 3)
include tys hty hOk
theorem amq:Rows.LightSumsSaid :=
 OpenClaim.holds_of_wide 3 Tryz.f3 rfl rfl rfl rfl rfl rfl rfl ⟨rfl,rfl,rfl,rfl,rfl⟩ rfl rfl rfl rfl rfl jfn Tryz.func3 jf
  (abg jfi) jfw (fun os started H enc _=>lifted hty hOk os started H enc)
theorem ap5:Rows.LightSumsCardSaid :=
 Claim7.holds_tied_plain_at .later [] [.data, .pinned] true (true, "b75abc27d7224dd83ec94adb84d3ea236446437492972a9c6db0cd644c3f5c2c") false (amq hty hOk) (fun _ h => by cases h) jct (fun _ h => by cases h) lightSums_row_tie rfl ⟨rfl, rfl⟩ jcm rfl
  (fun f fn hf hfn=>by
    obtain rfl:f=3:=Option.some.inj ((hf.symm.trans jfn:some f=some 3))
    obtain rfl:fn=Tryz.f3:=(Option.some.inj (Tryz.func3.symm.trans hfn)).symm
    exact ⟨jcl,fun j t ht=>by
     have hm:t∈Tryz.f3.params.toList:=by simpa using Array.mem_of_getElem? ht
     exact (show Tryz.prog.wantsStandIn t=false by simpa using List.all_eq_true.1 jcs t hm)⟩)
  jcg
end
theorem lightSums_card:Rows.LightSumsCardSaid:=ap5 (tys:=Dx.tys1011) bb Dx.ok1011
#print axioms lightSums_card
end Go.Proofs.YthpfocnocgnhjaaGreatDoor
