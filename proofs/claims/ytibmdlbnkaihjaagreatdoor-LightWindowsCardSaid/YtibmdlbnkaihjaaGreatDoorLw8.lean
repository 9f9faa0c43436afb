/- Part 8 of a proof. No conditions. -/
import Derived.Test.YtibmdlbnkaihjaaGreatDoorLw7
import Derived.Test.YtibmdlbnkaihjaaGreatDoorRows
import Derived.Test.YtibmdlbnkaihjaaGreatDoorTie
import Derived.Test.YtibmdlbnkaihjaaGreatDoorCards
import Derived.ProofKit
import Derived.OpenShut
import Derived.LaidMore
import Derived.Lay
import Derived.SevenTiedAt
import Derived.Stop.Joined
set_option maxRecDepth 100000
set_option linter.unusedVariables false
set_option linter.unusedSimpArgs false
namespace Go.Proofs.YtibmdlbnkaihjaaGreatDoor
open Go.ChangeShapes Go.WideShapes Go.ChangeAt Go.RowKit
section
variable {H:Type} {enc:TypeId×Value->H} {P:Program}
theorem wb {f:Func} {s:ChangeSpec} {apart fresh handsOn again:Bool} {W W':World} {args:Array Value} {v:Value} {ds gs:List (DataW H)} {before pa pv:List MemPlace}
 (hW:DataW.Whole enc P f.params.toList s.vars apart W args.toList ds gs before)
 (hres:∀ (b:Nat) (sp:Nat->Bool) (hd:Bool),DataW.TrodAll enc P W' b sp hd f.resultTypes.toList (v.resultList f.resultTypes.size) (s.fn H (ds++gs)).results [])
 (hargs:∀ sp:Nat->Bool,(∀ p∈before,sp p.block=true)->DataW.TrodAll enc P W' 0 sp true f.params.toList args.toList (s.fn H (ds++gs)).args pa)
 (hvars:∀ sp:Nat->Bool,(∀ p∈before,sp p.block=true)->DataW.TrodVars enc P W' sp s.vars (s.fn H (ds++gs)).vars pv)
 (hps:before=pa++pv) (hb:Below W.heap.size W W')
 (hok:∀ (j:Nat) (t:TypeId) (r:Value),f.resultTypes[j]? = some t->(v.resultList f.resultTypes.size)[j]? = some r->Value.okWide P W' .any 0 t r) :
 s.post enc P f apart fresh handsOn again W args v W':=by
 have hlt:∀ p∈before,p.block<W.heap.size:=fun p hp=>hW.lt p hp
 have hold:∀ p∈before,(fun b=>decide (b<W.heap.size)) p.block=true:=fun p hp=>by simpa using hlt p hp
 refine ⟨ds,gs,before,[],pa,pv,hW,hres _ _ _,hargs _ hold,hvars _ hold,World.keptBut_mono (fun p hp=>⟨hp,?_⟩) (hb.frame (·∈before)),fun _=>?_⟩
 ·rw[hps,List.mem_append]at hp
  exact Or.inr hp
 ·obtain ⟨_,_,_,_,_,hz,hn⟩:=hW
  refine ⟨hok,_,_,([]++pa)++pv,⟨[]++pa,pv,trodAll_append (hargs _ (fun _ _=>rfl)) (hres _ _ _),hvars _ (fun _ _=>rfl),rfl,?_,?_⟩,?_⟩
  ·intro b off hp
   have hin:MemPlace.cell b off∈before:=by rw[hps];simpa using hp
   rw [hb.frozen (hlt _ hin)]
   exact hz b off hin
  ·intro ha
   have:=hn ha
   rw [hps]at this
   simpa using this
  ·intro p hp _
   rw [hps]
   simpa using hp
theorem oA (hl:laidOutB P=true) {W W':World} (hb:Below W.heap.size W W') {sp:Nat->Bool}:∀ {ts:List TypeId} {vs:List Value} {ds:List (DataW H)} {ps:List MemPlace},(ts.all fun t=>P.readableRec t&&decide (t<P.types.size))=true->DataW.TrodAll enc P W 0 (fun _=>true) true ts vs ds ps->(∀ x∈ps,x.block<W.heap.size)->(∀ x∈ps,sp x.block=true) ->
 DataW.TrodAll enc P W' 0 sp true ts vs ds ps
 |[],[],[],_,_,h,_,_=>h
 | t::ts,v::vs,d::ds,ps,ht,h,hlt,hs=>by
   simp only [List.all_cons,Bool.and_eq_true,decide_eq_true_eq]at ht
   obtain ⟨p,q,h1,h2,rfl⟩:=h
   exact ⟨p,q,WideElems.Trod_stays hl ht.1.1 ht.1.2 h1 (fun x hx=>hb.same (hlt x (List.mem_append_left _ hx))) (fun x hx=>hs x (List.mem_append_left _ hx)),
    oA hl hb ht.2 h2 (fun x hx=>hlt x (List.mem_append_right _ hx)) (fun x hx=>hs x (List.mem_append_right _ hx)),rfl⟩
 |[],_::_,_,_,_,h,_,_=>by simp[DataW.TrodAll]at h
 |[],[],_::_,_,_,h,_,_=>by simp[DataW.TrodAll]at h
 |_::_,[],_,_,_,h,_,_=>by simp[DataW.TrodAll]at h
 |_::_,_::_,[],_,_,h,_,_=>by simp[DataW.TrodAll]at h
end
theorem su {H:Type} {enc:TypeId×Value->H} {P:Program} {W:World} {b:Nat} {sp:Nat->Bool} {hd:Bool}:∀ {ts:List TypeId} {vs:List Value} {ds:List (DataW H)} {ps:List MemPlace},DataW.TrodAll enc P W b sp hd ts vs ds ps->ds.length=ts.length
 |[],[],[],_,_=>rfl
 |t::ts,v::vs,d::ds,ps,h=>by obtain⟨p,q,h1,h2,rfl⟩:=h;simp[su h2]
 |[],_::_,_,_,h=>by simp[DataW.TrodAll]at h
 |[],[],_::_,_,h=>by simp[DataW.TrodAll]at h
 |_::_,[],_,_,h=>by simp[DataW.TrodAll]at h
 |_::_,_::_,[],_,h=>by simp[DataW.TrodAll]at h
theorem own:ownKnob Tryz.prog.godebug=none:=by kernel_rfl
theorem Vq:laidOutB Tryz.prog=true:=by kernel_rfl
end Go.Proofs.YtibmdlbnkaihjaaGreatDoor
namespace Go.Proofs.YtibmdlbnkaihjaaGreatDoor
open Go.ChangeShapes Go.WideShapes Go.ChangeAt Go.RowKit
def Hq:List (String×DataW Unit):=Rows.lightWindowsRow.laid
set_option maxRecDepth 100000 in
theorem lifted {tys:List Dx.Ty} (hty:Dx.argTys Tryz.prog 20 Tryz.f10.params.toList=some tys) (hOk:(Dx.vP (Dx.lawC tys)).Ok Tryz.prog 10) (os:Os) (started:os.Started) (H:Type) (enc:TypeId×Value->H) :
 ReturnsInHanded {} Tryz.checked os 10 .any (fun w args=>(Rows.lightWindowsSpec.pre enc Tryz.prog Tryz.f10 [] false w args/\laidMetH Tryz.prog Hq w)/\sizedMet enc Tryz.prog Tryz.f10 (OpenSpec.ofChange Rows.lightWindowsSpec) false w args)
  (Rows.lightWindowsSpec.post enc Tryz.prog Tryz.f10 false true false false):=by
 refine returnsInHanded_of_change_and (C:=Tryz.checked) (X:=fun w _=>laidMetH Tryz.prog Hq w) (fun _ _ _ hh h=>h.of_heap hh) own started (by kernel_rfl) Tryz.func10
  (ChangeSpec.witness_shaped (enc:=enc) (C:=Tryz.checked) (os:=os) (X:=fun w _=>laidMetH Tryz.prog Hq w) false (World.laidAll Tryz.prog os Hq) #[.agg #[.slice none 0 0,.slice none 0 0,.int .i64 0,.slice none 0 0,.slice none 0 0,.slice none 0 0,.slice none 0 0,.slice none 0 0,.slice none 0 0],.int .i64 0,.int .i64 0] 8 (World.laidAll_os _ _ _)
    (World.shaped_of_ZipB (by kernel_rfl) (by kernel_rfl)) (by kernel_rfl) (by kernel_rfl) (by kernel_rfl)
    (by rw[MakeChecks.laidMetH_plain _ _ _ (by kernel_rfl)];exact laidMet_laidAll _ (by kernel_rfl) (by kernel_rfl))) ?_
 intro W base args ds gs before hval0 hW hc _ hL _
 have hval:∀ (j:Nat) t v,Tryz.f10.params.toList[j]? = some t->args[j]? = some v->Value.okWide Tryz.prog W .any base t v:=fun j t v h1 h2=>hval0 j t v (by simpa using h1) h2
 have hW':=hW
 obtain ⟨p,q,hA,hV,rfl,_,_⟩:=hW
 obtain ⟨rfl,rfl⟩:=trodVars_none hV
 simp only [List.append_nil]at hW'
 refine (Dx.law_calls hOk hty hval hA).mono fun e W' ⟨he,hb⟩=>?_
 subst he
 have hpar:Tryz.f10.params.toList.length=3:=by kernel_rfl
 have hlen:=su hA
 rw [hpar]at hlen
 obtain ⟨d1,d2,d3,rfl⟩:∃ d1 d2 d3,ds=[d1,d2,d3]:=by
  match ds,hlen with
  |[d1,d2,d3],_=>exact⟨d1,d2,d3,rfl⟩
 exact ⟨_,rfl,wb (pa:=p) (pv:=[]) hW' (fun _ _ _=>trodAll_mk1 (shut_bool (t:=4) (by kernel_rfl) _)) (fun sp hs=>oA Vq hb (by kernel_rfl) hA (fun x hx=>hW'.lt x hx) hs) (fun _ _=>rfl) (by simp) hb (ok_one (t:=4) (by kernel_rfl) rfl (okWide_bool_mk (by kernel_rfl) _))⟩
theorem oO {a b:Bool} (h:a=true) (k:b=true):(a&&b)=true:=by rw[h,k];rfl
theorem jf0:(Rows.lightWindowsRow.wf (OpenSpec.ofChange Rows.lightWindowsSpec))=true:=by kernel_rfl
theorem jf1:(laidOutB Tryz.prog)=true:=by kernel_rfl
theorem jf2:(mapsRowed Tryz.prog)=true:=by kernel_rfl
theorem jf3:(Tryz.f10.params.all (Tryz.prog.readableRec ·))=true:=by kernel_rfl
theorem jf4:(namedTie Tryz.prog Rows.lightWindowsRow.named Rows.lightWindowsSpec.vars)=true:=by kernel_rfl
theorem jf5:((Rows.lightWindowsRow.stops==[]))=true:=by kernel_rfl
theorem jf6:((Tryz.prog.stops==[]))=true:=by kernel_rfl
theorem jf7:((Rows.lightWindowsRow.knobs==[]))=true:=by kernel_rfl
theorem jf8:((Tryz.prog.stopKnobs==[]))=true:=by kernel_rfl
theorem jf9:((Rows.lightWindowsRow.inPlace==Tryz.prog.inPlace 10))=true:=by kernel_rfl
theorem apL:((Rows.lightWindowsRow.unfollowed==Tryz.prog.unfollowed 10))=true:=by kernel_rfl
theorem apb:((Rows.lightWindowsRow.recurses==Tryz.prog.recurses 10))=true:=by kernel_rfl
theorem aq6:((Rows.lightWindowsRow.named==Tryz.prog.varsNamed 10))=true:=by kernel_rfl
theorem ari:((Rows.lightWindowsRow.maps==(Tryz.f10.params.toList++Rows.lightWindowsSpec.plain.varTypes Tryz.prog).any (Tryz.prog.mapsRec ·)))=true:=by kernel_rfl
theorem aou:((Rows.lightWindowsRow.ifaces==(Tryz.f10.params.toList++Rows.lightWindowsSpec.plain.varTypes Tryz.prog).any (Tryz.prog.ifacesRec ·)))=true:=by kernel_rfl
theorem ary:((Rows.lightWindowsRow.mapsOut==Tryz.prog.mapsAmong Tryz.f10.resultTypes.toList))=true:=by kernel_rfl
theorem aqy:((Rows.lightWindowsRow.loops==(Tryz.f10.params.toList++Rows.lightWindowsSpec.plain.varTypes Tryz.prog).any (Tryz.prog.loopsFrom ·)))=true:=by kernel_rfl
theorem apE:((Rows.lightWindowsRow.wideKeys==(Tryz.f10.params.toList++Rows.lightWindowsSpec.plain.varTypes Tryz.prog++Tryz.f10.resultTypes.toList).any (Tryz.prog.wideKeysFrom ·)))=true:=by kernel_rfl
theorem ao1:(Rows.lightWindowsSpec.vars.all (Tryz.prog.varReadable ·))=true:=by kernel_rfl
theorem ap4:(Tryz.f10.resultTypes.all (fun t=>Tryz.prog.readableRec t&&decide (t<Tryz.prog.types.size)))=true:=by kernel_rfl
theorem apq:((Rows.lightWindowsRow.ifacesOut==Tryz.f10.resultTypes.toList.any (Tryz.prog.ifacesRec ·)))=true:=by kernel_rfl
theorem aq8:((Rows.lightWindowsRow.loopsOut==Tryz.f10.resultTypes.toList.any (Tryz.prog.loopsFrom ·)))=true:=by kernel_rfl
theorem aqi:((Rows.lightWindowsRow.plainKeys==Tryz.prog.plainKeys))=true:=by kernel_rfl
theorem aps:(Rows.lightWindowsRow.shortTexts.isNone)=true:=by kernel_rfl
theorem ark:(Tryz.prog.stopsHeard)=true:=by kernel_rfl
theorem aqX:(Tryz.prog.mayEnter)=true:=by kernel_rfl
theorem aot:((Rows.lightWindowsRow.lifted==Tryz.prog.liftsFinal))=true:=by kernel_rfl
theorem aqA:((Tryz.prog.make==some Rows.lightWindowsRow.make))=true:=by kernel_rfl
theorem apw:((Rows.lightWindowsRow.kinds==(if Rows.lightWindowsRow.domain.isEmpty then [] else Tryz.f10.params.toList.map fun t=>match Tryz.prog.underlying t with|some (.int k)=>some k|_=>none)))=true:=by kernel_rfl
theorem aq3:((Rows.lightWindowsRow.pinned==Rows.lightWindowsRow.pinnedBy))=true:=by kernel_rfl
theorem ao8:((Rows.lightWindowsRow.veiled==(Tryz.f10.params.toList++Rows.lightWindowsSpec.plain.varTypes Tryz.prog++Tryz.f10.resultTypes.toList).any (Tryz.prog.veiledRec ·)))=true:=by kernel_rfl
theorem aqv:(Rows.lightWindowsRow.veiledFits Tryz.prog Tryz.f10.params.toList (Tryz.f10.params.toList++Rows.lightWindowsSpec.plain.varTypes Tryz.prog++Tryz.f10.resultTypes.toList))=true:=by kernel_rfl
set_option maxRecDepth 100000 in
theorem jf:joinedFacts Tryz.pinned.checked.prog 10 Tryz.f10 Rows.lightWindowsSpec Rows.lightWindowsRow=true:=oO (oO (oO (oO (oO (oO (oO (oO (oO (oO (oO (oO (oO (oO (oO (oO (oO (oO (oO (oO (oO (oO (oO (oO (oO (oO (oO (oO (oO (oO (oO (jf0) jf1) jf2) jf3) jf4) jf5) jf6) jf7) jf8) jf9) apL) apb) aq6) ari) aou) ary) aqy) apE) ao1) ap4) apq) aq8) aqi) aps) ark) aqX) aot) aqA) apw) aq3) ao8) aqv
theorem jfn:Tryz.pinned.checked.prog.funcNamed Rows.lightWindowsRow.func=some 10:=by kernel_rfl
theorem jfi:decide (Tryz.f10.isInstance Tryz.pinned.checked.prog Rows.lightWindowsRow.origin Rows.lightWindowsRow.targs)=true:=by kernel_rfl
theorem jfw:Tryz.f10.isWrapper Tryz.pinned.checked.prog Rows.lightWindowsRow.wrapper Rows.lightWindowsRow.mainSum:=by unfold Func.isWrapper;first|(rw[if_pos (by decide +kernel)];kernel_rfl)|(rw[if_neg (by decide +kernel)];exact⟨rfl,rfl⟩)
theorem jct:Rows.lightWindowsRow.wfByText (OpenSpec.ofChange Rows.lightWindowsSpec)=true:=by kernel_rfl
theorem jcm : Tryz.pinned.checked.prog.mainIs = some (true, "119d9330578a2776099d620f4ceb0b619e3fa123fd508f1988eb42237281061c".toList) := by kernel_rfl
theorem jcl:false=Tryz.pinned.checked.prog.looks []:=by kernel_rfl
theorem jcs:(Tryz.f10.params.toList.all fun u=>!Tryz.prog.wantsStandIn u)=true:=by kernel_rfl
theorem jcg:false=Rows.lightWindowsRow.goesBy Tryz.pinned.checked.prog:=by kernel_rfl
section
variable {tys:List Dx.Ty} (hty:Dx.argTys Tryz.prog 20 Tryz.f10.params.toList=some tys) (hOk:(Dx.vP (Dx.lawC tys)).Ok Tryz.prog 10)
include tys hty hOk
theorem alo:Rows.LightWindowsSaid :=
 OpenClaim.holds_of_wide 10 Tryz.f10 rfl rfl rfl rfl rfl rfl rfl ⟨rfl,rfl,rfl,rfl,rfl⟩ rfl rfl rfl rfl rfl jfn Tryz.func10 jf
  (of_decide_eq_true jfi) jfw (fun os started H enc _=>lifted hty hOk os started H enc)
theorem apc:Rows.LightWindowsCardSaid :=
 Claim7.holds_tied_plain_at .later [] [.data, .pinned] true (true, "119d9330578a2776099d620f4ceb0b619e3fa123fd508f1988eb42237281061c") false (alo hty hOk) (fun _ h => by cases h) jct (fun _ h => by cases h) lightWindows_row_tie rfl ⟨rfl, rfl⟩ jcm rfl
  (fun f fn hf hfn=>by
    obtain rfl:f=10:=Option.some.inj ((hf.symm.trans jfn:some f=some 10))
    obtain rfl:fn=Tryz.f10:=(Option.some.inj (Tryz.func10.symm.trans hfn)).symm
    exact ⟨jcl,fun j t ht=>by
     have hm:t∈Tryz.f10.params.toList:=by simpa using Array.mem_of_getElem? ht
     exact (show Tryz.prog.wantsStandIn t=false by simpa using List.all_eq_true.1 jcs t hm)⟩)
  jcg
end
theorem lightWindows_card:Rows.LightWindowsCardSaid:=apc (tys:=Dx.tys1010) (by kernel_rfl) Dx.ok1010
#print axioms lightWindows_card
end Go.Proofs.YtibmdlbnkaihjaaGreatDoor
