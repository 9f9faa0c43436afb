/- Part 8 of a proof. No conditions. -/
import Derived.Test.YtibmdlbnkaihjaaGreatDoorLv7
import Derived.Test.YtibmdlbnkaihjaaGreatDoorRows
import Derived.Test.YtibmdlbnkaihjaaGreatDoorTie
import Derived.Test.YtibmdlbnkaihjaaGreatDoorCards
import Derived.ProofKit
import Derived.OpenShut
import Derived.LaidMore
import Derived.Lay
import Derived.SevenTiedAt
import Derived.Stop.Joined
set_option maxRecDepth 100000
set_option linter.unusedVariables false
set_option linter.unusedSimpArgs false
namespace Go.Proofs.YtibmdlbnkaihjaaGreatDoor
open Go.ChangeShapes Go.WideShapes Go.ChangeAt Go.RowKit
section
variable {H:Type} {enc:TypeId × Value->H} {P:Program}
theorem vc {f:Func} {s:ChangeSpec} {apart fresh handsOn again:Bool} {W W':World} {args:Array Value} {v:Value} {ds gs:List (DataW H)} {before pa pv:List MemPlace}
 (hW:DataW.Whole enc P f.params.toList s.vars apart W args.toList ds gs before)
 (hres:∀ (b:Nat) (sp:Nat->Bool) (hd:Bool),DataW.TrodAll enc P W' b sp hd f.resultTypes.toList (v.resultList f.resultTypes.size) (s.fn H (ds++gs)).results [])
 (hargs:∀ sp:Nat->Bool,(∀ p ∈ before,sp p.block=true)->DataW.TrodAll enc P W' 0 sp true f.params.toList args.toList (s.fn H (ds++gs)).args pa)
 (hvars:∀ sp:Nat->Bool,(∀ p ∈ before,sp p.block=true)->DataW.TrodVars enc P W' sp s.vars (s.fn H (ds++gs)).vars pv)
 (hps:before=pa++pv) (hb:Below W.heap.size W W')
 (hok:∀ (j:Nat) (t:TypeId) (r:Value),f.resultTypes[j]? = some t->(v.resultList f.resultTypes.size)[j]? = some r->Value.okWide P W' .any 0 t r) :
 s.post enc P f apart fresh handsOn again W args v W':=by
 have hlt:∀ p ∈ before,p.block < W.heap.size:=fun p hp=>hW.lt p hp
 have hold:∀ p ∈ before,(fun b=>decide (b < W.heap.size)) p.block=true:=fun p hp=>by simpa using hlt p hp
 refine ⟨ds,gs,before,[],pa,pv,hW,hres _ _ _,hargs _ hold,hvars _ hold,World.keptBut_mono (fun p hp=>⟨hp,?_⟩) (hb.frame (· ∈ before)),fun _=>?_⟩
 ·rw [hps,List.mem_append] at hp
  exact Or.inr hp
 ·obtain ⟨_,_,_,_,_,hz,hn⟩:=hW
  refine ⟨hok,_,_,([]++pa)++pv,⟨[]++pa,pv,trodAll_append (hargs _ (fun _ _=>rfl)) (hres _ _ _),hvars _ (fun _ _=>rfl),rfl,?_,?_⟩,?_⟩
  ·intro b off hp
   have hin:MemPlace.cell b off ∈ before:=by rw [hps]; simpa using hp
   rw [hb.frozen (hlt _ hin)]
   exact hz b off hin
  ·intro ha
   have:=hn ha
   rw [hps] at this
   simpa using this
  ·intro p hp _
   rw [hps]
   simpa using hp
theorem nQ (hl:laidOutB P=true) {W W':World} (hb:Below W.heap.size W W') {sp:Nat->Bool}:∀ {ts:List TypeId} {vs:List Value} {ds:List (DataW H)} {ps:List MemPlace},(ts.all fun t=>P.readableRec t && decide (t < P.types.size))=true->DataW.TrodAll enc P W 0 (fun _=>true) true ts vs ds ps->(∀ x ∈ ps,x.block < W.heap.size)->(∀ x ∈ ps,sp x.block=true) ->
 DataW.TrodAll enc P W' 0 sp true ts vs ds ps
 | [],[],[],_,_,h,_,_=>h
 | t::ts,v::vs,d::ds,ps,ht,h,hlt,hs=>by
   simp only [List.all_cons,Bool.and_eq_true,decide_eq_true_eq] at ht
   obtain ⟨p,q,h1,h2,rfl⟩:=h
   exact ⟨p,q,WideElems.Trod_stays hl ht.1.1 ht.1.2 h1 (fun x hx=>hb.same (hlt x (List.mem_append_left _ hx))) (fun x hx=>hs x (List.mem_append_left _ hx)),
    nQ hl hb ht.2 h2 (fun x hx=>hlt x (List.mem_append_right _ hx)) (fun x hx=>hs x (List.mem_append_right _ hx)),rfl⟩
 | [],_::_,_,_,_,h,_,_=>by simp [DataW.TrodAll] at h
 | [],[],_::_,_,_,h,_,_=>by simp [DataW.TrodAll] at h
 | _::_,[],_,_,_,h,_,_=>by simp [DataW.TrodAll] at h
 | _::_,_::_,[],_,_,h,_,_=>by simp [DataW.TrodAll] at h
end
theorem rO {H:Type} {enc:TypeId × Value->H} {P:Program} {W:World} {b:Nat} {sp:Nat->Bool} {hd:Bool}:∀ {ts:List TypeId} {vs:List Value} {ds:List (DataW H)} {ps:List MemPlace},DataW.TrodAll enc P W b sp hd ts vs ds ps->ds.length=ts.length
 | [],[],[],_,_=>rfl
 | t::ts,v::vs,d::ds,ps,h=>by obtain ⟨p,q,h1,h2,rfl⟩:=h; simp [rO h2]
 | [],_::_,_,_,h=>by simp [DataW.TrodAll] at h
 | [],[],_::_,_,h=>by simp [DataW.TrodAll] at h
 | _::_,[],_,_,h=>by simp [DataW.TrodAll] at h
 | _::_,_::_,[],_,h=>by simp [DataW.TrodAll] at h
theorem own:ownKnob Tryz.prog.godebug=none:=by kernel_rfl
theorem Uf:laidOutB Tryz.prog=true:=by kernel_rfl
end Go.Proofs.YtibmdlbnkaihjaaGreatDoor
namespace Go.Proofs.YtibmdlbnkaihjaaGreatDoor
open Go.ChangeShapes Go.WideShapes Go.ChangeAt Go.RowKit
def F5:List (String × DataW Unit):=Rows.lightVeilsRow.laid
set_option maxRecDepth 100000 in
theorem lifted {tys:List Dx.Ty} (hty:Dx.argTys Tryz.prog 20 Tryz.f7.params.toList=some tys) (hOk:(Dx.vP (Dx.lawC tys)).Ok Tryz.prog 7) (os:Os) (started:os.Started) (H:Type) (enc:TypeId × Value->H) :
 ReturnsInHanded {} Tryz.checked os 7 .any (fun w args=>(Rows.lightVeilsSpec.pre enc Tryz.prog Tryz.f7 [] false w args/\laidMetH Tryz.prog F5 w)/\sizedMet enc Tryz.prog Tryz.f7 (OpenSpec.ofChange Rows.lightVeilsSpec) false w args)
  (Rows.lightVeilsSpec.post enc Tryz.prog Tryz.f7 false true false false):=by
 refine returnsInHanded_of_change_and (C:=Tryz.checked) (X:=fun w _=>laidMetH Tryz.prog F5 w) (fun _ _ _ hh h=>h.of_heap hh) own started (by kernel_rfl) Tryz.func7
  (ChangeSpec.witness_shaped (enc:=enc) (C:=Tryz.checked) (os:=os) (X:=fun w _=>laidMetH Tryz.prog F5 w) false (World.laidAll Tryz.prog os F5) #[.agg #[.slice none 0 0,.slice none 0 0,.int .i64 0,.slice none 0 0,.slice none 0 0,.slice none 0 0,.slice none 0 0,.slice none 0 0,.slice none 0 0],.agg #[.int .i64 0,.int .i64 0,.int .i64 0,.int .i64 0]] 8 (World.laidAll_os _ _ _)
    (World.shaped_of_ZipB (by kernel_rfl) (by kernel_rfl)) (by kernel_rfl) (by kernel_rfl) (by kernel_rfl)
    (by rw [MakeChecks.laidMetH_plain _ _ _ (by kernel_rfl)]; exact laidMet_laidAll _ (by kernel_rfl) (by kernel_rfl))) ?_
 intro W base args ds gs before hval0 hW hc _ hL _
 have hval:∀ (j:Nat) t v,Tryz.f7.params.toList[j]? = some t->args[j]? = some v->Value.okWide Tryz.prog W .any base t v:=fun j t v h1 h2=>hval0 j t v (by simpa using h1) h2
 have hW':=hW
 obtain ⟨p,q,hA,hV,rfl,_,_⟩:=hW
 obtain ⟨rfl,rfl⟩:=trodVars_none hV
 simp only [List.append_nil] at hW'
 refine (Dx.law_calls hOk hty hval hA).mono fun e W' ⟨he,hb⟩=>?_
 subst he
 have hpar:Tryz.f7.params.toList.length=2:=by kernel_rfl
 have hlen:=rO hA
 rw [hpar] at hlen
 obtain ⟨d1,d2,rfl⟩:∃ d1 d2,ds=[d1,d2]:=by
  match ds,hlen with
  | [d1,d2],_=>exact ⟨d1,d2,rfl⟩
 exact ⟨_,rfl,vc (pa:=p) (pv:=[]) hW' (fun _ _ _=>trodAll_mk1 (shut_bool (t:=4) (by kernel_rfl) _)) (fun sp hs=>nQ Uf hb (by kernel_rfl) hA (fun x hx=>hW'.lt x hx) hs) (fun _ _=>rfl) (by simp) hb (ok_one (t:=4) (by kernel_rfl) rfl (okWide_bool_mk (by kernel_rfl) _))⟩
theorem oh {a b:Bool} (h:a=true) (k:b=true):(a && b)=true:=by rw [h,k]; rfl
theorem jf0:(Rows.lightVeilsRow.wf (OpenSpec.ofChange Rows.lightVeilsSpec))=true:=by kernel_rfl
theorem jf1:(laidOutB Tryz.prog)=true:=by kernel_rfl
theorem jf2:(mapsRowed Tryz.prog)=true:=by kernel_rfl
theorem jf3:(Tryz.f7.params.all (Tryz.prog.readableRec ·))=true:=by kernel_rfl
theorem jf4:(namedTie Tryz.prog Rows.lightVeilsRow.named Rows.lightVeilsSpec.vars)=true:=by kernel_rfl
theorem jf5:((Rows.lightVeilsRow.stops == []))=true:=by kernel_rfl
theorem jf6:((Tryz.prog.stops == []))=true:=by kernel_rfl
theorem jf7:((Rows.lightVeilsRow.knobs == []))=true:=by kernel_rfl
theorem jf8:((Tryz.prog.stopKnobs == []))=true:=by kernel_rfl
theorem jf9:((Rows.lightVeilsRow.inPlace == Tryz.prog.inPlace 7))=true:=by kernel_rfl
theorem amn:((Rows.lightVeilsRow.unfollowed == Tryz.prog.unfollowed 7))=true:=by kernel_rfl
theorem alS:((Rows.lightVeilsRow.recurses == Tryz.prog.recurses 7))=true:=by kernel_rfl
theorem ant:((Rows.lightVeilsRow.named == Tryz.prog.varsNamed 7))=true:=by kernel_rfl
theorem anC:((Rows.lightVeilsRow.maps == (Tryz.f7.params.toList++Rows.lightVeilsSpec.plain.varTypes Tryz.prog).any (Tryz.prog.mapsRec ·)))=true:=by kernel_rfl
theorem alo:((Rows.lightVeilsRow.ifaces == (Tryz.f7.params.toList++Rows.lightVeilsSpec.plain.varTypes Tryz.prog).any (Tryz.prog.ifacesRec ·)))=true:=by kernel_rfl
theorem anS:((Rows.lightVeilsRow.mapsOut == Tryz.prog.mapsAmong Tryz.f7.resultTypes.toList))=true:=by kernel_rfl
theorem amZ:((Rows.lightVeilsRow.loops == (Tryz.f7.params.toList++Rows.lightVeilsSpec.plain.varTypes Tryz.prog).any (Tryz.prog.loopsFrom ·)))=true:=by kernel_rfl
theorem amh:((Rows.lightVeilsRow.wideKeys == (Tryz.f7.params.toList++Rows.lightVeilsSpec.plain.varTypes Tryz.prog++Tryz.f7.resultTypes.toList).any (Tryz.prog.wideKeysFrom ·)))=true:=by kernel_rfl
theorem alN:(Rows.lightVeilsSpec.vars.all (Tryz.prog.varReadable ·))=true:=by kernel_rfl
theorem amD:(Tryz.f7.resultTypes.all (fun t=>Tryz.prog.readableRec t && decide (t < Tryz.prog.types.size)))=true:=by kernel_rfl
theorem al2:((Rows.lightVeilsRow.ifacesOut == Tryz.f7.resultTypes.toList.any (Tryz.prog.ifacesRec ·)))=true:=by kernel_rfl
theorem anv:((Rows.lightVeilsRow.loopsOut == Tryz.f7.resultTypes.toList.any (Tryz.prog.loopsFrom ·)))=true:=by kernel_rfl
theorem amQ:((Rows.lightVeilsRow.plainKeys == Tryz.prog.plainKeys))=true:=by kernel_rfl
theorem al6:(Rows.lightVeilsRow.shortTexts.isNone)=true:=by kernel_rfl
theorem anG:(Tryz.prog.stopsHeard)=true:=by kernel_rfl
theorem anm:(Tryz.prog.mayEnter)=true:=by kernel_rfl
theorem aln:((Rows.lightVeilsRow.lifted == Tryz.prog.liftsFinal))=true:=by kernel_rfl
theorem am1:((Tryz.prog.make == some Rows.lightVeilsRow.make))=true:=by kernel_rfl
theorem ama:((Rows.lightVeilsRow.kinds == (if Rows.lightVeilsRow.domain.isEmpty then [] else Tryz.f7.params.toList.map fun t=>match Tryz.prog.underlying t with | some (.int k)=>some k | _=>none)))=true:=by kernel_rfl
theorem ans:((Rows.lightVeilsRow.pinned == Rows.lightVeilsRow.pinnedBy))=true:=by kernel_rfl
theorem alR:((Rows.lightVeilsRow.veiled == (Tryz.f7.params.toList++Rows.lightVeilsSpec.plain.varTypes Tryz.prog++Tryz.f7.resultTypes.toList).any (Tryz.prog.veiledRec ·)))=true:=by kernel_rfl
theorem amX:(Rows.lightVeilsRow.veiledFits Tryz.prog Tryz.f7.params.toList (Tryz.f7.params.toList++Rows.lightVeilsSpec.plain.varTypes Tryz.prog++Tryz.f7.resultTypes.toList))=true:=by kernel_rfl
set_option maxRecDepth 100000 in
theorem jf:joinedFacts Tryz.pinned.checked.prog 7 Tryz.f7 Rows.lightVeilsSpec Rows.lightVeilsRow=true:=oh (oh (oh (oh (oh (oh (oh (oh (oh (oh (oh (oh (oh (oh (oh (oh (oh (oh (oh (oh (oh (oh (oh (oh (oh (oh (oh (oh (oh (oh (oh (jf0) jf1) jf2) jf3) jf4) jf5) jf6) jf7) jf8) jf9) amn) alS) ant) anC) alo) anS) amZ) amh) alN) amD) al2) anv) amQ) al6) anG) anm) aln) am1) ama) ans) alR) amX
theorem jfn:Tryz.pinned.checked.prog.funcNamed Rows.lightVeilsRow.func=some 7:=by kernel_rfl
theorem jfi:decide (Tryz.f7.isInstance Tryz.pinned.checked.prog Rows.lightVeilsRow.origin Rows.lightVeilsRow.targs)=true:=by kernel_rfl
theorem jfw:Tryz.f7.isWrapper Tryz.pinned.checked.prog Rows.lightVeilsRow.wrapper Rows.lightVeilsRow.mainSum:=by unfold Func.isWrapper; first | (rw [if_pos (by decide +kernel)]; kernel_rfl) | (rw [if_neg (by decide +kernel)]; exact ⟨rfl,rfl⟩)
theorem jct:Rows.lightVeilsRow.wfByText (OpenSpec.ofChange Rows.lightVeilsSpec)=true:=by kernel_rfl
theorem jcm : Tryz.pinned.checked.prog.mainIs = some (true, "119d9330578a2776099d620f4ceb0b619e3fa123fd508f1988eb42237281061c".toList) := by kernel_rfl
theorem jcl:false=Tryz.pinned.checked.prog.looks []:=by kernel_rfl
theorem jcs:(Tryz.f7.params.toList.all fun u=>!Tryz.prog.wantsStandIn u)=true:=by kernel_rfl
theorem jcg:false=Rows.lightVeilsRow.goesBy Tryz.pinned.checked.prog:=by kernel_rfl
section
variable {tys:List Dx.Ty} (hty:Dx.argTys Tryz.prog 20 Tryz.f7.params.toList=some tys) (hOk:(Dx.vP (Dx.lawC tys)).Ok Tryz.prog 7)
include tys hty hOk
theorem aia:Rows.LightVeilsSaid :=
 OpenClaim.holds_of_wide 7 Tryz.f7 rfl rfl rfl rfl rfl rfl rfl ⟨rfl,rfl,rfl,rfl,rfl⟩ rfl rfl rfl rfl rfl jfn Tryz.func7 jf
  (of_decide_eq_true jfi) jfw (fun os started H enc _=>lifted hty hOk os started H enc)
theorem alT:Rows.LightVeilsCardSaid :=
 Claim7.holds_tied_plain_at .later [] [.data, .pinned] true (true, "119d9330578a2776099d620f4ceb0b619e3fa123fd508f1988eb42237281061c") false (aia hty hOk) (fun _ h => by cases h) jct (fun _ h => by cases h) lightVeils_row_tie rfl ⟨rfl, rfl⟩ jcm rfl
  (fun f fn hf hfn=>by
    obtain rfl:f=7:=Option.some.inj ((hf.symm.trans jfn:some f=some 7))
    obtain rfl:fn=Tryz.f7:=(Option.some.inj (Tryz.func7.symm.trans hfn)).symm
    exact ⟨jcl,fun j t ht=>by
     have hm:t ∈ Tryz.f7.params.toList:=by simpa using Array.mem_of_getElem? ht
     exact (show Tryz.prog.wantsStandIn t=false by simpa using List.all_eq_true.1 jcs t hm)⟩)
  jcg
end
theorem lightVeils_card:Rows.LightVeilsCardSaid:=alT (tys:=Dx.tys1007) (by kernel_rfl) Dx.ok1007
#print axioms lightVeils_card
end Go.Proofs.YtibmdlbnkaihjaaGreatDoor
