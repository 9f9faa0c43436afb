/- Part 7 of a proof. No conditions. -/
import Derived.Test.YtkdokmjehblpoaaGreatDoorRl6
import Derived.Test.YtkdokmjehblpoaaGreatDoorRows
import Derived.Test.YtkdokmjehblpoaaGreatDoorTie
import Derived.Test.YtkdokmjehblpoaaGreatDoorCards
import Derived.ProofKit
import Derived.OpenShut
import Derived.LaidMore
import Derived.Lay
import Derived.SevenTiedAt
import Derived.Stop.Joined
set_option maxRecDepth 100000
set_option linter.unusedVariables false
set_option linter.unusedSimpArgs false
namespace Go.Proofs.YtkdokmjehblpoaaGreatDoor
open Go.ChangeShapes Go.WideShapes Go.ChangeAt Go.RowKit
section
variable {H:Type} {enc:TypeId × Value->H} {P:Program}
theorem rO {f:Func} {s:ChangeSpec} {apart fresh handsOn again:Bool} {W W':World} {args:Array Value} {v:Value} {ds gs:List (DataW H)} {before pa pv:List MemPlace}
 (hW:DataW.Whole enc P f.params.toList s.vars apart W args.toList ds gs before)
 (hres:∀ (b:Nat) (sp:Nat->Bool) (hd:Bool),DataW.TrodAll enc P W' b sp hd f.resultTypes.toList (v.resultList f.resultTypes.size) (s.fn H (ds++gs)).results [])
 (hargs:∀ sp:Nat->Bool,(∀ p ∈ before,sp p.block=true)->DataW.TrodAll enc P W' 0 sp true f.params.toList args.toList (s.fn H (ds++gs)).args pa)
 (hvars:∀ sp:Nat->Bool,(∀ p ∈ before,sp p.block=true)->DataW.TrodVars enc P W' sp s.vars (s.fn H (ds++gs)).vars pv)
 (hps:before=pa++pv) (hb:Below W.heap.size W W')
 (hok:∀ (j:Nat) (t:TypeId) (r:Value),f.resultTypes[j]? = some t->(v.resultList f.resultTypes.size)[j]? = some r->Value.okWide P W' .any 0 t r) :
 s.post enc P f apart fresh handsOn again W args v W':=by
 have hlt:∀ p ∈ before,p.block < W.heap.size:=fun p hp=>hW.lt p hp
 have hold:∀ p ∈ before,(fun b=>decide (b < W.heap.size)) p.block=true:=fun p hp=>by simpa using hlt p hp
 refine ⟨ds,gs,before,[],pa,pv,hW,hres _ _ _,hargs _ hold,hvars _ hold,World.keptBut_mono (fun p hp=>⟨hp,?_⟩) (hb.frame (· ∈ before)),fun _=>?_⟩
 ·rw [hps,List.mem_append] at hp
  exact Or.inr hp
 ·obtain ⟨_,_,_,_,_,hz,hn⟩:=hW
  refine ⟨hok,_,_,([]++pa)++pv,⟨[]++pa,pv,trodAll_append (hargs _ (fun _ _=>rfl)) (hres _ _ _),hvars _ (fun _ _=>rfl),rfl,?_,?_⟩,?_⟩
  ·intro b off hp
   have hin:MemPlace.cell b off ∈ before:=by rw [hps]; simpa using hp
   rw [hb.frozen (hlt _ hin)]
   exact hz b off hin
  ·intro ha
   have:=hn ha
   rw [hps] at this
   simpa using this
  ·intro p hp _
   rw [hps]
   simpa using hp
theorem kE (hl:laidOutB P=true) {W W':World} (hb:Below W.heap.size W W') {sp:Nat->Bool}:∀ {ts:List TypeId} {vs:List Value} {ds:List (DataW H)} {ps:List MemPlace},(ts.all fun t=>P.readableRec t && decide (t < P.types.size))=true->DataW.TrodAll enc P W 0 (fun _=>true) true ts vs ds ps->(∀ x ∈ ps,x.block < W.heap.size)->(∀ x ∈ ps,sp x.block=true) ->
 DataW.TrodAll enc P W' 0 sp true ts vs ds ps
 | [],[],[],_,_,h,_,_=>h
 | t::ts,v::vs,d::ds,ps,ht,h,hlt,hs=>by
   simp only [List.all_cons,Bool.and_eq_true,decide_eq_true_eq] at ht
   obtain ⟨p,q,h1,h2,rfl⟩:=h
   exact ⟨p,q,WideElems.Trod_stays hl ht.1.1 ht.1.2 h1 (fun x hx=>hb.same (hlt x (List.mem_append_left _ hx))) (fun x hx=>hs x (List.mem_append_left _ hx)),
    kE hl hb ht.2 h2 (fun x hx=>hlt x (List.mem_append_right _ hx)) (fun x hx=>hs x (List.mem_append_right _ hx)),rfl⟩
 | [],_::_,_,_,_,h,_,_=>by simp [DataW.TrodAll] at h
 | [],[],_::_,_,_,h,_,_=>by simp [DataW.TrodAll] at h
 | _::_,[],_,_,_,h,_,_=>by simp [DataW.TrodAll] at h
 | _::_,_::_,[],_,_,h,_,_=>by simp [DataW.TrodAll] at h
end
theorem oD {H:Type} {enc:TypeId × Value->H} {P:Program} {W:World} {b:Nat} {sp:Nat->Bool} {hd:Bool}:∀ {ts:List TypeId} {vs:List Value} {ds:List (DataW H)} {ps:List MemPlace},DataW.TrodAll enc P W b sp hd ts vs ds ps->ds.length=ts.length
 | [],[],[],_,_=>rfl
 | t::ts,v::vs,d::ds,ps,h=>by obtain ⟨p,q,h1,h2,rfl⟩:=h; simp [oD h2]
 | [],_::_,_,_,h=>by simp [DataW.TrodAll] at h
 | [],[],_::_,_,h=>by simp [DataW.TrodAll] at h
 | _::_,[],_,_,h=>by simp [DataW.TrodAll] at h
 | _::_,_::_,[],_,h=>by simp [DataW.TrodAll] at h
theorem own:ownKnob Tryz.prog.godebug=none:=by kernel_rfl
theorem GK:laidOutB Tryz.prog=true:=by kernel_rfl
end Go.Proofs.YtkdokmjehblpoaaGreatDoor
namespace Go.Proofs.YtkdokmjehblpoaaGreatDoor
open Go.ChangeShapes Go.WideShapes Go.ChangeAt Go.RowKit
def AK:List (String × DataW Unit):=Rows.roadPlacesRow.laid
set_option maxRecDepth 100000 in
theorem Hs {tys:List Dx.Ty} (hty:Dx.argTys Tryz.prog 20 Tryz.f13.params.toList=some tys) (hOk:(Dx.vP (Dx.lawC tys)).Ok Tryz.prog 13) (os:Os) (started:os.Started) (H:Type) (enc:TypeId × Value->H) :
 ReturnsInHanded {} Tryz.checked os 13 .any (fun w args=>(Rows.roadPlacesSpec.pre enc Tryz.prog Tryz.f13 [] false w args/\laidMetH Tryz.prog AK w)/\sizedMet enc Tryz.prog Tryz.f13 (OpenSpec.ofChange Rows.roadPlacesSpec) false w args)
  (Rows.roadPlacesSpec.post enc Tryz.prog Tryz.f13 false true false false):=by
 refine returnsInHanded_of_change_and (C:=Tryz.checked) (X:=fun w _=>laidMetH Tryz.prog AK w) (fun _ _ _ hh h=>h.of_heap hh) own started (by kernel_rfl) Tryz.func13
  (ChangeSpec.witness_shaped (enc:=enc) (C:=Tryz.checked) (os:=os) (X:=fun w _=>laidMetH Tryz.prog AK w) false (World.laidAll Tryz.prog os AK) #[.agg #[.slice none 0 0,.slice none 0 0,.slice none 0 0,.slice none 0 0],.int .i64 0] 8 (World.laidAll_os _ _ _)
    (World.shaped_of_ZipB (by kernel_rfl) (by kernel_rfl)) (by kernel_rfl) (by kernel_rfl) (by kernel_rfl)
    (by rw [MakeChecks.laidMetH_plain _ _ _ (by kernel_rfl)]; exact laidMet_laidAll _ (by kernel_rfl) (by kernel_rfl))) ?_
 intro W base args ds gs before hval0 hW hc _ hL _
 have hval:∀ (j:Nat) t v,Tryz.f13.params.toList[j]? = some t->args[j]? = some v->Value.okWide Tryz.prog W .any base t v:=fun j t v h1 h2=>hval0 j t v (by simpa using h1) h2
 have hW':=hW
 obtain ⟨p,q,hA,hV,rfl,_,_⟩:=hW
 obtain ⟨rfl,rfl⟩:=trodVars_none hV
 simp only [List.append_nil] at hW'
 refine (Dx.law_calls hOk hty hval hA).mono fun e W' ⟨he,hb⟩=>?_
 subst he
 have hpar:Tryz.f13.params.toList.length=2:=by kernel_rfl
 have hlen:=oD hA
 rw [hpar] at hlen
 obtain ⟨d1,d2,rfl⟩:∃ d1 d2,ds=[d1,d2]:=by
  match ds,hlen with
  | [d1,d2],_=>exact ⟨d1,d2,rfl⟩
 exact ⟨_,rfl,rO (pa:=p) (pv:=[]) hW' (fun _ _ _=>trodAll_mk1 (shut_bool (t:=4) (by kernel_rfl) _)) (fun sp hs=>kE GK hb (by kernel_rfl) hA (fun x hx=>hW'.lt x hx) hs) (fun _ _=>rfl) (by simp) hb (ok_one (t:=4) (by kernel_rfl) rfl (okWide_bool_mk (by kernel_rfl) _))⟩
theorem KL {tys:List Dx.Ty} (hty:Dx.argTys Tryz.prog 20 Tryz.f13.params.toList=some tys) (hOk:(Dx.vP (Dx.lawC tys)).Ok Tryz.prog 13):Rows.RoadPlacesSaid :=
 OpenClaim.holds_of_wide 13 Tryz.f13 rfl rfl rfl rfl rfl rfl rfl ⟨rfl,rfl,rfl,rfl,rfl⟩ rfl rfl rfl rfl rfl (by kernel_rfl) Tryz.func13 (by kernel_rfl)
  (of_decide_eq_true (by kernel_rfl)) (by unfold Func.isWrapper; first | (rw [if_pos (by decide +kernel)]; kernel_rfl) | (rw [if_neg (by decide +kernel)]; exact ⟨rfl,rfl⟩))
  (fun os started H enc _=>Hs hty hOk os started H enc)
theorem O0 {tys:List Dx.Ty} (hty:Dx.argTys Tryz.prog 20 Tryz.f13.params.toList=some tys) (hOk:(Dx.vP (Dx.lawC tys)).Ok Tryz.prog 13):Rows.RoadPlacesCardSaid :=
 Claim7.holds_tied_plain_at .later [] [.data, .pinned] true (true, "1c733679ab70d8d316b7ea14a3f71f20299ea1b9e6272b22257803ce8b86b6e7") false (KL hty hOk) (fun _ h => by cases h) (by kernel_rfl) (fun _ h => by cases h) roadPlaces_row_tie rfl ⟨rfl, rfl⟩ (by kernel_rfl) rfl
  (fun f fn hf hfn=>by
    obtain rfl:f=13:=Option.some.inj ((hf.symm.trans (by kernel_rfl):some f=some 13))
    obtain rfl:fn=Tryz.f13:=(Option.some.inj (Tryz.func13.symm.trans hfn)).symm
    exact ⟨by kernel_rfl,fun j t ht=>by
     have hm:t ∈ Tryz.f13.params.toList:=by simpa using Array.mem_of_getElem? ht
     have hall:(Tryz.f13.params.toList.all fun u=>!Tryz.prog.wantsStandIn u)=true:=by kernel_rfl
     exact (show Tryz.prog.wantsStandIn t=false by simpa using List.all_eq_true.1 hall t hm)⟩)
  (by kernel_rfl)
theorem roadPlaces_card:Rows.RoadPlacesCardSaid:=O0 (tys:=Dx.tys13) (by kernel_rfl) Dx.ok13
#print axioms roadPlaces_card
end Go.Proofs.YtkdokmjehblpoaaGreatDoor
