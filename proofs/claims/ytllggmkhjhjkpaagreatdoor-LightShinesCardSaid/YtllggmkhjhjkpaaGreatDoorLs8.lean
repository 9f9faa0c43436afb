/- Part 8 of a proof. No conditions. -/
import Derived.Test.YtllggmkhjhjkpaaGreatDoorLs7
import Derived.Test.YtllggmkhjhjkpaaGreatDoorRows
import Derived.Test.YtllggmkhjhjkpaaGreatDoorTie
import Derived.Test.YtllggmkhjhjkpaaGreatDoorCards
import Derived.ProofKit
import Derived.OpenShut
import Derived.LaidMore
import Derived.Lay
import Derived.SevenTiedAt
import Derived.Stop.Joined
set_option maxRecDepth 100000
set_option linter.unusedVariables false
set_option linter.unusedSimpArgs false
namespace Go.Proofs.YtllggmkhjhjkpaaGreatDoor
open Go.ChangeShapes Go.WideShapes Go.ChangeAt Go.RowKit
section
variable {X9:Type} {enc:TypeId×Value->X9} {P:Program}
theorem smR {f:Func} {s:ChangeSpec} {apart fresh handsOn again:Bool} {XI W':World} {args:Array Value} {v:Value} {ds gs:List (DataW X9)} {before pa pv:List MemPlace}
 (hW:DataW.Whole enc P f.params.toList s.vars apart XI args.toList ds gs before)
 (hres:∀(b:Nat) (sp:Nat->Bool) (hd:Bool),DataW.TrodAll enc P W' b sp hd f.resultTypes.toList (v.resultList f.resultTypes.size) (s.fn X9 (ds++gs)).results [])
 (hargs:∀sp:Nat->Bool,(∀p∈before,sp p.block=true)->DataW.TrodAll enc P W' 0 sp true f.params.toList args.toList (s.fn X9 (ds++gs)).args pa)
 (hvars:∀sp:Nat->Bool,(∀p∈before,sp p.block=true)->DataW.TrodVars enc P W' sp s.vars (s.fn X9 (ds++gs)).vars pv)
 (iu:before=pa++pv) (hb:Below XI.heap.size XI W')
 (Z2:∀(j:Nat) (t:TypeId) (r:Value),f.resultTypes[j]? = some t->(v.resultList f.resultTypes.size)[j]? = some r->Value.okWide P W' .any 0 t r) :
 s.post enc P f apart fresh handsOn again XI args v W':=by
 have XD:∀p∈before,p.block<XI.heap.size:=λp hp=>hW.lt p hp;have hold:∀p∈before,(λb=>decide (b<XI.heap.size)) p.block=true:=λp hp=>by simpa using XD p hp
 refine⟨ds,gs,before,[],pa,pv,hW,hres _ _ _,hargs _ hold,hvars _ hold,World.keptBut_mono (λp hp=>⟨hp,?_⟩) (hb.frame (·∈before)),λ_=>?_⟩
 ·rw[iu,Q6]at hp;exact Or.inr hp
 ·obtain ⟨_,_,_,_,_,hz,hn⟩:=hW
  refine⟨Z2,_,_,([]++pa)++pv,⟨[]++pa,pv,trodAll_append (hargs _ (λ_ _=>rfl)) (hres _ _ _),hvars _ (λ_ _=>rfl),rfl,?_,?_⟩,?_⟩
  ·intro b off hp
   have Yu:MemPlace.cell b off∈before:=by rw[iu];simpa using hp
   rw[hb.frozen (XD _ Yu)];exact hz b off Yu
  ·intro ha;have:=hn ha;rw[iu]at this;simpa using this
  ·intro p hp _;rw[iu];simpa using hp
theorem C65 (hl:laidOutB P=true) {XI W':World} (hb:Below XI.heap.size XI W') {sp:Nat->Bool}:∀ {ts:List TypeId} {vs:List Value} {ds:List (DataW X9)} {ps:List MemPlace},(ts.all λt=>P.readableRec t&&decide (t<P.types.size))=true->DataW.TrodAll enc P XI 0 (λ_=>true) true ts vs ds ps->(∀ x∈ps,x.block<XI.heap.size)->(∀ x∈ps,sp x.block=true) ->
 DataW.TrodAll enc P W' 0 sp true ts vs ds ps
 |[],[],[],_,_,h,_,_=>h
 |t::ts,v::vs,d::ds,ps,ht,h,XD,hs=>by
   simp only[Ib,DD,IJ]at ht;obtain⟨p,X1,N,Q,rfl⟩:=h
   exact ⟨p,X1,WideElems.Trod_stays hl ht.1.1 ht.1.2 N (λx hx=>hb.same (XD x (QB _ hx))) (λx hx=>hs x (QB _ hx)),
    C65 hl hb ht.2 Q (λx hx=>XD x (List.mem_append_right _ hx)) (λx hx=>hs x (List.mem_append_right _ hx)),rfl⟩
 |[],_::_,_,_,_,h,_,_=>by simp[DataW.TrodAll]at h
 |[],[],_::_,_,_,h,_,_=>by simp[DataW.TrodAll]at h
 |_::_,[],_,_,_,h,_,_=>by simp[DataW.TrodAll]at h
 |_::_,_::_,[],_,_,h,_,_=>by simp[DataW.TrodAll]at h
end
theorem IUn {X9:Type} {enc:TypeId×Value->X9} {P:Program} {XI:World} {b:Nat} {sp:Nat->Bool} {hd:Bool}:∀ {ts:List TypeId} {vs:List Value} {ds:List (DataW X9)} {ps:List MemPlace},DataW.TrodAll enc P XI b sp hd ts vs ds ps->ds.length=ts.length
 |[],[],[],_,_=>rfl|t::ts,v::vs,d::ds,ps,h=>by obtain⟨p,X1,N,Q,rfl⟩:=h;simp[IUn Q]
 |[],_::_,_,_,h=>by simp[DataW.TrodAll]at h
 |[],[],_::_,_,h=>by simp[DataW.TrodAll]at h
 |_::_,[],_,_,h=>by simp[DataW.TrodAll]at h
 |_::_,_::_,[],_,h=>by simp[DataW.TrodAll]at h
theorem own:ownKnob Tryz.prog.godebug=none:=by kernel_rfl
theorem hlb:laidOutB Tryz.prog=true:=by kernel_rfl
end Go.Proofs.YtllggmkhjhjkpaaGreatDoor
namespace Go.Proofs.YtllggmkhjhjkpaaGreatDoor
open Go.ChangeShapes Go.WideShapes Go.ChangeAt Go.RowKit
def Gw:List (String×DataW Unit):=Rows.lightShinesRow.laid
set_option maxRecDepth 100000 in
theorem lifted {tys:List Dx.Ty} (Ym:Dx.argTys Tryz.prog 20 Tryz.f5.params.toList=some tys) (hOk:(Dx.vP (Dx.lawC tys)).Ok Tryz.prog 5) (os:Os) (started:os.Started) (X9:Type) (enc:TypeId×Value->X9) :
 ReturnsInHanded {} Tryz.checked os 5 .any (λw args=>(Rows.lightShinesSpec.pre enc Tryz.prog Tryz.f5 [] false w args/\laidMetH Tryz.prog Gw w)/\sizedMet enc Tryz.prog Tryz.f5 (OpenSpec.ofChange Rows.lightShinesSpec) false w args)
  (Rows.lightShinesSpec.post enc Tryz.prog Tryz.f5 false true false false):=by
 refine returnsInHanded_of_change_and (C:=Tryz.checked) (X:=λw _=>laidMetH Tryz.prog Gw w) (λ_ _ _ hh h=>h.of_heap hh) own started BF Tryz.func5
  (ChangeSpec.witness_shaped (enc:=enc) (C:=Tryz.checked) (os:=os) (X:=λw _=>laidMetH Tryz.prog Gw w) false (World.laidAll Tryz.prog os Gw) #[.agg #[.slice none 0 0,.slice none 0 0,.int .i64 0,.slice none 0 0,.slice none 0 0,.slice none 0 0,.slice none 0 0,.slice none 0 0,.slice none 0 0],.agg #[.int .i64 0,.int .i64 0,.int .i64 0,.int .i64 0,.int .i64 0,.int .i64 0,.int .i64 0,.int .i64 0,.int .i64 0,.int .i64 0,.int .i64 0,.int .i64 0],.agg #[.int .u8 0,.int .u8 0,.int .u8 0,.int .u8 0]] 8 (World.laidAll_os _ _ _)
    (World.shaped_of_ZipB BF BF) BF BF BF
    (by rw[MakeChecks.laidMetH_plain _ _ _ BF];exact laidMet_laidAll _ BF BF)) ?_
 intro XI base args ds gs before yad hW hc _ hL _;have hval:∀(j:Nat) t v,Tryz.f5.params.toList[j]? = some t->args[j]? = some v->Value.okWide Tryz.prog XI .any base t v:=λj t v N Q=>yad j t v (by simpa using N) Q;have vX:=hW;obtain⟨p,X1,hA,hV,rfl,_,_⟩:=hW;obtain⟨rfl,rfl⟩:=trodVars_none hV;simp only[Q7]at vX;refine(Dx.law_calls hOk Ym hval hA).mono λe W' ⟨he,hb⟩=>?_;subst he;have hpar:Tryz.f5.params.toList.length=3:=by kernel_rfl
 have hlen:=IUn hA;rw[hpar]at hlen;obtain⟨d1,d2,d3,rfl⟩:∃ d1 d2 d3,ds=[d1,d2,d3]:=by
  match ds,hlen with
  |[d1,d2,d3],_=>exact⟨d1,d2,d3,rfl⟩
 exact⟨_,rfl,smR (pa:=p) (pv:=[]) vX (λ_ _ _=>trodAll_mk1 (shut_bool (t:=4) BF _)) (λsp hs=>C65 hlb hb BF hA (λx hx=>vX.lt x hx) hs) (λ_ _=>rfl) aD hb (ok_one (t:=4) BF rfl (okWide_bool_mk BF _))⟩
theorem o5 {a b:Bool} (h:a=true) (k:b=true):(a&&b)=true:=by rw[h,k];rfl
theorem jf0:(Rows.lightShinesRow.wf (OpenSpec.ofChange Rows.lightShinesSpec))=true:=by kernel_rfl
theorem jf1:(laidOutB Tryz.prog)=true:=by kernel_rfl
theorem jf2:(mapsRowed Tryz.prog)=true:=by kernel_rfl
theorem jf3:(Tryz.f5.params.all (Tryz.prog.readableRec ·))=true:=by kernel_rfl
theorem jf4:(namedTie Tryz.prog Rows.lightShinesRow.named Rows.lightShinesSpec.vars)=true:=by kernel_rfl
theorem jf5:((Rows.lightShinesRow.stops==[]))=true:=by kernel_rfl
theorem jf6:((Tryz.prog.stops==[]))=true:=by kernel_rfl
theorem jf7:((Rows.lightShinesRow.knobs==[]))=true:=by kernel_rfl
theorem jf8:((Tryz.prog.stopKnobs==[]))=true:=by kernel_rfl
theorem jf9:((Rows.lightShinesRow.inPlace==Tryz.prog.inPlace 5))=true:=by kernel_rfl
theorem ajS:((Rows.lightShinesRow.unfollowed==Tryz.prog.unfollowed 5))=true:=by kernel_rfl
theorem ajj:((Rows.lightShinesRow.recurses==Tryz.prog.recurses 5))=true:=by kernel_rfl
theorem akR:((Rows.lightShinesRow.named==Tryz.prog.varsNamed 5))=true:=by kernel_rfl
theorem akY:((Rows.lightShinesRow.maps==(Tryz.f5.params.toList++Rows.lightShinesSpec.plain.varTypes Tryz.prog).any (Tryz.prog.mapsRec ·)))=true:=by kernel_rfl
theorem aiR:((Rows.lightShinesRow.ifaces==(Tryz.f5.params.toList++Rows.lightShinesSpec.plain.varTypes Tryz.prog).any (Tryz.prog.ifacesRec ·)))=true:=by kernel_rfl
theorem ak5:((Rows.lightShinesRow.mapsOut==Tryz.prog.mapsAmong Tryz.f5.resultTypes.toList))=true:=by kernel_rfl
theorem akr:((Rows.lightShinesRow.loops==(Tryz.f5.params.toList++Rows.lightShinesSpec.plain.varTypes Tryz.prog).any (Tryz.prog.loopsFrom ·)))=true:=by kernel_rfl
theorem ajK:((Rows.lightShinesRow.wideKeys==(Tryz.f5.params.toList++Rows.lightShinesSpec.plain.varTypes Tryz.prog++Tryz.f5.resultTypes.toList).any (Tryz.prog.wideKeysFrom ·)))=true:=by kernel_rfl
theorem ajb:(Rows.lightShinesSpec.vars.all (Tryz.prog.varReadable ·))=true:=by kernel_rfl
theorem aj5:(Tryz.f5.resultTypes.all (λt=>Tryz.prog.readableRec t&&decide (t<Tryz.prog.types.size)))=true:=by kernel_rfl
theorem ajA:((Rows.lightShinesRow.ifacesOut==Tryz.f5.resultTypes.toList.any (Tryz.prog.ifacesRec ·)))=true:=by kernel_rfl
theorem akT:((Rows.lightShinesRow.loopsOut==Tryz.f5.resultTypes.toList.any (Tryz.prog.loopsFrom ·)))=true:=by kernel_rfl
theorem aki:((Rows.lightShinesRow.plainKeys==Tryz.prog.plainKeys))=true:=by kernel_rfl
theorem ajB:(Rows.lightShinesRow.shortTexts.isNone)=true:=by kernel_rfl
theorem akZ:(Tryz.prog.stopsHeard)=true:=by kernel_rfl
theorem akJ:(Tryz.prog.mayEnter)=true:=by kernel_rfl
theorem aiQ:((Rows.lightShinesRow.lifted==Tryz.prog.liftsFinal))=true:=by kernel_rfl
theorem akv:((Tryz.prog.make==some Rows.lightShinesRow.make))=true:=by kernel_rfl
theorem ajE:((Rows.lightShinesRow.kinds==(if Rows.lightShinesRow.domain.isEmpty then [] else Tryz.f5.params.toList.map λt=>match Tryz.prog.underlying t with|some (.int k)=>some k|_=>none)))=true:=by kernel_rfl
theorem akO:((Rows.lightShinesRow.pinned==Rows.lightShinesRow.pinnedBy))=true:=by kernel_rfl
theorem ajg:((Rows.lightShinesRow.veiled==(Tryz.f5.params.toList++Rows.lightShinesSpec.plain.varTypes Tryz.prog++Tryz.f5.resultTypes.toList).any (Tryz.prog.veiledRec ·)))=true:=by kernel_rfl
theorem akq:(Rows.lightShinesRow.veiledFits Tryz.prog Tryz.f5.params.toList (Tryz.f5.params.toList++Rows.lightShinesSpec.plain.varTypes Tryz.prog++Tryz.f5.resultTypes.toList))=true:=by kernel_rfl
set_option maxRecDepth 100000 in
theorem sl0:joinedFacts Tryz.pinned.checked.prog 5 Tryz.f5 Rows.lightShinesSpec Rows.lightShinesRow=true:=o5 (o5 (o5 (o5 (o5 (o5 (o5 (o5 (o5 (o5 (o5 (o5 (o5 (o5 (o5 (o5 (o5 (o5 (o5 (o5 (o5 (o5 (o5 (o5 (o5 (o5 (o5 (o5 (o5 (o5 (o5 (jf0) jf1) jf2) jf3) jf4) jf5) jf6) jf7) jf8) jf9) ajS) ajj) akR) akY) aiR) ak5) akr) ajK) ajb) aj5) ajA) akT) aki) ajB) akZ) akJ) aiQ) akv) ajE) akO) ajg) akq
theorem jfn:Tryz.pinned.checked.prog.funcNamed Rows.lightShinesRow.func=some 5:=by kernel_rfl
theorem jfi:decide (Tryz.f5.isInstance Tryz.pinned.checked.prog Rows.lightShinesRow.origin Rows.lightShinesRow.targs)=true:=by kernel_rfl
theorem jfw:Tryz.f5.isWrapper Tryz.pinned.checked.prog Rows.lightShinesRow.wrapper Rows.lightShinesRow.mainSum:=by unfold Func.isWrapper;first|(rw[DL (by decide +kernel)];kernel_rfl)|(rw[Ck (by decide +kernel)];exact⟨rfl,rfl⟩)
theorem jct:Rows.lightShinesRow.wfByText (OpenSpec.ofChange Rows.lightShinesSpec)=true:=by kernel_rfl
theorem jcm : Tryz.pinned.checked.prog.mainIs = some (true, "c4cc4bebecb6db6dad9906a9255ee6d90c0db6239cca12c0e759778b7d748cb5".toList) := by kernel_rfl
theorem jcl:false=Tryz.pinned.checked.prog.looks []:=by kernel_rfl
theorem jcs:(Tryz.f5.params.toList.all λu=>!Tryz.prog.wantsStandIn u)=true:=by kernel_rfl
theorem jcg:false=Rows.lightShinesRow.goesBy Tryz.pinned.checked.prog:=by kernel_rfl
section
variable {tys:List Dx.Ty} (Ym:Dx.argTys Tryz.prog 20 Tryz.f5.params.toList=some tys) (hOk:(Dx.vP (Dx.lawC tys)).Ok Tryz.prog 5)
include tys Ym hOk
theorem afR:Rows.LightShinesSaid :=
 OpenClaim.holds_of_wide 5 Tryz.f5 rfl rfl rfl rfl rfl rfl rfl ⟨rfl,rfl,rfl,rfl,rfl⟩ rfl rfl rfl rfl rfl jfn Tryz.func5 sl0
  (HT jfi) jfw (λos started X9 enc _=>lifted Ym hOk os started X9 enc)
theorem ajk:Rows.LightShinesCardSaid :=
 Claim7.holds_tied_plain_at .later [] [.data, .pinned] true (true, "c4cc4bebecb6db6dad9906a9255ee6d90c0db6239cca12c0e759778b7d748cb5") false (afR Ym hOk) (fun _ h => by cases h) jct (fun _ h => by cases h) lightShines_row_tie rfl ⟨rfl, rfl⟩ jcm rfl
  (fun f fn hf w8=>by
    obtain rfl:f=5:=Option.some.inj ((hf.symm.trans jfn:some f=some 5))
    obtain rfl:fn=Tryz.f5:=(Option.some.inj (Tryz.func5.symm.trans w8)).symm
    exact⟨jcl,λj t ht=>by
     have hm:t∈Tryz.f5.params.toList:=by simpa using Array.mem_of_getElem? ht
     exact(show Tryz.prog.wantsStandIn t=false by simpa using List.all_eq_true.1 jcs t hm)⟩)
  jcg
end
theorem lightShines_card:Rows.LightShinesCardSaid:=ajk (tys:=Dx.tys1009) BF Dx.ok1009
#print axioms lightShines_card
end Go.Proofs.YtllggmkhjhjkpaaGreatDoor
