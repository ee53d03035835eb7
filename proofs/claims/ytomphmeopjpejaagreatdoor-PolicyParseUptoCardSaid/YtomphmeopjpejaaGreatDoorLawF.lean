/- The law PolicyParse returns true and leaves its arguments alone, where what it reads is of bulk at most 1048576; the listed variables that the code reads are tied to the program's text. -/
import Derived.Test.YtomphmeopjpejaaGreatDoorCards
import Derived.Test.YtomphmeopjpejaaGreatDoorTie
import Derived.Test.YtomphmeopjpejaaGreatDoorLawE
set_option linter.unusedVariables false
set_option linter.unusedSimpArgs false
namespace Go.Proofs.YtomphmeopjpejaaGreatDoor.policyParse
open Go.ChangeShapes Go.WideShapes Go.ChangeAt Go.RowKit Go.AM Go.AM.IR
set_option maxRecDepth 100000
theorem tys:vh Tryz.prog 40 Tryz.f5.params.toList=some ([.str]):=by kernel_rfl
theorem par:Tryz.f5.params.toList.all (PJ Tryz.prog)=true:=by kernel_rfl
theorem bool:Tryz.prog.underlying 4=some .bool:=by kernel_rfl
theorem spec {H:Type}(ds:List (DataW H))(h:ds.length=Tryz.f5.params.size):(Rows.policyParseSpec.fn H ds).results= [.lit (.bool true)]/\(Rows.policyParseSpec.fn H ds).args=ds/\(Rows.policyParseSpec.fn H ds).vars= []:=by
 have h':ds.length=1:=h
 match ds,h' with
 | [d0],_=>exact ⟨rfl,rfl,rfl⟩
theorem contract (H:Type)(enc:TypeId×Value->H)(W:World)(base:Nat)(args:Array Value)(ds gs:List (DataW H))(before:List MemPlace)
  (hval: ∀(j:Nat) t v,Tryz.f5.params[j]? =some t->args[j]? =some v->Value.okWide Tryz.prog W .any base t v)
  (hW:DataW.Whole enc Tryz.prog Tryz.f5.params.toList Rows.policyParseSpec.vars false W args.toList ds gs before) (hL:laidMetH Tryz.prog Rows.policyParseUptoRow.laid W) (hsh:W.ShapedOpen Tryz.prog) (hk:Rows.uptoSmall H (ds++gs)=true):
  Calls Tryz.prog 5 args W λe W'=> ∃v,e= .returned v/\Rows.policyParseSpec.post enc Tryz.prog Tryz.f5 false true false false W args v W':=by
 have hb:Rows.uptoBulkAll (ds++gs)<=1048576:=of_decide_eq_true hk;have X:=tie.facts hL hsh;exact Yf (B:=tie.B) (N:=tie.N (tie.goW W)) (YQ rfl _) (λ_ _ h=>h) (tie.gok _ X) tie.mixed tie.laid rfl bool rfl tys par rfl spec hval hW λass h1 h2=>law664_all ass h1 (AJ h2 hb)
theorem reads (os:Os){H:Type}(enc:TypeId×Value->H): ∃nD,DataW.whole enc Tryz.prog ((tie.laidWorld os).forCall (λ_ _=>0) ⟨#[],#[.string ⟨#[]⟩],[]⟩).memory Tryz.f5.params.toList Rows.policyParseSpec.vars false (#[.string ⟨#[]⟩]:Array Value).toList 12=some ([.lit (.string [])],[],nD):=
 ⟨[],by kernel_rfl⟩
theorem lifted (os:Os)(started:os.Started)(H:Type)(enc:TypeId×Value->H)(F:Stop.Interp):
  ReturnsInHanded {} Tryz.checked os 5 .any ((Rows.OpenSpec.upto Rows.policyParseSpec).preRow enc Tryz.prog Tryz.f5 Rows.policyParseUptoRow.domain false Rows.policyParseUptoRow.laid) (((Rows.OpenSpec.upto Rows.policyParseSpec).at F).post enc Tryz.prog Tryz.f5 false true false false):=by
 obtain ⟨nD,hx⟩:=reads os enc
 refine returnsInHanded_of_row (C:=Tryz.checked) (s:=Rows.OpenSpec.upto Rows.policyParseSpec) tie.own started (by kernel_rfl) Tryz.func5
  (witness_row_at (enc:=enc) (C:=Tryz.checked) false (tie.laidWorld os) #[.string ⟨#[]⟩] rfl (by kernel_rfl) (by kernel_rfl) (by kernel_rfl)
   (OpenSpec.preRow_of_cond 12 hx (by kernel_rfl) (λk hk=>by cases hk;kernel_rfl) (by kernel_rfl) (tie.laid_met os _))) ?_
 intro W base args ds gs before hval hW _ hcond _ hL hsh _;exact contract H enc W base args ds gs before hval hW hL hsh (hcond _ rfl)
theorem and_t {a b:Bool}(h:a=true)(k:b=true):(a&&b)=true:=by rw[h,k];rfl
theorem q0:(Rows.policyParseUptoRow.wf (OpenSpec.ofChange (Rows.OpenSpec.upto Rows.policyParseSpec).bare))=true:=by kernel_rfl
theorem q1:(laidOutB Tryz.prog)=true:=by kernel_rfl
theorem q2:(mapsRowed Tryz.prog)=true:=by kernel_rfl
theorem q3:(Tryz.f5.params.all (Tryz.prog.readableRec ·))=true:=by kernel_rfl
theorem q4:(namedTie Tryz.prog Rows.policyParseUptoRow.named (Rows.OpenSpec.upto Rows.policyParseSpec).bare.vars)=true:=by kernel_rfl
theorem q5:((Rows.policyParseUptoRow.stops== []))=true:=by kernel_rfl
theorem q6:((Tryz.prog.stops== []))=true:=by kernel_rfl
theorem q7:((Rows.policyParseUptoRow.knobs== []))=true:=by kernel_rfl
theorem q8:((Tryz.prog.stopKnobs== []))=true:=by kernel_rfl
theorem q9:((Rows.policyParseUptoRow.inPlace==Tryz.prog.inPlace 5))=true:=by kernel_rfl
theorem q10:((Rows.policyParseUptoRow.unfollowed==Tryz.prog.unfollowed 5))=true:=by kernel_rfl
theorem q11:((Rows.policyParseUptoRow.recurses==Tryz.prog.recurses 5))=true:=by kernel_rfl
theorem q12:((Rows.policyParseUptoRow.named==Tryz.prog.varsNamed 5))=true:=by kernel_rfl
theorem q13:((Rows.policyParseUptoRow.maps==(Tryz.f5.params.toList++(Rows.OpenSpec.upto Rows.policyParseSpec).bare.plain.varTypes Tryz.prog).any (Tryz.prog.mapsRec ·)))=true:=by kernel_rfl
theorem q14:((Rows.policyParseUptoRow.ifaces==(Tryz.f5.params.toList++(Rows.OpenSpec.upto Rows.policyParseSpec).bare.plain.varTypes Tryz.prog).any (Tryz.prog.ifacesRec ·)))=true:=by kernel_rfl
theorem q15:((Rows.policyParseUptoRow.mapsOut==Tryz.prog.mapsAmong Tryz.f5.resultTypes.toList))=true:=by kernel_rfl
theorem q16:((Rows.policyParseUptoRow.loops==(Tryz.f5.params.toList++(Rows.OpenSpec.upto Rows.policyParseSpec).bare.plain.varTypes Tryz.prog).any (Tryz.prog.loopsFrom ·)))=true:=by kernel_rfl
theorem q17:((Rows.policyParseUptoRow.wideKeys==(Tryz.f5.params.toList++(Rows.OpenSpec.upto Rows.policyParseSpec).bare.plain.varTypes Tryz.prog++Tryz.f5.resultTypes.toList).any (Tryz.prog.wideKeysFrom ·)))=true:=by kernel_rfl
theorem q18:((Rows.OpenSpec.upto Rows.policyParseSpec).bare.vars.all (Tryz.prog.varReadable ·))=true:=by kernel_rfl
theorem q19:(Tryz.f5.resultTypes.all (λt=>Tryz.prog.readableRec t&&decide (t<Tryz.prog.types.size)))=true:=by kernel_rfl
theorem q20:((Rows.policyParseUptoRow.ifacesOut==Tryz.f5.resultTypes.toList.any (Tryz.prog.ifacesRec ·)))=true:=by kernel_rfl
theorem q21:((Rows.policyParseUptoRow.loopsOut==Tryz.f5.resultTypes.toList.any (Tryz.prog.loopsFrom ·)))=true:=by kernel_rfl
theorem q22:((Rows.policyParseUptoRow.plainKeys==Tryz.prog.plainKeys))=true:=by kernel_rfl
theorem q23:(Rows.policyParseUptoRow.shortTexts.isNone)=true:=by kernel_rfl
theorem q24:(Tryz.prog.stopsHeard)=true:=by kernel_rfl
theorem q25:(Tryz.prog.mayEnter)=true:=by kernel_rfl
theorem q26:((Rows.policyParseUptoRow.lifted==Tryz.prog.liftsFinal))=true:=by kernel_rfl
theorem q27:((Tryz.prog.make==some Rows.policyParseUptoRow.make))=true:=by kernel_rfl
theorem q28:((Rows.policyParseUptoRow.kinds==(if Rows.policyParseUptoRow.domain.isEmpty then [] else Tryz.f5.params.toList.map λt=>match Tryz.prog.underlying t with|some (.int k)=>some k|_=>none)))=true:=by kernel_rfl
theorem q29:((Rows.policyParseUptoRow.pinned==Rows.policyParseUptoRow.pinnedBy))=true:=by kernel_rfl
theorem q30:((Rows.policyParseUptoRow.veiled==(Tryz.f5.params.toList++(Rows.OpenSpec.upto Rows.policyParseSpec).bare.plain.varTypes Tryz.prog++Tryz.f5.resultTypes.toList).any (Tryz.prog.veiledRec ·)))=true:=by kernel_rfl
theorem q31:(Rows.policyParseUptoRow.veiledFits Tryz.prog Tryz.f5.params.toList (Tryz.f5.params.toList++(Rows.OpenSpec.upto Rows.policyParseSpec).bare.plain.varTypes Tryz.prog++Tryz.f5.resultTypes.toList))=true:=by kernel_rfl
theorem closed:joinedFacts Tryz.prog 5 Tryz.f5 (Rows.OpenSpec.upto Rows.policyParseSpec).bare Rows.policyParseUptoRow=true:=
 and_t (and_t (and_t (and_t (and_t (and_t (and_t (and_t (and_t (and_t (and_t (and_t (and_t (and_t (and_t (and_t (and_t (and_t (and_t (and_t (and_t (and_t (and_t (and_t (and_t (and_t (and_t (and_t (and_t (and_t (and_t q0 q1) q2) q3) q4) q5) q6) q7) q8) q9) q10) q11) q12) q13) q14) q15) q16) q17) q18) q19) q20) q21) q22) q23) q24) q25) q26) q27) q28) q29) q30) q31
theorem said:Rows.PolicyParseUptoSaid:=
 OpenClaim.holds_of_cond 5 Tryz.f5 rfl rfl rfl rfl rfl rfl rfl ⟨rfl,rfl,rfl,rfl,rfl⟩ rfl rfl rfl rfl rfl (by kernel_rfl) Tryz.func5 closed
  (of_decide_eq_true (by kernel_rfl)) (by unfold Func.isWrapper;first|(rw[Ac (by decide+kernel)];kernel_rfl)|(rw[Aa (by decide+kernel)];exact ⟨rfl,rfl⟩))
  (λos started H enc _ F=>by rw[OpenClaim.pre_eq_preRow];exact lifted os started H enc F)
theorem plain (f:FuncId)(fn:Func) (hf:Tryz.pinned.checked.prog.funcNamed "routing/routinglaw20.PolicyParse" =some f) (hfn:Tryz.pinned.checked.prog.funcs[f]? =some fn):
  true=Tryz.pinned.checked.prog.looks []/\ ∀(j:Nat) t,fn.params[j]? =some t->Tryz.pinned.checked.prog.wantsStandIn t=false:=by
 obtain rfl:f=5:=Ad ((show Tryz.prog.funcNamed "routing/routinglaw20.PolicyParse" =some 5 by kernel_rfl).symm.trans hf)|>.symm
 obtain rfl:fn=Tryz.f5:=(Ad (Tryz.func5.symm.trans hfn)).symm;refine ⟨by kernel_rfl,λj t ht=>?_⟩
 have hall:Tryz.f5.params.toList.all (λt=> !Tryz.prog.wantsStandIn t)=true:=by kernel_rfl
 have:=List.all_eq_true.1 hall t (by simpa using Array.mem_of_getElem? ht)
 exact (by simpa using this:Tryz.prog.wantsStandIn t=false)
theorem proved:Rows.PolicyParseUptoCardSaid:=
 Claim7.holds_tied_plain_at .later [] _ _ _ _ said (λ_ h=>by cases h) (by kernel_rfl) (λ_ h=>by cases h) policyParseUpto_row_tie rfl ⟨rfl,rfl⟩ (by kernel_rfl) rfl plain (by kernel_rfl)
end Go.Proofs.YtomphmeopjpejaaGreatDoor.policyParse
#print axioms Go.Proofs.YtomphmeopjpejaaGreatDoor.policyParse.proved
