/- The law PolicyBack returns true and leaves its arguments alone, where what it reads is of bulk at most 1048576; the listed variables that the code reads are tied to the program's text. -/
import Derived.Test.YtomphmeopjpejaaGreatDoorCards
import Derived.Test.YtomphmeopjpejaaGreatDoorTie
import Derived.Test.YtomphmeopjpejaaGreatDoorLawE
set_option linter.unusedVariables false
set_option linter.unusedSimpArgs false
namespace Go.Proofs.YtomphmeopjpejaaGreatDoor.policyBack
open Go.ChangeShapes Go.WideShapes Go.ChangeAt Go.RowKit Go.AM Go.AM.IR
set_option maxRecDepth 100000
theorem tys:uh Tryz.prog 40 Tryz.f4.params.toList=some ([(.st [(.sl (.st [.str,(.sl (.st [.bool,(.st [(.int .u32),(.int .i64)]),(.int .i64),(.int .i64)]))])),(.sl (.st [.str,(.sl (.st [.bool,.str]))])),(.sl (.st [.str,(.sl (.st [.bool,(.int .i64),(.int .i64)]))])),(.sl (.st [.str,(.sl (.st [.str,(.sl (.st [(.int .i64),.str,(.int .i64),(.st [(.int .u32),(.int .i64)]),.bool])),(.sl (.st [(.int .i64),(.int .i64),(.int .i64),(.int .u32),(.int .u32)])),(.int .i64)])),(.int .i64)]))])]):=by kernel_rfl
theorem par:Tryz.f4.params.toList.all (QR Tryz.prog)=true:=by kernel_rfl
theorem bool:Tryz.prog.underlying 4=some .bool:=by kernel_rfl
theorem spec {H:Type}(ds:List (DataW H))(h:ds.length=Tryz.f4.params.size):(Rows.policyBackSpec.fn H ds).results= [.lit (.bool true)]/\(Rows.policyBackSpec.fn H ds).args=ds/\(Rows.policyBackSpec.fn H ds).vars= []:=by
 have h':ds.length=1:=h
 match ds,h' with
 | [d0],_=>exact ⟨rfl,rfl,rfl⟩
theorem contract (H:Type)(enc:TypeId×Value->H)(W:World)(base:Nat)(args:Array Value)(ds gs:List (DataW H))(before:List MemPlace)
  (hval: ∀(j:Nat) t v,Tryz.f4.params[j]? =some t->args[j]? =some v->Value.okWide Tryz.prog W .any base t v)
  (hW:DataW.Whole enc Tryz.prog Tryz.f4.params.toList Rows.policyBackSpec.vars false W args.toList ds gs before) (hL:laidMetH Tryz.prog Rows.policyBackUptoRow.laid W) (hsh:W.ShapedOpen Tryz.prog) (hk:Rows.uptoSmall H (ds++gs)=true):
  Calls Tryz.prog 4 args W λe W'=> ∃v,e= .returned v/\Rows.policyBackSpec.post enc Tryz.prog Tryz.f4 false true false false W args v W':=by
 have hb:Rows.uptoBulkAll (ds++gs)<=1048576:=of_decide_eq_true hk;have X:=tie.facts hL hsh;exact Y9 (B:=tie.B) (N:=tie.N (tie.goW W)) (ZO rfl _) (λ_ _ h=>h) (tie.gok _ X) tie.mixed tie.laid rfl bool rfl tys par rfl spec hval hW λass h1 h2=>law663_all ass h1 (AN h2 hb)
theorem reads (os:Os){H:Type}(enc:TypeId×Value->H): ∃na,DataW.whole enc Tryz.prog ((tie.laidWorld os).forCall (λ_ _=>0) ⟨#[],#[.agg #[.slice none 0 0,.slice none 0 0,.slice none 0 0,.slice none 0 0]],[]⟩).memory Tryz.f4.params.toList Rows.policyBackSpec.vars false (#[.agg #[.slice none 0 0,.slice none 0 0,.slice none 0 0,.slice none 0 0]]:Array Value).toList 12=some ([.agg [.nil,.nil,.nil,.nil]],[],na):=
 ⟨[],by kernel_rfl⟩
theorem lifted (os:Os)(started:os.Started)(H:Type)(enc:TypeId×Value->H)(F:Stop.Interp):
  ReturnsInHanded {} Tryz.checked os 4 .any ((Rows.OpenSpec.upto Rows.policyBackSpec).preRow enc Tryz.prog Tryz.f4 Rows.policyBackUptoRow.domain false Rows.policyBackUptoRow.laid) (((Rows.OpenSpec.upto Rows.policyBackSpec).at F).post enc Tryz.prog Tryz.f4 false true false false):=by
 obtain ⟨na,hx⟩:=reads os enc
 refine returnsInHanded_of_row (C:=Tryz.checked) (s:=Rows.OpenSpec.upto Rows.policyBackSpec) tie.own started (by kernel_rfl) Tryz.func4
  (witness_row_at (enc:=enc) (C:=Tryz.checked) false (tie.laidWorld os) #[.agg #[.slice none 0 0,.slice none 0 0,.slice none 0 0,.slice none 0 0]] rfl (by kernel_rfl) (by kernel_rfl) (by kernel_rfl)
   (OpenSpec.preRow_of_cond 12 hx (by kernel_rfl) (λk hk=>by cases hk;kernel_rfl) (by kernel_rfl) (tie.laid_met os _))) ?_
 intro W base args ds gs before hval hW _ hcond _ hL hsh _;exact contract H enc W base args ds gs before hval hW hL hsh (hcond _ rfl)
theorem and_t {a b:Bool}(h:a=true)(k:b=true):(a&&b)=true:=by rw[h,k];rfl
theorem q0:(Rows.policyBackUptoRow.wf (OpenSpec.ofChange (Rows.OpenSpec.upto Rows.policyBackSpec).bare))=true:=by kernel_rfl
theorem q1:(laidOutB Tryz.prog)=true:=by kernel_rfl
theorem q2:(mapsRowed Tryz.prog)=true:=by kernel_rfl
theorem q3:(Tryz.f4.params.all (Tryz.prog.readableRec ·))=true:=by kernel_rfl
theorem q4:(namedTie Tryz.prog Rows.policyBackUptoRow.named (Rows.OpenSpec.upto Rows.policyBackSpec).bare.vars)=true:=by kernel_rfl
theorem q5:((Rows.policyBackUptoRow.stops== []))=true:=by kernel_rfl
theorem q6:((Tryz.prog.stops== []))=true:=by kernel_rfl
theorem q7:((Rows.policyBackUptoRow.knobs== []))=true:=by kernel_rfl
theorem q8:((Tryz.prog.stopKnobs== []))=true:=by kernel_rfl
theorem q9:((Rows.policyBackUptoRow.inPlace==Tryz.prog.inPlace 4))=true:=by kernel_rfl
theorem q10:((Rows.policyBackUptoRow.unfollowed==Tryz.prog.unfollowed 4))=true:=by kernel_rfl
theorem q11:((Rows.policyBackUptoRow.recurses==Tryz.prog.recurses 4))=true:=by kernel_rfl
theorem q12:((Rows.policyBackUptoRow.named==Tryz.prog.varsNamed 4))=true:=by kernel_rfl
theorem q13:((Rows.policyBackUptoRow.maps==(Tryz.f4.params.toList++(Rows.OpenSpec.upto Rows.policyBackSpec).bare.plain.varTypes Tryz.prog).any (Tryz.prog.mapsRec ·)))=true:=by kernel_rfl
theorem q14:((Rows.policyBackUptoRow.ifaces==(Tryz.f4.params.toList++(Rows.OpenSpec.upto Rows.policyBackSpec).bare.plain.varTypes Tryz.prog).any (Tryz.prog.ifacesRec ·)))=true:=by kernel_rfl
theorem q15:((Rows.policyBackUptoRow.mapsOut==Tryz.prog.mapsAmong Tryz.f4.resultTypes.toList))=true:=by kernel_rfl
theorem q16:((Rows.policyBackUptoRow.loops==(Tryz.f4.params.toList++(Rows.OpenSpec.upto Rows.policyBackSpec).bare.plain.varTypes Tryz.prog).any (Tryz.prog.loopsFrom ·)))=true:=by kernel_rfl
theorem q17:((Rows.policyBackUptoRow.wideKeys==(Tryz.f4.params.toList++(Rows.OpenSpec.upto Rows.policyBackSpec).bare.plain.varTypes Tryz.prog++Tryz.f4.resultTypes.toList).any (Tryz.prog.wideKeysFrom ·)))=true:=by kernel_rfl
theorem q18:((Rows.OpenSpec.upto Rows.policyBackSpec).bare.vars.all (Tryz.prog.varReadable ·))=true:=by kernel_rfl
theorem q19:(Tryz.f4.resultTypes.all (λt=>Tryz.prog.readableRec t&&decide (t<Tryz.prog.types.size)))=true:=by kernel_rfl
theorem q20:((Rows.policyBackUptoRow.ifacesOut==Tryz.f4.resultTypes.toList.any (Tryz.prog.ifacesRec ·)))=true:=by kernel_rfl
theorem q21:((Rows.policyBackUptoRow.loopsOut==Tryz.f4.resultTypes.toList.any (Tryz.prog.loopsFrom ·)))=true:=by kernel_rfl
theorem q22:((Rows.policyBackUptoRow.plainKeys==Tryz.prog.plainKeys))=true:=by kernel_rfl
theorem q23:(Rows.policyBackUptoRow.shortTexts.isNone)=true:=by kernel_rfl
theorem q24:(Tryz.prog.stopsHeard)=true:=by kernel_rfl
theorem q25:(Tryz.prog.mayEnter)=true:=by kernel_rfl
theorem q26:((Rows.policyBackUptoRow.lifted==Tryz.prog.liftsFinal))=true:=by kernel_rfl
theorem q27:((Tryz.prog.make==some Rows.policyBackUptoRow.make))=true:=by kernel_rfl
theorem q28:((Rows.policyBackUptoRow.kinds==(if Rows.policyBackUptoRow.domain.isEmpty then [] else Tryz.f4.params.toList.map λt=>match Tryz.prog.underlying t with|some (.int k)=>some k|_=>none)))=true:=by kernel_rfl
theorem q29:((Rows.policyBackUptoRow.pinned==Rows.policyBackUptoRow.pinnedBy))=true:=by kernel_rfl
theorem q30:((Rows.policyBackUptoRow.veiled==(Tryz.f4.params.toList++(Rows.OpenSpec.upto Rows.policyBackSpec).bare.plain.varTypes Tryz.prog++Tryz.f4.resultTypes.toList).any (Tryz.prog.veiledRec ·)))=true:=by kernel_rfl
theorem q31:(Rows.policyBackUptoRow.veiledFits Tryz.prog Tryz.f4.params.toList (Tryz.f4.params.toList++(Rows.OpenSpec.upto Rows.policyBackSpec).bare.plain.varTypes Tryz.prog++Tryz.f4.resultTypes.toList))=true:=by kernel_rfl
theorem closed:joinedFacts Tryz.prog 4 Tryz.f4 (Rows.OpenSpec.upto Rows.policyBackSpec).bare Rows.policyBackUptoRow=true:=
 and_t (and_t (and_t (and_t (and_t (and_t (and_t (and_t (and_t (and_t (and_t (and_t (and_t (and_t (and_t (and_t (and_t (and_t (and_t (and_t (and_t (and_t (and_t (and_t (and_t (and_t (and_t (and_t (and_t (and_t (and_t q0 q1) q2) q3) q4) q5) q6) q7) q8) q9) q10) q11) q12) q13) q14) q15) q16) q17) q18) q19) q20) q21) q22) q23) q24) q25) q26) q27) q28) q29) q30) q31
theorem said:Rows.PolicyBackUptoSaid:=
 OpenClaim.holds_of_cond 4 Tryz.f4 rfl rfl rfl rfl rfl rfl rfl ⟨rfl,rfl,rfl,rfl,rfl⟩ rfl rfl rfl rfl rfl (by kernel_rfl) Tryz.func4 closed
  (of_decide_eq_true (by kernel_rfl)) (by unfold Func.isWrapper;first|(rw[Ad (by decide+kernel)];kernel_rfl)|(rw[Ac (by decide+kernel)];exact ⟨rfl,rfl⟩))
  (λos started H enc _ F=>by rw[OpenClaim.pre_eq_preRow];exact lifted os started H enc F)
theorem plain (f:FuncId)(fn:Func) (hf:Tryz.pinned.checked.prog.funcNamed "routing/routinglaw20.PolicyBack" =some f) (hfn:Tryz.pinned.checked.prog.funcs[f]? =some fn):
  true=Tryz.pinned.checked.prog.looks []/\ ∀(j:Nat) t,fn.params[j]? =some t->Tryz.pinned.checked.prog.wantsStandIn t=false:=by
 obtain rfl:f=4:=Ai ((show Tryz.prog.funcNamed "routing/routinglaw20.PolicyBack" =some 4 by kernel_rfl).symm.trans hf)|>.symm
 obtain rfl:fn=Tryz.f4:=(Ai (Tryz.func4.symm.trans hfn)).symm;refine ⟨by kernel_rfl,λj t ht=>?_⟩
 have hall:Tryz.f4.params.toList.all (λt=> !Tryz.prog.wantsStandIn t)=true:=by kernel_rfl
 have:=List.all_eq_true.1 hall t (by simpa using Array.mem_of_getElem? ht)
 exact (by simpa using this:Tryz.prog.wantsStandIn t=false)
theorem proved:Rows.PolicyBackUptoCardSaid:=
 Claim7.holds_tied_plain_at .later [] _ _ _ _ said (λ_ h=>by cases h) (by kernel_rfl) (λ_ h=>by cases h) policyBackUpto_row_tie rfl ⟨rfl,rfl⟩ (by kernel_rfl) rfl plain (by kernel_rfl)
end Go.Proofs.YtomphmeopjpejaaGreatDoor.policyBack
#print axioms Go.Proofs.YtomphmeopjpejaaGreatDoor.policyBack.proved
