/- The law TopologyPrints returns true and leaves its arguments alone, where what it reads is of bulk at most 1048576; the listed variables that the code reads are tied to the program's text. -/
import Derived.Test.YtekpmkbdjkoooaaGreatDoorCards
import Derived.Test.YtekpmkbdjkoooaaGreatDoorTie
import Derived.WalkKit
import Derived.ProofKit
import Derived.OpenShut
import Derived.Deep.DeepHandedRow
import Derived.Test.YtekpmkbdjkoooaaGreatDoorLawE
import Derived.Test.YtekpmkbdjkoooaaGreatDoorDataP
set_option linter.unusedVariables false
set_option linter.unusedSimpArgs false
namespace Go.Proofs.YtekpmkbdjkoooaaGreatDoor.topologyPrints
open Go.ChangeShapes Go.WideShapes Go.ChangeAt Go.RowKit Go.AM Go.AM.IR
set_option maxRecDepth 100000
theorem tys:uI Tryz.prog 40 Tryz.f3.params.toList=some ([(.st [(.sl (.st [.str,(.st [(.int .u32),(.sl (.st [(.int .i64),(.st [(.int .u32),(.int .i64)]),(.int .u32),(.int .u32),(.int .i64),(.int .i64),(.int .i64),(.int .i64)])),(.sl (.st [(.int .u32),(.st [(.int .u32),(.int .i64)]),.bool]))]),.bool,(.st [(.int .i64),(.int .i64),(.int .u32),(.int .u32),(.sl (.st [(.int .i64),(.int .i64),(.int .u32),(.int .u32),.bool,(.int .i64),(.int .i64),.str,.str,.bool,.bool])),(.sl (.st [(.int .u32),(.int .i64)])),(.st [(.sl (.st [.str,(.sl (.st [.bool,(.st [(.int .u32),(.int .i64)]),(.int .i64),(.int .i64)]))])),(.sl (.st [.str,(.sl (.st [.bool,.str]))])),(.sl (.st [.str,(.sl (.st [.bool,(.int .i64),(.int .i64)]))])),(.sl (.st [.str,(.sl (.st [.str,(.sl (.st [(.int .i64),.str,(.int .i64),(.st [(.int .u32),(.int .i64)]),.bool])),(.sl (.st [(.int .i64),(.int .i64),(.int .i64),(.int .u32),(.int .u32)])),(.int .i64)])),(.int .i64)]))]),(.st [(.int .i64),(.int .i64),(.int .i64),(.int .i64)]),(.int .i64)]),.bool,.bool,(.sl (.st [(.int .i64),(.int .i64),.str,(.int .i64),.bool])),(.sl (.st [(.st [(.int .u32),(.int .i64)]),(.int .u32),(.int .i64)])),(.sl (.int .i64))])),(.sl (.st [(.sl (.st [(.int .i64),(.int .i64)])),(.int .i64)]))])]):=by kernel_rfl
theorem par:Tryz.f3.params.toList.all (Ul Tryz.prog)=true:=by kernel_rfl
theorem bool:Tryz.prog.underlying 4=some .bool:=by kernel_rfl
theorem spec {H:Type}(ds:List (DataW H))(h:ds.length=Tryz.f3.params.size):(Rows.topologyPrintsSpec.fn H ds).results= [.lit (.bool true)]∧(Rows.topologyPrintsSpec.fn H ds).args=ds∧(Rows.topologyPrintsSpec.fn H ds).vars= []:=by
 have h':ds.length=1:=h
 match ds,h' with
 | [d0],_=>exact ⟨rfl,rfl,rfl⟩
theorem contract (H:Type)(enc:TypeId×Value→H)(W:World)(base:Nat)(args:Array Value)(ds gs:List (DataW H))(before:List MemPlace)
  (hval: ∀(j:Nat) t v,Tryz.f3.params[j]? =some t→args[j]? =some v→Value.okWide Tryz.prog W .any base t v)
  (hW:DataW.Whole enc Tryz.prog Tryz.f3.params.toList Rows.topologyPrintsSpec.vars false W args.toList ds gs before) (hL:laidMetH Tryz.prog Rows.topologyPrintsUptoRow.laid W) (hsh:W.ShapedOpen Tryz.prog) (hk:Rows.uptoSmall H (ds++gs)=true):
  Calls Tryz.prog 3 args W fun e W'=> ∃v,e= .returned v∧Rows.topologyPrintsSpec.post enc Tryz.prog Tryz.f3 false true false false W args v W':=by
 have hb:Rows.uptoBulkAll (ds++gs)≤1048576:=of_decide_eq_true hk;have X:=tie.facts hL hsh;exact abR (B:=tie.B) (N:=tie.N (tie.goW W)) (ab4 rfl _) (fun _ _ h=>h) (tie.gok _ X) tie.mixed tie.laid rfl bool rfl tys par rfl spec hval hW fun ass h1 h2=>law370_all ass h1 (AL h2 hb)
theorem reads (os:Os){H:Type}(enc:TypeId×Value→H): ∃mU,DataW.whole enc Tryz.prog ((tie.laidWorld os).forCall (fun _ _=>0) ⟨#[],#[.agg #[.slice none 0 0,.slice none 0 0]],[]⟩).memory Tryz.f3.params.toList Rows.topologyPrintsSpec.vars false (#[.agg #[.slice none 0 0,.slice none 0 0]]:Array Value).toList 12=some ([.agg [.nil,.nil]],[],mU):=
 ⟨[],by kernel_rfl⟩
theorem lifted (os:Os)(started:os.Started)(H:Type)(enc:TypeId×Value→H)(F:Stop.Interp):
  ReturnsInHanded {} Tryz.checked os 3 .any ((Rows.OpenSpec.upto Rows.topologyPrintsSpec).preRow enc Tryz.prog Tryz.f3 Rows.topologyPrintsUptoRow.domain false Rows.topologyPrintsUptoRow.laid) (((Rows.OpenSpec.upto Rows.topologyPrintsSpec).at F).post enc Tryz.prog Tryz.f3 false true false false):=by
 obtain ⟨mU,hx⟩:=reads os enc
 refine returnsInHanded_of_row (C:=Tryz.checked) (s:=Rows.OpenSpec.upto Rows.topologyPrintsSpec) tie.own started (by kernel_rfl) Tryz.func3
  (witness_row_at (enc:=enc) (C:=Tryz.checked) false (tie.laidWorld os) #[.agg #[.slice none 0 0,.slice none 0 0]] rfl (by kernel_rfl) (by kernel_rfl) (by kernel_rfl)
   (OpenSpec.preRow_of_cond 12 hx (by kernel_rfl) (fun k hk=>by cases hk;kernel_rfl) (by kernel_rfl) (tie.laid_met os _))) ?_
 intro W base args ds gs before hval hW _ hcond _ hL hsh _;exact contract H enc W base args ds gs before hval hW hL hsh (hcond _ rfl)
theorem and_t {a b:Bool}(h:a=true)(k:b=true):(a&&b)=true:=by rw[h,k];rfl
theorem q0:(Rows.topologyPrintsUptoRow.wf (OpenSpec.ofChange (Rows.OpenSpec.upto Rows.topologyPrintsSpec).bare))=true:=by kernel_rfl
theorem q1:(laidOutB Tryz.prog)=true:=by kernel_rfl
theorem q2:(mapsRowed Tryz.prog)=true:=by kernel_rfl
theorem q3:(Tryz.f3.params.all (Tryz.prog.readableRec ·))=true:=by kernel_rfl
theorem q4:(namedTie Tryz.prog Rows.topologyPrintsUptoRow.named (Rows.OpenSpec.upto Rows.topologyPrintsSpec).bare.vars)=true:=by kernel_rfl
theorem q5:((Rows.topologyPrintsUptoRow.stops== []))=true:=by kernel_rfl
theorem q6:((Tryz.prog.stops== []))=true:=by kernel_rfl
theorem q7:((Rows.topologyPrintsUptoRow.knobs== []))=true:=by kernel_rfl
theorem q8:((Tryz.prog.stopKnobs== []))=true:=by kernel_rfl
theorem q9:((Rows.topologyPrintsUptoRow.inPlace==Tryz.prog.inPlace 3))=true:=by kernel_rfl
theorem q10:((Rows.topologyPrintsUptoRow.unfollowed==Tryz.prog.unfollowed 3))=true:=by kernel_rfl
theorem q11:((Rows.topologyPrintsUptoRow.recurses==Tryz.prog.recurses 3))=true:=by kernel_rfl
theorem q12:((Rows.topologyPrintsUptoRow.named==Tryz.prog.varsNamed 3))=true:=by kernel_rfl
theorem q13:((Rows.topologyPrintsUptoRow.maps==(Tryz.f3.params.toList++(Rows.OpenSpec.upto Rows.topologyPrintsSpec).bare.plain.varTypes Tryz.prog).any (Tryz.prog.mapsRec ·)))=true:=by kernel_rfl
theorem q14:((Rows.topologyPrintsUptoRow.ifaces==(Tryz.f3.params.toList++(Rows.OpenSpec.upto Rows.topologyPrintsSpec).bare.plain.varTypes Tryz.prog).any (Tryz.prog.ifacesRec ·)))=true:=by kernel_rfl
theorem q15:((Rows.topologyPrintsUptoRow.mapsOut==Tryz.prog.mapsAmong Tryz.f3.resultTypes.toList))=true:=by kernel_rfl
theorem q16:((Rows.topologyPrintsUptoRow.loops==(Tryz.f3.params.toList++(Rows.OpenSpec.upto Rows.topologyPrintsSpec).bare.plain.varTypes Tryz.prog).any (Tryz.prog.loopsFrom ·)))=true:=by kernel_rfl
theorem q17:((Rows.topologyPrintsUptoRow.wideKeys==(Tryz.f3.params.toList++(Rows.OpenSpec.upto Rows.topologyPrintsSpec).bare.plain.varTypes Tryz.prog++Tryz.f3.resultTypes.toList).any (Tryz.prog.wideKeysFrom ·)))=true:=by kernel_rfl
theorem q18:((Rows.OpenSpec.upto Rows.topologyPrintsSpec).bare.vars.all (Tryz.prog.varReadable ·))=true:=by kernel_rfl
theorem q19:(Tryz.f3.resultTypes.all (fun t=>Tryz.prog.readableRec t&&decide (t<Tryz.prog.types.size)))=true:=by kernel_rfl
theorem q20:((Rows.topologyPrintsUptoRow.ifacesOut==Tryz.f3.resultTypes.toList.any (Tryz.prog.ifacesRec ·)))=true:=by kernel_rfl
theorem q21:((Rows.topologyPrintsUptoRow.loopsOut==Tryz.f3.resultTypes.toList.any (Tryz.prog.loopsFrom ·)))=true:=by kernel_rfl
theorem q22:((Rows.topologyPrintsUptoRow.plainKeys==Tryz.prog.plainKeys))=true:=by kernel_rfl
theorem q23:(Rows.topologyPrintsUptoRow.shortTexts.isNone)=true:=by kernel_rfl
theorem q24:(Tryz.prog.stopsHeard)=true:=by kernel_rfl
theorem q25:(Tryz.prog.mayEnter)=true:=by kernel_rfl
theorem q26:((Rows.topologyPrintsUptoRow.lifted==Tryz.prog.liftsFinal))=true:=by kernel_rfl
theorem q27:((Tryz.prog.make==some Rows.topologyPrintsUptoRow.make))=true:=by kernel_rfl
theorem q28:((Rows.topologyPrintsUptoRow.kinds==(if Rows.topologyPrintsUptoRow.domain.isEmpty then [] else Tryz.f3.params.toList.map fun t=>match Tryz.prog.underlying t with|some (.int k)=>some k|_=>none)))=true:=by kernel_rfl
theorem q29:((Rows.topologyPrintsUptoRow.pinned==Rows.topologyPrintsUptoRow.pinnedBy))=true:=by kernel_rfl
theorem q30:((Rows.topologyPrintsUptoRow.veiled==(Tryz.f3.params.toList++(Rows.OpenSpec.upto Rows.topologyPrintsSpec).bare.plain.varTypes Tryz.prog++Tryz.f3.resultTypes.toList).any (Tryz.prog.veiledRec ·)))=true:=by kernel_rfl
theorem q31:(Rows.topologyPrintsUptoRow.veiledFits Tryz.prog Tryz.f3.params.toList (Tryz.f3.params.toList++(Rows.OpenSpec.upto Rows.topologyPrintsSpec).bare.plain.varTypes Tryz.prog++Tryz.f3.resultTypes.toList))=true:=by kernel_rfl
theorem closed:joinedFacts Tryz.prog 3 Tryz.f3 (Rows.OpenSpec.upto Rows.topologyPrintsSpec).bare Rows.topologyPrintsUptoRow=true:=
 and_t (and_t (and_t (and_t (and_t (and_t (and_t (and_t (and_t (and_t (and_t (and_t (and_t (and_t (and_t (and_t (and_t (and_t (and_t (and_t (and_t (and_t (and_t (and_t (and_t (and_t (and_t (and_t (and_t (and_t (and_t q0 q1) q2) q3) q4) q5) q6) q7) q8) q9) q10) q11) q12) q13) q14) q15) q16) q17) q18) q19) q20) q21) q22) q23) q24) q25) q26) q27) q28) q29) q30) q31
theorem said:Rows.TopologyPrintsUptoSaid:=
 OpenClaim.holds_of_cond 3 Tryz.f3 rfl rfl rfl rfl rfl rfl rfl ⟨rfl,rfl,rfl,rfl,rfl⟩ rfl rfl rfl rfl rfl (by kernel_rfl) Tryz.func3 closed
  (of_decide_eq_true (by kernel_rfl)) (by unfold Func.isWrapper;first|(rw[Ad (by decide+kernel)];kernel_rfl)|(rw[Ac (by decide+kernel)];exact ⟨rfl,rfl⟩))
  (fun os started H enc _ F=>by rw[OpenClaim.pre_eq_preRow];exact lifted os started H enc F)
theorem plain (f:FuncId)(fn:Func) (hf:Tryz.pinned.checked.prog.funcNamed "routing/routinglaw53.TopologyPrints" =some f) (hfn:Tryz.pinned.checked.prog.funcs[f]? =some fn):
  true=Tryz.pinned.checked.prog.looks []∧ ∀(j:Nat) t,fn.params[j]? =some t→Tryz.pinned.checked.prog.wantsStandIn t=false:=by
 obtain rfl:f=3:=Ai ((show Tryz.prog.funcNamed "routing/routinglaw53.TopologyPrints" =some 3 by kernel_rfl).symm.trans hf)|>.symm
 obtain rfl:fn=Tryz.f3:=(Ai (Tryz.func3.symm.trans hfn)).symm;refine ⟨by kernel_rfl,fun j t ht=>?_⟩
 have hall:Tryz.f3.params.toList.all (fun t=> !Tryz.prog.wantsStandIn t)=true:=by kernel_rfl
 have:=List.all_eq_true.1 hall t (by simpa using Array.mem_of_getElem? ht)
 exact (by simpa using this:Tryz.prog.wantsStandIn t=false)
theorem proved:Rows.TopologyPrintsUptoCardSaid:=
 Claim7.holds_tied_plain_at .later [] _ _ _ _ said (fun _ h=>by cases h) (by kernel_rfl) (fun _ h=>by cases h) topologyPrintsUpto_row_tie rfl ⟨rfl,rfl⟩ (by kernel_rfl) rfl plain (by kernel_rfl)
end Go.Proofs.YtekpmkbdjkoooaaGreatDoor.topologyPrints
#print axioms Go.Proofs.YtekpmkbdjkoooaaGreatDoor.topologyPrints.proved
