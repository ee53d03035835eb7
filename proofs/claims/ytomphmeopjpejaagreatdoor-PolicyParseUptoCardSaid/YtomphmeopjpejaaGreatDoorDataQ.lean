/- What functions of this program give. -/
import Derived.Test.YtomphmeopjpejaaGreatDoorDataP
set_option linter.unusedSectionVars false
set_option linter.unusedVariables false
set_option linter.unusedSimpArgs false
set_option maxHeartbeats 4000000
set_option maxRecDepth 20000
namespace Go.AM.IR
section
variable {s acc done rest:B5}{i fr n:Int}(q:Ln s acc done rest i fr n)(pre:CL)(pa:CO)(co:CS)(po:C0)(nm:B5)(rl:DN)
include q
theorem Qb (er z:Int)(he:er≠0)(hG:ag GR 466 [.ref 0 0 0,.str acc] (bz (.pre pre pa co po nm rl)) (rE er z (.pre pre pa co po nm rl))):Iv1 s (bQ (cd,n+1,er)) pre pa co po nm rl.length (rl.map RuleP.enc) i fr n:=by
 intro T H c g g0 g1 g2 g3 g4 g5 g6 g7 g8 g9;obtain ⟨hs,hi,hfr,hn0,hn,hl,hb,hsl⟩:=q.all;dsimp only[bz,rE,o3] at hG;refine evl ?_
 repeat' (first|refine bp ?_|apply ae<;>intro h)
 (conv=>whnf)
 rw[hsl];refine kP [(79,_,.cells _),(9001,_,.nest _ _ _),(9002,_,.vec _ _),(9003,_,.vec _ _),(9004,_,.vec _ _),(9005,_,.vec _ _),(9006,_,.vec _ _),(9007,_,.vec _ _),(9008,_,.vec _ _),(9009,_,.vec _ _)] [] cu trivial hG ?_
 repeat' (first|refine aW ?_|apply ae<;>intro h)
 (conv=>whnf)
 refine b9 [] [(66,some (_,.cells [.sl 2 [],.sl 2 [],.sl 2 [],.sl 3 []]))] trivial ⟨⟨rfl,⟨LeP.nil _,LeP.nil _,LeP.nil _,LeP.nil _,trivial⟩⟩,trivial⟩ ?_;refine ap ?_
 (conv=>whnf)
 first|(refine ⟨rfl,?_⟩;trivial)|(refine ⟨?_,?_⟩; ·rfl)|(apply congrArg;rfl)|(unfold bQ cd PSet.enc;rfl)
theorem Um (x:RuleP)(R:Ret)(hG:ag GR 466 [.ref 0 0 0,.str acc] (bz (.pre pre pa co po nm rl)) (rO (Pd pre pa co po nm rl x)))(ih:Iv1 s R pre pa co po nm (rl.length+1) (rl.map RuleP.enc++[x.enc]) (i+1) (i+1) (n+1)):Iv1 s R pre pa co po nm rl.length (rl.map RuleP.enc) i fr n:=by
 intro T H c g g0 g1 g2 g3 g4 g5 g6 g7 g8 g9;obtain ⟨hs,hi,hfr,hn0,hn,hl,hb,hsl⟩:=q.all;dsimp only[bz,rO,Pd] at hG;refine evl ?_
 repeat' (first|refine bp ?_|apply ae<;>intro h)
 (conv=>whnf)
 rw[hsl];refine kP [(79,_,.cells _),(9001,_,.nest _ _ _),(9002,_,.vec _ _),(9003,_,.vec _ _),(9004,_,.vec _ _),(9005,_,.vec _ _),(9006,_,.vec _ _),(9007,_,.vec _ _),(9008,_,.vec _ _),(9009,_,.vec _ _)] [] cu trivial hG ?_
 repeat' (first|refine aW ?_|apply ae<;>intro h)
 (conv=>whnf)
 refine au [18,17,0,5,6,7,2] [66,79,9001,9002,9003,9004,9005,9006,9007,9008,9009] ?_;exact ih _ _ _ _ _ _ _ _ _ _ _ _ _ _
theorem Qd (rl:DO)(er z:Int)(he:er≠0)(hG:ag GR 466 [.ref 0 0 0,.str acc] (bz (.pat pre pa co po nm rl)) (rE er z (.pat pre pa co po nm rl))):Iv2 s (bQ (cd,n+1,er)) pre pa co po nm rl.length (rl.map PathR.enc) i fr n:=by
 intro T H c g g0 g1 g2 g3 g4 g5 g6 g7 g8 g9;obtain ⟨hs,hi,hfr,hn0,hn,hl,hb,hsl⟩:=q.all;dsimp only[bz,rE,o3] at hG;refine evl ?_
 repeat' (first|refine bp ?_|apply ae<;>intro h)
 (conv=>whnf)
 rw[hsl];refine kP [(79,_,.cells _),(9001,_,.vec _ _),(9002,_,.nest _ _ _),(9003,_,.vec _ _),(9004,_,.vec _ _),(9005,_,.vec _ _),(9006,_,.vec _ _),(9007,_,.vec _ _),(9008,_,.vec _ _),(9009,_,.vec _ _)] [] cu trivial hG ?_
 repeat' (first|refine aW ?_|apply ae<;>intro h)
 (conv=>whnf)
 refine b9 [] [(66,some (_,.cells [.sl 2 [],.sl 2 [],.sl 2 [],.sl 3 []]))] trivial ⟨⟨rfl,⟨LeP.nil _,LeP.nil _,LeP.nil _,LeP.nil _,trivial⟩⟩,trivial⟩ ?_;refine ap ?_
 (conv=>whnf)
 first|(refine ⟨rfl,?_⟩;trivial)|(refine ⟨?_,?_⟩; ·rfl)|(apply congrArg;rfl)|(unfold bQ cd PSet.enc;rfl)
theorem Uo (rl:DO)(x:PathR)(R:Ret)(hG:ag GR 466 [.ref 0 0 0,.str acc] (bz (.pat pre pa co po nm rl)) (rO (Pb pre pa co po nm rl x)))(ih:Iv2 s R pre pa co po nm (rl.length+1) (rl.map PathR.enc++[x.enc]) (i+1) (i+1) (n+1)):Iv2 s R pre pa co po nm rl.length (rl.map PathR.enc) i fr n:=by
 intro T H c g g0 g1 g2 g3 g4 g5 g6 g7 g8 g9;obtain ⟨hs,hi,hfr,hn0,hn,hl,hb,hsl⟩:=q.all;dsimp only[bz,rO,Pb] at hG;refine evl ?_
 repeat' (first|refine bp ?_|apply ae<;>intro h)
 (conv=>whnf)
 rw[hsl];refine kP [(79,_,.cells _),(9001,_,.vec _ _),(9002,_,.nest _ _ _),(9003,_,.vec _ _),(9004,_,.vec _ _),(9005,_,.vec _ _),(9006,_,.vec _ _),(9007,_,.vec _ _),(9008,_,.vec _ _),(9009,_,.vec _ _)] [] cu trivial hG ?_
 repeat' (first|refine aW ?_|apply ae<;>intro h)
 (conv=>whnf)
 refine au [18,17,0,5,6,7,2] [66,79,9001,9002,9003,9004,9005,9006,9007,9008,9009] ?_;exact ih _ _ _ _ _ _ _ _ _ _ _ _ _ _
theorem Qe (rl:DR)(er z:Int)(he:er≠0)(hG:ag GR 466 [.ref 0 0 0,.str acc] (bz (.com pre pa co po nm rl)) (rE er z (.com pre pa co po nm rl))):Iv3 s (bQ (cd,n+1,er)) pre pa co po nm rl.length (rl.map ComR.enc) i fr n:=by
 intro T H c g g0 g1 g2 g3 g4 g5 g6 g7 g8 g9;obtain ⟨hs,hi,hfr,hn0,hn,hl,hb,hsl⟩:=q.all;dsimp only[bz,rE,o3] at hG;refine evl ?_
 repeat' (first|refine bp ?_|apply ae<;>intro h)
 (conv=>whnf)
 rw[hsl];refine kP [(79,_,.cells _),(9001,_,.vec _ _),(9002,_,.vec _ _),(9003,_,.nest _ _ _),(9004,_,.vec _ _),(9005,_,.vec _ _),(9006,_,.vec _ _),(9007,_,.vec _ _),(9008,_,.vec _ _),(9009,_,.vec _ _)] [] cu trivial hG ?_
 repeat' (first|refine aW ?_|apply ae<;>intro h)
 (conv=>whnf)
 refine b9 [] [(66,some (_,.cells [.sl 2 [],.sl 2 [],.sl 2 [],.sl 3 []]))] trivial ⟨⟨rfl,⟨LeP.nil _,LeP.nil _,LeP.nil _,LeP.nil _,trivial⟩⟩,trivial⟩ ?_;refine ap ?_
 (conv=>whnf)
 first|(refine ⟨rfl,?_⟩;trivial)|(refine ⟨?_,?_⟩; ·rfl)|(apply congrArg;rfl)|(unfold bQ cd PSet.enc;rfl)
theorem Uq (rl:DR)(x:ComR)(R:Ret)(hG:ag GR 466 [.ref 0 0 0,.str acc] (bz (.com pre pa co po nm rl)) (rO (O9 pre pa co po nm rl x)))(ih:Iv3 s R pre pa co po nm (rl.length+1) (rl.map ComR.enc++[x.enc]) (i+1) (i+1) (n+1)):Iv3 s R pre pa co po nm rl.length (rl.map ComR.enc) i fr n:=by
 intro T H c g g0 g1 g2 g3 g4 g5 g6 g7 g8 g9;obtain ⟨hs,hi,hfr,hn0,hn,hl,hb,hsl⟩:=q.all;dsimp only[bz,rO,O9] at hG;refine evl ?_
 repeat' (first|refine bp ?_|apply ae<;>intro h)
 (conv=>whnf)
 rw[hsl];refine kP [(79,_,.cells _),(9001,_,.vec _ _),(9002,_,.vec _ _),(9003,_,.nest _ _ _),(9004,_,.vec _ _),(9005,_,.vec _ _),(9006,_,.vec _ _),(9007,_,.vec _ _),(9008,_,.vec _ _),(9009,_,.vec _ _)] [] cu trivial hG ?_
 repeat' (first|refine aW ?_|apply ae<;>intro h)
 (conv=>whnf)
 refine au [18,17,0,5,6,7,2] [66,79,9001,9002,9003,9004,9005,9006,9007,9008,9009] ?_;exact ih _ _ _ _ _ _ _ _ _ _ _ _ _ _
end
section
variable (s:B5)(pre:CL)(pa:CO)(co:CS)(po:C0)(nm:B5)
theorem Vx (rl:DN)(i fr n:Int)(R:Ret)(ih:IvT s R ((pre.map PList.enc)++[PList.enc ⟨nm,rl⟩]) (pa.map PathL.enc) (co.map ComL.enc) (po.map Pol.enc) (pre.map PList.name++[nm]) (pa.map PathL.name) (co.map ComL.name) (po.map Pol.name) (pre.length+1) pa.length co.length po.length 1 i fr n):Iv1 s R pre pa co po nm rl.length (rl.map RuleP.enc) i fr n:=by
 intro T H c g g0 g1 g2 g3 g4 g5 g6 g7 g8 g9;refine dC [(9009,g9,.vec 5 (rl.map RuleP.enc))] [18,17,0,5,6,7,2] [(66,g,.cells [bf,bf,bf,bf]),(79,g0,.cells [.vs 9001 g1 (pre.length+1),.vs 9002 g2 pa.length,.vs 9003 g3 co.length,.vs 9004 g4 po.length,.vs 9005 g5 (pre.length+1),.vs 9006 g6 pa.length,.vs 9007 g7 co.length,.vs 9008 g8 po.length,.int .i64 1,.bool false,.bool false]),(9001,g1,.nest 2 (pre.map PList.enc) [[AV.str nm,AV.vs 9009 g9 rl.length]]),(9002,g2,.vec 2 (pa.map PathL.enc)),(9003,g3,.vec 2 (co.map ComL.enc)),(9004,g4,.vec 3 (po.map Pol.enc)),(9005,g5,.vec 1 ((pre.map PList.name++[nm]).map ah)),(9006,g6,.vec 1 ((pa.map PathL.name).map ah)),(9007,g7,.vec 1 ((co.map ComL.name).map ah)),(9008,g8,.vec 1 ((po.map Pol.name).map ah))] ⟨rfl,pz trivial⟩ ?_
 iterate 20 (try ((conv=>whnf);first|refine ⟨rfl,?_⟩|refine ⟨(by first|(simp;done)|(simp[ab];done)),?_⟩))
 intro T H;exact ih _ _ _ _ _ _ _ _ _ _ _ _ _
theorem Vz (rl:DO)(i fr n:Int)(R:Ret)(ih:IvT s R (pre.map PList.enc) ((pa.map PathL.enc)++[PathL.enc ⟨nm,rl⟩]) (co.map ComL.enc) (po.map Pol.enc) (pre.map PList.name) (pa.map PathL.name++[nm]) (co.map ComL.name) (po.map Pol.name) pre.length (pa.length+1) co.length po.length 2 i fr n):Iv2 s R pre pa co po nm rl.length (rl.map PathR.enc) i fr n:=by
 intro T H c g g0 g1 g2 g3 g4 g5 g6 g7 g8 g9;refine dC [(9009,g9,.vec 2 (rl.map PathR.enc))] [18,17,0,5,6,7,2] [(66,g,.cells [bf,bf,bf,bf]),(79,g0,.cells [.vs 9001 g1 pre.length,.vs 9002 g2 (pa.length+1),.vs 9003 g3 co.length,.vs 9004 g4 po.length,.vs 9005 g5 pre.length,.vs 9006 g6 (pa.length+1),.vs 9007 g7 co.length,.vs 9008 g8 po.length,.int .i64 2,.bool false,.bool false]),(9001,g1,.vec 2 (pre.map PList.enc)),(9002,g2,.nest 2 (pa.map PathL.enc) [[AV.str nm,AV.vs 9009 g9 rl.length]]),(9003,g3,.vec 2 (co.map ComL.enc)),(9004,g4,.vec 3 (po.map Pol.enc)),(9005,g5,.vec 1 ((pre.map PList.name).map ah)),(9006,g6,.vec 1 ((pa.map PathL.name++[nm]).map ah)),(9007,g7,.vec 1 ((co.map ComL.name).map ah)),(9008,g8,.vec 1 ((po.map Pol.name).map ah))] ⟨rfl,pz trivial⟩ ?_
 iterate 20 (try ((conv=>whnf);first|refine ⟨rfl,?_⟩|refine ⟨(by first|(simp;done)|(simp[ab];done)),?_⟩))
 intro T H;exact ih _ _ _ _ _ _ _ _ _ _ _ _ _
theorem VJ (rl:DR)(i fr n:Int)(R:Ret)(ih:IvT s R (pre.map PList.enc) (pa.map PathL.enc) ((co.map ComL.enc)++[ComL.enc ⟨nm,rl⟩]) (po.map Pol.enc) (pre.map PList.name) (pa.map PathL.name) (co.map ComL.name++[nm]) (po.map Pol.name) pre.length pa.length (co.length+1) po.length 3 i fr n):Iv3 s R pre pa co po nm rl.length (rl.map ComR.enc) i fr n:=by
 intro T H c g g0 g1 g2 g3 g4 g5 g6 g7 g8 g9;refine dC [(9009,g9,.vec 3 (rl.map ComR.enc))] [18,17,0,5,6,7,2] [(66,g,.cells [bf,bf,bf,bf]),(79,g0,.cells [.vs 9001 g1 pre.length,.vs 9002 g2 pa.length,.vs 9003 g3 (co.length+1),.vs 9004 g4 po.length,.vs 9005 g5 pre.length,.vs 9006 g6 pa.length,.vs 9007 g7 (co.length+1),.vs 9008 g8 po.length,.int .i64 3,.bool false,.bool false]),(9001,g1,.vec 2 (pre.map PList.enc)),(9002,g2,.vec 2 (pa.map PathL.enc)),(9003,g3,.nest 2 (co.map ComL.enc) [[AV.str nm,AV.vs 9009 g9 rl.length]]),(9004,g4,.vec 3 (po.map Pol.enc)),(9005,g5,.vec 1 ((pre.map PList.name).map ah)),(9006,g6,.vec 1 ((pa.map PathL.name).map ah)),(9007,g7,.vec 1 ((co.map ComL.name++[nm]).map ah)),(9008,g8,.vec 1 ((po.map Pol.name).map ah))] ⟨rfl,pz trivial⟩ ?_
 iterate 20 (try ((conv=>whnf);first|refine ⟨rfl,?_⟩|refine ⟨(by first|(simp;done)|(simp[ab];done)),?_⟩))
 intro T H;exact ih _ _ _ _ _ _ _ _ _ _ _ _ _
end
section
variable {s acc done rest:B5}{i fr n:Int}(q:Ln s acc done rest i fr n)(pre:CL)(pa:CO)(co:CS)(po:C0)(nm:B5)(ts:C4)(tn:B5)(ms:C9)(acs:C8)(er z:Int)
include q
theorem Qc (he:er≠0)(hG:ag GR 466 [.ref 0 0 0,.str acc] (bz (.pol pre pa co po nm ts)) (rE er z (.pol pre pa co po nm ts))):Iv4 s (bQ (cd,n+1,er)) pre pa co po nm true 0 ts.length (ts.map Trm.enc) i fr n:=by
 intro T H c g g0 g1 g2 g3 g4 g5 g6 g7 g8 g9;obtain ⟨hs,hi,hfr,hn0,hn,hl,hb,hsl⟩:=q.all;dsimp only[bz,rE,o3] at hG;refine evl ?_
 repeat' (first|refine bp ?_|apply ae<;>intro h)
 (conv=>whnf)
 rw[hsl];refine kP [(79,_,.cells _),(9001,_,.vec _ _),(9002,_,.vec _ _),(9003,_,.vec _ _),(9004,_,.nest _ _ _),(9005,_,.vec _ _),(9006,_,.vec _ _),(9007,_,.vec _ _),(9008,_,.vec _ _),(9009,_,.vec _ _)] [] cu trivial hG ?_
 repeat' (first|refine aW ?_|apply ae<;>intro h)
 (conv=>whnf)
 refine b9 [] [(66,some (_,.cells [.sl 2 [],.sl 2 [],.sl 2 [],.sl 3 []]))] trivial ⟨⟨rfl,⟨LeP.nil _,LeP.nil _,LeP.nil _,LeP.nil _,trivial⟩⟩,trivial⟩ ?_;refine ap ?_
 (conv=>whnf)
 first|(refine ⟨rfl,?_⟩;trivial)|(refine ⟨?_,?_⟩; ·rfl)|(apply congrArg;rfl)|(unfold bQ cd PSet.enc;rfl)
theorem Mw (he:er≠0)(hG:ag GR 466 [.ref 0 0 0,.str acc] (bz (.term pre pa co po nm ts tn ms acs)) (rE er z (.term pre pa co po nm ts tn ms acs))):Iv5 s (bQ (cd,n+1,er)) pre pa co po nm ts tn true 0 ms.length (ms.map Mat.enc) acs.length (acs.map Actn.enc) i fr n:=by
 intro T H c g g0 g1 g2 g3 g4 g5 g6 g7 g8 g9 ga gb;obtain ⟨hs,hi,hfr,hn0,hn,hl,hb,hsl⟩:=q.all;dsimp only[bz,rE,o3] at hG;refine evl ?_
 repeat' (first|refine bp ?_|apply ae<;>intro h)
 (conv=>whnf)
 rw[hsl];refine kP [(79,_,.cells _),(9001,_,.vec _ _),(9002,_,.vec _ _),(9003,_,.vec _ _),(9004,_,.nest _ _ _),(9005,_,.vec _ _),(9006,_,.vec _ _),(9007,_,.vec _ _),(9008,_,.vec _ _),(9009,_,.nest _ _ _),(9010,_,.vec _ _),(9011,_,.vec _ _)] [] gq trivial hG ?_
 repeat' (first|refine aW ?_|apply ae<;>intro h)
 (conv=>whnf)
 refine b9 [] [(66,some (_,.cells [.sl 2 [],.sl 2 [],.sl 2 [],.sl 3 []]))] trivial ⟨⟨rfl,⟨LeP.nil _,LeP.nil _,LeP.nil _,LeP.nil _,trivial⟩⟩,trivial⟩ ?_;refine ap ?_
 (conv=>whnf)
 first|(refine ⟨rfl,?_⟩;trivial)|(refine ⟨?_,?_⟩; ·rfl)|(apply congrArg;rfl)|(unfold bQ cd PSet.enc;rfl)
theorem aeB (x:Mat)(R:Ret)(hG:ag GR 466 [.ref 0 0 0,.str acc] (bz (.term pre pa co po nm ts tn ms acs)) (rO (teM pre pa co po nm ts tn ms acs x)))(ih:Iv5 s R pre pa co po nm ts tn true 0 (ms.length+1) (ms.map Mat.enc++[x.enc]) acs.length (acs.map Actn.enc) (i+1) (i+1) (n+1)):Iv5 s R pre pa co po nm ts tn true 0 ms.length (ms.map Mat.enc) acs.length (acs.map Actn.enc) i fr n:=by
 intro T H c g g0 g1 g2 g3 g4 g5 g6 g7 g8 g9 ga gb;obtain ⟨hs,hi,hfr,hn0,hn,hl,hb,hsl⟩:=q.all;dsimp only[bz,rO,teM] at hG;refine evl ?_
 repeat' (first|refine bp ?_|apply ae<;>intro h)
 (conv=>whnf)
 rw[hsl];refine kP [(79,_,.cells _),(9001,_,.vec _ _),(9002,_,.vec _ _),(9003,_,.vec _ _),(9004,_,.nest _ _ _),(9005,_,.vec _ _),(9006,_,.vec _ _),(9007,_,.vec _ _),(9008,_,.vec _ _),(9009,_,.nest _ _ _),(9010,_,.vec _ _),(9011,_,.vec _ _)] [] gq trivial hG ?_
 repeat' (first|refine aW ?_|apply ae<;>intro h)
 (conv=>whnf)
 refine au [18,17,0,5,6,7,2] [66,79,9001,9002,9003,9004,9005,9006,9007,9008,9009,9010,9011] ?_;exact ih _ _ _ _ _ _ _ _ _ _ _ _ _ _ _ _
theorem aeC (x:Actn)(R:Ret)(hG:ag GR 466 [.ref 0 0 0,.str acc] (bz (.term pre pa co po nm ts tn ms acs)) (rO (teA pre pa co po nm ts tn ms acs x)))(ih:Iv5 s R pre pa co po nm ts tn true 0 ms.length (ms.map Mat.enc) (acs.length+1) (acs.map Actn.enc++[x.enc]) (i+1) (i+1) (n+1)):Iv5 s R pre pa co po nm ts tn true 0 ms.length (ms.map Mat.enc) acs.length (acs.map Actn.enc) i fr n:=by
 intro T H c g g0 g1 g2 g3 g4 g5 g6 g7 g8 g9 ga gb;obtain ⟨hs,hi,hfr,hn0,hn,hl,hb,hsl⟩:=q.all;dsimp only[bz,rO,teA] at hG;refine evl ?_
 repeat' (first|refine bp ?_|apply ae<;>intro h)
 (conv=>whnf)
 rw[hsl];refine kP [(79,_,.cells _),(9001,_,.vec _ _),(9002,_,.vec _ _),(9003,_,.vec _ _),(9004,_,.nest _ _ _),(9005,_,.vec _ _),(9006,_,.vec _ _),(9007,_,.vec _ _),(9008,_,.vec _ _),(9009,_,.nest _ _ _),(9010,_,.vec _ _),(9011,_,.vec _ _)] [] gq trivial hG ?_
 repeat' (first|refine aW ?_|apply ae<;>intro h)
 (conv=>whnf)
 refine au [18,17,0,5,6,7,2] [66,79,9001,9002,9003,9004,9005,9006,9007,9008,9009,9010,9011] ?_;exact ih _ _ _ _ _ _ _ _ _ _ _ _ _ _ _ _
theorem aeA (v:Int)(R:Ret)(hG:ag GR 466 [.ref 0 0 0,.str acc] (bz (.term pre pa co po nm ts tn ms acs)) (rO (teR pre pa co po nm ts tn ms acs v)))(ih:Iv5 s R pre pa co po nm ts tn false v ms.length (ms.map Mat.enc) acs.length (acs.map Actn.enc) (i+1) (i+1) (n+1)):Iv5 s R pre pa co po nm ts tn true 0 ms.length (ms.map Mat.enc) acs.length (acs.map Actn.enc) i fr n:=by
 intro T H c g g0 g1 g2 g3 g4 g5 g6 g7 g8 g9 ga gb;obtain ⟨hs,hi,hfr,hn0,hn,hl,hb,hsl⟩:=q.all;dsimp only[bz,rO,teR] at hG;refine evl ?_
 repeat' (first|refine bp ?_|apply ae<;>intro h)
 (conv=>whnf)
 rw[hsl];refine kP [(79,_,.cells _),(9001,_,.vec _ _),(9002,_,.vec _ _),(9003,_,.vec _ _),(9004,_,.nest _ _ _),(9005,_,.vec _ _),(9006,_,.vec _ _),(9007,_,.vec _ _),(9008,_,.vec _ _),(9009,_,.nest _ _ _),(9010,_,.vec _ _),(9011,_,.vec _ _)] [] gq trivial hG ?_
 repeat' (first|refine aW ?_|apply ae<;>intro h)
 (conv=>whnf)
 refine au [18,17,0,5,6,7,2] [66,79,9001,9002,9003,9004,9005,9006,9007,9008,9009,9010,9011] ?_;exact ih _ _ _ _ _ _ _ _ _ _ _ _ _ _ _ _
theorem aeE (v:Int)(R:Ret)(hG:ag GR 466 [.ref 0 0 0,.str acc] (bz (.pol pre pa co po nm ts)) (rO (plR pre pa co po nm ts v)))(ih:Iv4 s R pre pa co po nm false v ts.length (ts.map Trm.enc) (i+1) (i+1) (n+1)):Iv4 s R pre pa co po nm true 0 ts.length (ts.map Trm.enc) i fr n:=by
 intro T H c g g0 g1 g2 g3 g4 g5 g6 g7 g8 g9;obtain ⟨hs,hi,hfr,hn0,hn,hl,hb,hsl⟩:=q.all;dsimp only[bz,rO,plR] at hG;refine evl ?_
 repeat' (first|refine bp ?_|apply ae<;>intro h)
 (conv=>whnf)
 rw[hsl];refine kP [(79,_,.cells _),(9001,_,.vec _ _),(9002,_,.vec _ _),(9003,_,.vec _ _),(9004,_,.nest _ _ _),(9005,_,.vec _ _),(9006,_,.vec _ _),(9007,_,.vec _ _),(9008,_,.vec _ _),(9009,_,.vec _ _)] [] cu trivial hG ?_
 repeat' (first|refine aW ?_|apply ae<;>intro h)
 (conv=>whnf)
 refine au [18,17,0,5,6,7,2] [66,79,9001,9002,9003,9004,9005,9006,9007,9008,9009] ?_;exact ih _ _ _ _ _ _ _ _ _ _ _ _ _ _
theorem aeD (t:B5)(R:Ret)(hG:ag GR 466 [.ref 0 0 0,.str acc] (bz (.pol pre pa co po nm ts)) (rO (PG pre pa co po nm ts t)))(ih:Iv5 s R pre pa co po nm ts t true 0 0 [] 0 [] (i+1) (i+1) (n+1)):Iv4 s R pre pa co po nm true 0 ts.length (ts.map Trm.enc) i fr n:=by
 intro T H c g g0 g1 g2 g3 g4 g5 g6 g7 g8 g9;obtain ⟨hs,hi,hfr,hn0,hn,hl,hb,hsl⟩:=q.all;dsimp only[bz,rO,PG] at hG;refine evl ?_
 repeat' (first|refine bp ?_|apply ae<;>intro h)
 (conv=>whnf)
 rw[hsl];refine kP [(79,_,.cells _),(9001,_,.vec _ _),(9002,_,.vec _ _),(9003,_,.vec _ _),(9004,_,.nest _ _ _),(9005,_,.vec _ _),(9006,_,.vec _ _),(9007,_,.vec _ _),(9008,_,.vec _ _),(9009,_,.vec _ _)] [] cu trivial hG ?_
 repeat' (first|refine aW ?_|apply ae<;>intro h)
 (conv=>whnf)
 refine cP 9010 6 [] [(9009,some (_,.vec 4 (ts.map Trm.enc++[[AV.str t,AV.vs 9010 _ 0,.con (.slice none 0 0),AV.int .i64 0]])))] trivial ⟨⟨rfl,rfl,LLLe.app _ ⟨⟨.refl _,LeP.nilV _ _ _,.refl _,.refl _,trivial⟩,trivial⟩⟩,trivial⟩ ?_;refine cP 9011 5 [] [(9009,some (_,.vec 4 (ts.map Trm.enc++[[AV.str t,AV.vs 9010 _ 0,AV.vs 9011 _ 0,AV.int .i64 0]])))] trivial ⟨⟨rfl,rfl,LLLe.app _ ⟨⟨.refl _,.refl _,LeP.nilV _ _ _,.refl _,trivial⟩,trivial⟩⟩,trivial⟩ ?_
 (conv=>whnf)
 refine au [18,17,0,5,6,7,2] [66,79,9001,9002,9003,9004,9005,9006,9007,9008,9009,9010,9011] ?_;exact ih _ _ _ _ _ _ _ _ _ _ _ _ _ _ _ _
end
section
variable (s:B5)(pre:CL)(pa:CO)(co:CS)(po:C0)(nm:B5)(ts:C4)(v:Int)(i fr n:Int)(R:Ret)
theorem Vy (ih:IvT s R (pre.map PList.enc) (pa.map PathL.enc) (co.map ComL.enc) ((po.map Pol.enc)++[Pol.enc ⟨nm,ts,v⟩]) (pre.map PList.name) (pa.map PathL.name) (co.map ComL.name) (po.map Pol.name++[nm]) pre.length pa.length co.length (po.length+1) 4 i fr n):Iv4 s R pre pa co po nm false v ts.length (ts.map Trm.enc) i fr n:=by
 intro T H c g g0 g1 g2 g3 g4 g5 g6 g7 g8 g9;refine dC [(9009,g9,.vec 4 (ts.map Trm.enc))] [18,17,0,5,6,7,2] [(66,g,.cells [bf,bf,bf,bf]),(79,g0,.cells [.vs 9001 g1 pre.length,.vs 9002 g2 pa.length,.vs 9003 g3 co.length,.vs 9004 g4 (po.length+1),.vs 9005 g5 pre.length,.vs 9006 g6 pa.length,.vs 9007 g7 co.length,.vs 9008 g8 (po.length+1),.int .i64 4,.bool false,.bool false]),(9001,g1,.vec 2 (pre.map PList.enc)),(9002,g2,.vec 2 (pa.map PathL.enc)),(9003,g3,.vec 2 (co.map ComL.enc)),(9004,g4,.nest 3 (po.map Pol.enc) [[AV.str nm,AV.vs 9009 g9 ts.length,AV.int .i64 v]]),(9005,g5,.vec 1 ((pre.map PList.name).map ah)),(9006,g6,.vec 1 ((pa.map PathL.name).map ah)),(9007,g7,.vec 1 ((co.map ComL.name).map ah)),(9008,g8,.vec 1 ((po.map Pol.name++[nm]).map ah))] ⟨rfl,pz trivial⟩ ?_
 iterate 24 (try ((conv=>whnf);first|refine ⟨rfl,?_⟩|refine ⟨(by first|(simp;done)|(simp[ab];done)),?_⟩))
 intro T H;exact ih _ _ _ _ _ _ _ _ _ _ _ _ _
theorem R6 (tn:B5)(ms:C9)(acs:C8)(ih:Iv4 s R pre pa co po nm true 0 (ts.length+1) (ts.map Trm.enc++[Trm.enc ⟨tn,ms,acs,v⟩]) i fr n):Iv5 s R pre pa co po nm ts tn false v ms.length (ms.map Mat.enc) acs.length (acs.map Actn.enc) i fr n:=by
 intro T H c g g0 g1 g2 g3 g4 g5 g6 g7 g8 g9 ga gb;refine dC [(9010,ga,.vec 6 (ms.map Mat.enc)),(9011,gb,.vec 5 (acs.map Actn.enc))] [18,17,0,5,6,7,2] [(66,g,.cells [bf,bf,bf,bf]),(79,g0,.cells [.vs 9001 g1 pre.length,.vs 9002 g2 pa.length,.vs 9003 g3 co.length,.vs 9004 g4 (po.length+1),.vs 9005 g5 pre.length,.vs 9006 g6 pa.length,.vs 9007 g7 co.length,.vs 9008 g8 (po.length+1),.int .i64 4,.bool true,.bool false]),(9001,g1,.vec 2 (pre.map PList.enc)),(9002,g2,.vec 2 (pa.map PathL.enc)),(9003,g3,.vec 2 (co.map ComL.enc)),(9004,g4,.nest 3 (po.map Pol.enc) [[AV.str nm,AV.vs 9009 g9 (ts.length+1),AV.int .i64 0]]),(9005,g5,.vec 1 ((pre.map PList.name).map ah)),(9006,g6,.vec 1 ((pa.map PathL.name).map ah)),(9007,g7,.vec 1 ((co.map ComL.name).map ah)),(9008,g8,.vec 1 ((po.map Pol.name++[nm]).map ah)),(9009,g9,.nest 4 (ts.map Trm.enc) [[AV.str tn,AV.vs 9010 ga ms.length,AV.vs 9011 gb acs.length,AV.int .i64 v]])] ⟨rfl,pz ⟨rfl,pz trivial⟩⟩ ?_
 iterate 24 (try ((conv=>whnf);first|refine ⟨rfl,?_⟩|refine ⟨(by first|(simp;done)|(simp[ab];done)),?_⟩))
 intro T H;exact ih _ _ _ _ _ _ _ _ _ _ _ _ _ _
end
section
variable (s:B5)(hs:s.length<=65536)(fr n:Int)
include hs
theorem nc (hn0:0<=n)(hn:n<=65536)(hfr:fr<s.length)(T:TV)(H:az)(c g g0:Nat):Ev GR ⟨gj,⟨(18,.int .i64 s.length)::(17,.int .i64 s.length)::(0,.str s)::(5,.ref 79 g0 0)::(6,.int .i64 fr)::(7,.int .i64 n)::(2,.ref 66 g 0)::T,(66,some (g,.cells [bf,bf,bf,bf]))::H,c⟩,[.cell 2 (some 4),.t 3,.t 4],0⟩ (bQ (cd,n+1,2)):=by
 refine evA ?_
 (conv=>whnf)
 refine b9 [] [(66,some (_,.cells [.sl 2 [],.sl 2 [],.sl 2 [],.sl 3 []]))] trivial ⟨⟨rfl,⟨LeP.nil _,LeP.nil _,LeP.nil _,LeP.nil _,trivial⟩⟩,trivial⟩ ?_;refine ap ?_
 (conv=>whnf)
 first|(refine ⟨rfl,?_⟩;trivial)|(refine ⟨?_,?_⟩; ·rfl)|(apply congrArg;rfl)|(unfold bQ cd PSet.enc;rfl)
theorem Oq (hn0:0<=n)(hn:n<=65536)(hfr: ¬fr<s.length)(T:TV)(H:az)(c g g0:Nat)(c0 c1 c2 c3 c4 c5 c6 c7 c8 c10:AV):Ev GR ⟨gj,⟨(18,.int .i64 s.length)::(17,.int .i64 s.length)::(0,.str s)::(5,.ref 79 g0 0)::(6,.int .i64 fr)::(7,.int .i64 n)::(2,.ref 66 g 0)::T,(66,some (g,.cells [bf,bf,bf,bf]))::(79,some (g0,.cells [c0,c1,c2,c3,c4,c5,c6,c7,c8,.bool true,c10]))::H,c⟩,[.cell 2 (some 4),.t 3,.t 4],0⟩ (bQ (cd,n+1,3)):=by
 refine evA ?_
 (conv=>whnf)
 refine b9 [] [(66,some (_,.cells [.sl 2 [],.sl 2 [],.sl 2 [],.sl 3 []]))] trivial ⟨⟨rfl,⟨LeP.nil _,LeP.nil _,LeP.nil _,LeP.nil _,trivial⟩⟩,trivial⟩ ?_;refine ap ?_
 (conv=>whnf)
 first|(refine ⟨rfl,?_⟩;trivial)|(refine ⟨?_,?_⟩; ·rfl)|(apply congrArg;rfl)|(unfold bQ cd PSet.enc;rfl)
theorem zl (pre:CL)(pa:CO)(co:CS)(po:C0)(so fr n:Int)(hfr: ¬fr<s.length):IvT s (bQ (⟨pre,pa,co,po⟩,0,0)) (pre.map PList.enc) (pa.map PathL.enc) (co.map ComL.enc) (po.map Pol.enc) (pre.map PList.name) (pa.map PathL.name) (co.map ComL.name) (po.map Pol.name) pre.length pa.length co.length po.length so s.length fr n:=by
 intro T H c g g0 g1 g2 g3 g4 g5 g6 g7 g8;refine dC [(9001,g1,.vec 2 (pre.map PList.enc)),(9002,g2,.vec 2 (pa.map PathL.enc)),(9003,g3,.vec 2 (co.map ComL.enc)),(9004,g4,.vec 3 (po.map Pol.enc)),(9005,g5,.vec 1 ((pre.map PList.name).map ah)),(9006,g6,.vec 1 ((pa.map PathL.name).map ah)),(9007,g7,.vec 1 ((co.map ComL.name).map ah)),(9008,g8,.vec 1 ((po.map Pol.name).map ah))] [18,17,0,5,6,7,2] [(66,g,.cells [bf,bf,bf,bf]),(79,g0,.cells [.vs 9001 g1 pre.length,.vs 9002 g2 pa.length,.vs 9003 g3 co.length,.vs 9004 g4 po.length,.vs 9005 g5 pre.length,.vs 9006 g6 pa.length,.vs 9007 g7 co.length,.vs 9008 g8 po.length,.int .i64 so,.bool false,.bool false])] ⟨rfl,pz ⟨rfl,pz ⟨rfl,pz ⟨rfl,pz ⟨rfl,pz ⟨rfl,pz ⟨rfl,pz ⟨rfl,pz trivial⟩⟩⟩⟩⟩⟩⟩⟩ ?_
 iterate 24 (try ((conv=>whnf);first|refine ⟨rfl,?_⟩|refine ⟨(by first|(simp;done)|(simp[ab];done)),?_⟩))
 intro T H;refine evA ?_
 (conv=>whnf)
 refine ap ?_
 (conv=>whnf)
 refine ⟨(by simp[AV.pure,aM,ab]),?_⟩
 rfl
end
def lf (s:B5)(R:Ret)(st:PS)(i fr n:Int):Prop:=match st with
 | .top pre pa co po so=>IvT s R (pre.map PList.enc) (pa.map PathL.enc) (co.map ComL.enc) (po.map Pol.enc) (pre.map PList.name) (pa.map PathL.name) (co.map ComL.name) (po.map Pol.name) pre.length pa.length co.length po.length so i fr n
 | .pre pre pa co po nm rl=>Iv1 s R pre pa co po nm rl.length (rl.map RuleP.enc) i fr n
 | .pat pre pa co po nm rl=>Iv2 s R pre pa co po nm rl.length (rl.map PathR.enc) i fr n
 | .com pre pa co po nm rl=>Iv3 s R pre pa co po nm rl.length (rl.map ComR.enc) i fr n
 | .pol pre pa co po nm ts=>Iv4 s R pre pa co po nm true 0 ts.length (ts.map Trm.enc) i fr n
 | .term pre pa co po nm ts tn ms acs=>Iv5 s R pre pa co po nm ts tn true 0 ms.length (ms.map Mat.enc) acs.length (acs.map Actn.enc) i fr n
section
variable (s:B5)(R:Ret)(pre:CL)(pa:CO)(co:CS)(po:C0)(nm:B5)
theorem sU (rl:DN)(i fr n:Int)(h:lf s R (.top (pre++[(⟨nm,rl⟩:PList)]) pa co po 1) i fr n):lf s R (.pre pre pa co po nm rl) i fr n:=by
 replace h:IvT s R ((pre++[(⟨nm,rl⟩:PList)]).map PList.enc) (pa.map PathL.enc) (co.map ComL.enc) (po.map Pol.enc) ((pre++[(⟨nm,rl⟩:PList)]).map PList.name) (pa.map PathL.name) (co.map ComL.name) (po.map Pol.name) (pre++[(⟨nm,rl⟩:PList)]).length pa.length co.length po.length 1 i fr n:=h;simp only[List.map_append,Ao] at h;exact Vx s pre pa co po nm rl i fr n R h
theorem sV (rl:DO)(i fr n:Int)(h:lf s R (.top pre (pa++[(⟨nm,rl⟩:PathL)]) co po 2) i fr n):lf s R (.pat pre pa co po nm rl) i fr n:=by
 replace h:IvT s R (pre.map PList.enc) ((pa++[(⟨nm,rl⟩:PathL)]).map PathL.enc) (co.map ComL.enc) (po.map Pol.enc) (pre.map PList.name) ((pa++[(⟨nm,rl⟩:PathL)]).map PathL.name) (co.map ComL.name) (po.map Pol.name) pre.length (pa++[(⟨nm,rl⟩:PathL)]).length co.length po.length 2 i fr n:=h;simp only[List.map_append,Ao] at h;exact Vz s pre pa co po nm rl i fr n R h
theorem sW (rl:DR)(i fr n:Int)(h:lf s R (.top pre pa (co++[(⟨nm,rl⟩:ComL)]) po 3) i fr n):lf s R (.com pre pa co po nm rl) i fr n:=by
 replace h:IvT s R (pre.map PList.enc) (pa.map PathL.enc) ((co++[(⟨nm,rl⟩:ComL)]).map ComL.enc) (po.map Pol.enc) (pre.map PList.name) (pa.map PathL.name) ((co++[(⟨nm,rl⟩:ComL)]).map ComL.name) (po.map Pol.name) pre.length pa.length (co++[(⟨nm,rl⟩:ComL)]).length po.length 3 i fr n:=h;simp only[List.map_append,Ao] at h;exact VJ s pre pa co po nm rl i fr n R h
end
theorem ac6 {s acc done rest:B5}{i fr n:Int}(q:Ln s acc done rest i fr n)(st:PS)(r:Ret)(op:PO)(R:Ret)(hG:ag GR 466 [.ref 0 0 0,.str acc] (bz st) r)(hS:sE op st r)(he: ∀er,op= .err er->R=bQ (cd,n+1,er))(ih: ∀st',op= .ok st'->lf s R st' (i+1) (i+1) (n+1)):lf s R st i fr n:=by
 rcases hS with ⟨er,z,hz,ho,hr⟩|⟨st',Rb,ho,hr,hok⟩
 ·subst hr
  rw[he _ ho];cases st with
  |top pre pa co po so=>exact P9 q _ _ _ _ _ er z hz hG
  |pre pre pa co po nm rl=>exact Qb q _ _ _ _ _ _ er z hz hG
  |pat pre pa co po nm rl=>exact Qd q _ _ _ _ _ _ er z hz hG
  |com pre pa co po nm rl=>exact Qe q _ _ _ _ _ _ er z hz hG
  |pol pre pa co po nm ts=>exact Qc q _ _ _ _ _ _ er z hz hG
  |term pre pa co po nm ts tn ms acs=>exact Mw q _ _ _ _ _ _ _ _ _ er z hz hG
 ·subst hr
  have h:=ih _ ho;clear ih he;cases hok with
  |h1 pre pa co po so t=>exact Ul q pre pa co po so t R hG h
  |h2 pre pa co po so t=>exact Uk q pre pa co po so t R hG h
  |h3 pre pa co po so t=>exact Uj q pre pa co po so t R hG h
  |h4 pre pa co po so t=>exact Ui q pre pa co po so t R hG h
  |r1 pre pa co po nm rl x hl=>
   replace h:Iv1 s R pre pa co po nm (rl++[x]).length ((rl++[x]).map RuleP.enc) (i+1) (i+1) (n+1):=h;rw[List.map_append,Ao] at h;exact Um q pre pa co po nm rl x R hG h
  |r2 pre pa co po nm rl x hl=>
   replace h:Iv2 s R pre pa co po nm (rl++[x]).length ((rl++[x]).map PathR.enc) (i+1) (i+1) (n+1):=h;rw[List.map_append,Ao] at h;exact Uo q pre pa co po nm rl x R hG h
  |r3 pre pa co po nm rl x=>
   replace h:Iv3 s R pre pa co po nm (rl++[x]).length ((rl++[x]).map ComR.enc) (i+1) (i+1) (n+1):=h;rw[List.map_append,Ao] at h;exact Uq q pre pa co po nm rl x R hG h
  |pl pre pa co po nm ts v=>
   replace h:IvT s R (pre.map PList.enc) (pa.map PathL.enc) (co.map ComL.enc) ((po++[(⟨nm,ts,v⟩:Pol)]).map Pol.enc) (pre.map PList.name) (pa.map PathL.name) (co.map ComL.name) ((po++[(⟨nm,ts,v⟩:Pol)]).map Pol.name) pre.length pa.length co.length (po++[(⟨nm,ts,v⟩:Pol)]).length 4 (i+1) (i+1) (n+1):=h;simp only[List.map_append,Ao] at h;exact aeE q pre pa co po nm ts v R hG (Vy s pre pa co po nm ts v _ _ _ R h)
  |pt pre pa co po nm ts t hl=>exact aeD q pre pa co po nm ts t R hG h
  |te pre pa co po nm ts tn ms acs v=>
   replace h:Iv4 s R pre pa co po nm true 0 (ts++[(⟨tn,ms,acs,v⟩:Trm)]).length ((ts++[(⟨tn,ms,acs,v⟩:Trm)]).map Trm.enc) (i+1) (i+1) (n+1):=h;rw[List.map_append,Ao] at h;exact aeA q pre pa co po nm ts tn ms acs v R hG (R6 s pre pa co po nm ts v _ _ _ R tn ms acs h)
  |tm pre pa co po nm ts tn ms acs x hl=>
   replace h:Iv5 s R pre pa co po nm ts tn true 0 (ms++[x]).length ((ms++[x]).map Mat.enc) acs.length (acs.map Actn.enc) (i+1) (i+1) (n+1):=h;rw[List.map_append,Ao] at h;exact aeB q pre pa co po nm ts tn ms acs x R hG h
  |ta pre pa co po nm ts tn ms acs x hl=>
   replace h:Iv5 s R pre pa co po nm ts tn true 0 ms.length (ms.map Mat.enc) (acs++[x]).length ((acs++[x]).map Actn.enc) (i+1) (i+1) (n+1):=h;rw[List.map_append,Ao] at h;exact aeC q pre pa co po nm ts tn ms acs x R hG h
def PS.le (m:Nat):PS->Prop
 | .top p1 pa co po _=>p1.length<=m/\pa.length<=m/\co.length<=m/\po.length<=m
 | .pre p1 pa co po _ rl=>p1.length<m/\pa.length<=m/\co.length<=m/\po.length<=m/\rl.length<=m
 | .pat p1 pa co po _ rl=>p1.length<=m/\pa.length<m/\co.length<=m/\po.length<=m/\rl.length<=m
 | .com p1 pa co po _ rl=>p1.length<=m/\pa.length<=m/\co.length<m/\po.length<=m/\rl.length<=m
 | .pol p1 pa co po _ ts=>p1.length<=m/\pa.length<=m/\co.length<=m/\po.length<m/\ts.length<=m
 | .term p1 pa co po _ ts _ ms acs=>p1.length<=m/\pa.length<=m/\co.length<=m/\po.length<m/\ts.length<=m/\ms.length<=m/\acs.length<=m
def PS.calm:PS->Prop
 | .top _ _ _ _ so=>so≠1/\so≠2/\so≠3
 |_=>True
theorem Uv {m:Nat}(hm:m<2^30): ∀{st:PS},st.le m->st.fit
 | .top ..,h=>⟨by have:=h.1;omega,by have:=h.2.1;omega,by have:=h.2.2.1;omega,by have:=h.2.2.2;omega⟩
 | .pre ..,h=>⟨by have:=h.1;omega,by have:=h.2.1;omega,by have:=h.2.2.1;omega,by have:=h.2.2.2.1;omega⟩
 | .pat ..,h=>⟨by have:=h.1;omega,by have:=h.2.1;omega,by have:=h.2.2.1;omega,by have:=h.2.2.2.1;omega⟩
 | .com ..,h=>⟨by have:=h.1;omega,by have:=h.2.1;omega,by have:=h.2.2.1;omega,by have:=h.2.2.2.1;omega⟩
 | .pol ..,h=>⟨by have:=h.1;omega,by have:=h.2.1;omega,by have:=h.2.2.1;omega,by have:=h.2.2.2.1;omega,by have:=h.2.2.2.2;omega⟩
 | .term ..,h=>⟨by have:=h.1;omega,by have:=h.2.1;omega,by have:=h.2.2.1;omega,by have:=h.2.2.2.1;omega,by have:=h.2.2.2.2.1;omega,by have:=h.2.2.2.2.2.1;omega,by have:=h.2.2.2.2.2.2;omega⟩
theorem w5 {m:Nat}(s:B5): ∀{st:PS},st.le m->(st.close s).le m
 | .top ..,h=>h
 | .pol ..,h=>h
 | .term ..,h=>h
 | .pre ..,h=>by
  simp only[PS.close];split
  ·exact h
  ·obtain ⟨h1,h2,h3,h4,_⟩:=h;exact ⟨by simp;omega,h2,h3,h4⟩
 | .pat ..,h=>by
  simp only[PS.close];split
  ·exact h
  ·obtain ⟨h1,h2,h3,h4,_⟩:=h;exact ⟨h1,by simp;omega,h3,h4⟩
 | .com ..,h=>by
  simp only[PS.close];split
  ·exact h
  ·obtain ⟨h1,h2,h3,h4,_⟩:=h;exact ⟨h1,h2,by simp;omega,h4⟩
section
variable {m:Nat}{st st':PS}{Rb:Co}(ok:OkR st st' Rb)
include ok
theorem NZ (h:st.le m):st'.le (m+1):=by
 cases ok<;>simp only[PS.le,Ao,List.length_singleton,List.length_nil] at h⊢ <;>omega
theorem VM:st'.calm:=by
 cases ok<;>first|trivial|exact ⟨by decide,by decide,by decide⟩
end
theorem O3 (s:B5): ∀{st:PS},st.calm->(st.close s).shut s
 | .top ..,h=>λ_=>h
 | .pol ..,_=>trivial
 | .term ..,_=>trivial
 | .pre ..,_=>by
  simp only[PS.close];split
  ·rename_i h;exact h
  ·rename_i h;exact λq=>absurd q h
 | .pat ..,_=>by
  simp only[PS.close];split
  ·rename_i h;exact h
  ·rename_i h;exact λq=>absurd q h
 | .com ..,_=>by
  simp only[PS.close];split
  ·rename_i h;exact h
  ·rename_i h;exact λq=>absurd q h
theorem UC (s acc:B5)(R:Ret)(i fr n:Int): ∀(st:PS),lf s R (st.close acc) i fr n->lf s R st i fr n
 | .top ..,h=>h
 | .pol ..,h=>h
 | .term ..,h=>h
 | .pre ..,h=>by
  simp only[PS.close] at h;split at h
  ·exact h
  ·exact sU _ _ _ _ _ _ _ _ _ _ _ h
 | .pat ..,h=>by
  simp only[PS.close] at h;split at h
  ·exact h
  ·exact sV _ _ _ _ _ _ _ _ _ _ _ h
 | .com ..,h=>by
  simp only[PS.close] at h;split at h
  ·exact h
  ·exact sW _ _ _ _ _ _ _ _ _ _ _ h
section
variable (s:B5)(hs:s.length<=65536)(fr n:Int)(hn0:0<=n)(hn:n<=65536)
include hs hn0 hn
theorem ac7 (hfr: ¬fr<s.length): ∀(st:PS),lf s (bQ (if st.inPol=true then (cd,n+1,3) else (st.set,0,0))) st s.length fr n
 | .top pre pa co po so=>zl s hs pre pa co po so fr n hfr
 | .pre pre pa co po nm rl=>sU _ _ _ _ _ _ _ _ _ _ _ (zl s hs _ pa co po 1 fr n hfr)
 | .pat pre pa co po nm rl=>sV _ _ _ _ _ _ _ _ _ _ _ (zl s hs pre _ co po 2 fr n hfr)
 | .com pre pa co po nm rl=>sW _ _ _ _ _ _ _ _ _ _ _ (zl s hs pre pa _ po 3 fr n hfr)
 | .pol pre pa co po nm ts=>λT H c g g0 g1 g2 g3 g4 g5 g6 g7 g8 g9=>Oq s hs fr n hn0 hn hfr T _ c g g0 _ _ _ _ _ _ _ _ _ _
 | .term pre pa co po nm ts tn ms acs=>λT H c g g0 g1 g2 g3 g4 g5 g6 g7 g8 g9 ga gb=>Oq s hs fr n hn0 hn hfr T _ c g g0 _ _ _ _ _ _ _ _ _ _
theorem Ym (hfr:fr<s.length): ∀(st:PS),lf s (bQ (cd,n+1,2)) st s.length fr n
 | .top .. =>λT H c g g0 g1 g2 g3 g4 g5 g6 g7 g8=>nc s hs fr n hn0 hn hfr T _ c g g0
 | .pre .. =>λT H c g g0 g1 g2 g3 g4 g5 g6 g7 g8 g9=>nc s hs fr n hn0 hn hfr T _ c g g0
 | .pat .. =>λT H c g g0 g1 g2 g3 g4 g5 g6 g7 g8 g9=>nc s hs fr n hn0 hn hfr T _ c g g0
 | .com .. =>λT H c g g0 g1 g2 g3 g4 g5 g6 g7 g8 g9=>nc s hs fr n hn0 hn hfr T _ c g g0
 | .pol .. =>λT H c g g0 g1 g2 g3 g4 g5 g6 g7 g8 g9=>nc s hs fr n hn0 hn hfr T _ c g g0
 | .term .. =>λT H c g g0 g1 g2 g3 g4 g5 g6 g7 g8 g9 ga gb=>nc s hs fr n hn0 hn hfr T _ c g g0
end
theorem afe (s:B5)(hs:s.length<2^30)(x:UInt8)(done rest:B5)(e:s=done++x::rest)(hx:x≠10)(fr n i:Int)(R:Ret)(hi:i=done.length): ∀(st:PS),lf s R st (i+1) fr n->lf s R st i fr n
 | .top ..,h=>λT H c g g0 g1 g2 g3 g4 g5 g6 g7 g8=>vK s hs x done rest e hx 79 g0 0 0 fr n i R hi _ g (λT c=>h T H c g g0 g1 g2 g3 g4 g5 g6 g7 g8) T c
 | .pre ..,h=>λT H c g g0 g1 g2 g3 g4 g5 g6 g7 g8 g9=>vK s hs x done rest e hx 79 g0 0 0 fr n i R hi _ g (λT c=>h T H c g g0 g1 g2 g3 g4 g5 g6 g7 g8 g9) T c
 | .pat ..,h=>λT H c g g0 g1 g2 g3 g4 g5 g6 g7 g8 g9=>vK s hs x done rest e hx 79 g0 0 0 fr n i R hi _ g (λT c=>h T H c g g0 g1 g2 g3 g4 g5 g6 g7 g8 g9) T c
 | .com ..,h=>λT H c g g0 g1 g2 g3 g4 g5 g6 g7 g8 g9=>vK s hs x done rest e hx 79 g0 0 0 fr n i R hi _ g (λT c=>h T H c g g0 g1 g2 g3 g4 g5 g6 g7 g8 g9) T c
 | .pol ..,h=>λT H c g g0 g1 g2 g3 g4 g5 g6 g7 g8 g9=>vK s hs x done rest e hx 79 g0 0 0 fr n i R hi _ g (λT c=>h T H c g g0 g1 g2 g3 g4 g5 g6 g7 g8 g9) T c
 | .term ..,h=>λT H c g g0 g1 g2 g3 g4 g5 g6 g7 g8 g9 ga gb=>vK s hs x done rest e hx 79 g0 0 0 fr n i R hi _ g (λT c=>h T H c g g0 g1 g2 g3 g4 g5 g6 g7 g8 g9 ga gb) T c
theorem wG {st st':PS}{r:Ret}(h:sE (.ok st') st r): ∃Rb,OkR st st' Rb:=by
 rcases h with ⟨_,_,_,h,_⟩|⟨_,Rb,h,_,hok⟩
 ·cases h
 ·cases h;exact ⟨Rb,hok⟩
theorem AW (s:B5)(hs:s.length<=65536): ∀(rest:B5)(st:PS)(acc done:B5)(n:Nat),s=done++(acc++rest)->n<=done.length->st.le n->st.calm->lf s (bQ (jc st n acc rest)) st ((done.length:Int)+acc.length) done.length n
 | [],st,acc,done,n,e,hn,hl,hc=>by
  have hl:s.length=done.length+acc.length:=by simp[e]
  have hi:(done.length:Int)+acc.length=s.length:=by omega
  rw[hi];unfold jc
  by_cases ha:acc= []
  ·rw[Aa (nn2 ha)]
   subst ha;simp only[List.length_nil] at hl;exact ac7 s hs _ _ (by omega) (by omega) (by omega) st
  ·rw[Ac ha]
   have:=List.length_pos_iff.mpr ha;exact Ym s hs _ _ (by omega) (by omega) (by omega) st
 |c::rest,st,acc,done,n,e,hn,hl,hc=>by
  have hlen:s.length=done.length+(acc.length+(rest.length+1)):=by simp[e]
  by_cases hx:c=10
  ·subst hx
   apply UC s acc;refine ac6 (done:=done) (rest:=rest) ⟨hs,e,rfl,rfl,by omega,by omega⟩ (st.close acc) (rdT (st.close acc) acc) (dk st acc) _ ?_ (vk st acc) ?_ ?_
   ·show pRd _ _=_
    exact aem (WY _ _ (by omega) (Uv (by omega) (w5 acc hl)) (O3 acc hc))
   ·intro er h
    simp only[jc,Ac,h]
   ·intro st' h
    have hS:=vk st acc;rw[h] at hS;obtain ⟨Rb,hok⟩:=wG hS;have:=AW s hs rest st' [] (done++(acc++[10])) (n+1) (by simp[e]) (by simp;omega) (NZ hok (w5 acc hl)) (VM hok)
    simp only[jc,Ac,h];have e1:((done++(acc++[10])).length:Int)=(done.length:Int)+acc.length+1:=by simp;omega
    rw[e1] at this;simp only[List.length_nil,Int.ofNat_zero,Int.add_zero,Int.natCast_add,Int.natCast_one] at this;exact this
  ·have h:=AW s hs rest st (acc++[c]) done n (by simp[e]) hn hl hc
   have e1:((acc++[c]).length:Int)=(acc.length:Int)+1:=by simp
   rw[e1,<-Int.add_assoc] at h
   have e2:jc st n acc (c::rest)=jc st n (acc++[c]) rest:=by
    show (if c=10 then _ else _)=_
    rw[Aa hx]
   rw[e2];exact afe s (by omega) c (done++acc) rest (by simp[e]) hx _ _ _ _ (by simp) st h
theorem IA (s:B5)(hs:s.length<2^30):ag GR 418 [.str s] [] (bQ (jF s)):=by
 by_cases h:65536<s.length
 ·unfold jF;rw[Ac h]
  refine gvB (F:=JG) ?_
  (conv=>whnf)
  refine b9 [] [(66,some (_,.cells [.sl 2 [],.sl 2 [],.sl 2 [],.sl 3 []]))] trivial ⟨⟨rfl,⟨LeP.nil _,LeP.nil _,LeP.nil _,LeP.nil _,trivial⟩⟩,trivial⟩ ?_;refine ap ?_
  (conv=>whnf)
  first|(refine ⟨rfl,?_⟩;trivial)|(refine ⟨?_,?_⟩; ·rfl)|(apply congrArg;rfl)|(unfold bQ cd PSet.enc;rfl)
 ·unfold jF;rw[Aa h]
  have:=AW s (by omega) s (.top [] [] [] [] 0) [] [] 0 rfl (A7 _) ⟨A7 _,A7 _,A7 _,A7 _⟩ ⟨by decide,by decide,by decide⟩
  exact TU s (by omega) _ this
end Go.AM.IR
