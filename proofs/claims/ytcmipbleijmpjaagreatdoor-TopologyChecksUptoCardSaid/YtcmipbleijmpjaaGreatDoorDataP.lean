/- What the functions of this program give, on the abstract machine. -/
import Derived.Test.YtcmipbleijmpjaaGreatDoorDataM
import Derived.Test.YtcmipbleijmpjaaGreatDoorDataL
import Derived.Test.YtcmipbleijmpjaaGreatDoorDataO
import Derived.Test.YtcmipbleijmpjaaGreatDoorDataH
import Derived.Test.YtcmipbleijmpjaaGreatDoorDataG
import Derived.Test.YtcmipbleijmpjaaGreatDoorDataB
set_option linter.unusedVariables false
set_option linter.unusedSimpArgs false
set_option maxHeartbeats 4000000
set_option maxRecDepth 20000
namespace Go.AM.IR
theorem NW (q:PVC): ∀(l d:List Pfx),rK q d l=if nwE d l=0 then t2E q else nwE d l
 | [],d=>by simp[rK,nwE]
 |x::r,d=>by
  rw[rK,nwE]
  by_cases h:ba x=false
  ·rw[if_pos h,if_pos h];rfl
  ·rw[if_neg h,if_neg h,NW q r (d++[x])]
   cases hd:d.getLast? with
   |none=>simp
   |some a=>
    by_cases ho:0≤cU a x
    ·simp[ho]
    ·simp[ho]
theorem abM (q:PVC):pvE q=if wi q.asn 1 4294967295=true then if wi q.confed 0 4294967295=true then if q.asn=q.confed then 14 else if q.router=0 then 1 else if 16<q.peers.length then 4 else if 2000<q.nets.length then 4 else if dw q.pols=0 then if nwE [] q.nets=0 then t2E q else nwE [] q.nets else dw q.pols else 5 else 5:=by
 have e1:wi q.asn 1 4294967295=true↔ (1≤q.asn∧q.asn≤4294967295):=by simp[wi]
 have e2:wi q.confed 0 4294967295=true↔ (0≤q.confed∧q.confed≤4294967295):=by simp[wi]
 rw[pvE,t1E,NW]
 by_cases a1:q.asn<1
 ·rw[if_pos a1,if_neg (fun h=>by have:=e1.1 h;omega)]
 by_cases a2:4294967295<q.asn
 ·rw[if_neg a1,if_pos a2,if_neg (fun h=>by have:=e1.1 h;omega)]
 rw[if_neg a1,if_neg a2,if_pos (e1.2 ⟨by omega,by omega⟩)]
 by_cases a3:q.confed<0
 ·rw[if_pos a3,if_neg (fun h=>by have:=e2.1 h;omega)]
 by_cases a4:4294967295<q.confed
 ·rw[if_neg a3,if_pos a4,if_neg (fun h=>by have:=e2.1 h;omega)]
 rw[if_neg a3,if_neg a4,if_pos (e2.2 ⟨by omega,by omega⟩)]
 by_cases a5:q.confed=q.asn
 ·rw[if_pos a5,if_pos (show q.asn=q.confed from a5.symm)]
 ·rw[if_neg a5,if_neg (show¬q.asn=q.confed from fun h=>a5 h.symm)]
theorem qe (q:PVC) (gp:q.pols.good) (hl:q.peers.length<2^40): ∀(rest done:List PeerC) (T:List (Nat×AV)) (H:ax) (c:Nat) (n:Int) (e:q.peers=done++rest) (hn:n=done.length),
  Ev G ⟨S7,⟨(68,.int .i64 n)::(1,.ref 65 1 0)::(67,.int .i64 q.peers.length)::T,(65,some (1,.cells q.enc))::H,c⟩,[.t 2],0⟩ ⟨.int .i64 (uh q done rest),[]⟩
 | [],done,T,H,c,n,e,hn=>by
  have hd:q.peers.length=done.length:=by simp[e]
  refine evl ?_
  repeat' (first|refine ae ?_|(refine aa ?_ ?_<;>intro h))
  refine ag ?_;rfl
 |x::r,done,T,H,c,n,e,hn=>by
  have hd:q.peers.length=done.length+(r.length+1):=by simp[e]
  have h1:=Dq q gp hl done.length x (by simp[e])
  rw[show q.peers.take done.length=done from by simp[e],←hn] at h1
  rw[uh]
  by_cases h0:peE q done x=0
  ·rw[if_pos h0]
   rw[h0] at h1
   refine evl ?_
   repeat' (first|refine ae ?_|(refine aa ?_ ?_<;>intro h))
   refine ah [68,1,67] [65] ?_
   exact qe q gp hl r (done++[x]) _ _ _ (n+1) (by simp[e]) (by simp[hn])
  ·rw[if_neg h0]
   generalize peE q done x=E at*
   refine evl ?_
   repeat' ((conv=>whnf);first|refine bj h0 ?_|refine ay ?_|(refine aa ?_ ?_<;>intro h))
   refine ag ?_;rfl
theorem Md (q:PVC) (g:q.good) (k0:q.pols.prefixes.length<2^30) (k1:q.pols.paths.length<2^30) (k2:q.pols.comms.length<2^30) (k3:q.pols.pols.length<2^30):aq G 491 [.agg q.enc] [] ⟨.int .i64 (pvE q),[]⟩:=by
 have h1:=fU q.asn 1 4294967295
 have h2:=fU q.confed 0 4294967295
 have h3:aq G 451 [.agg [.sl 2 (q.pols.prefixes.map PList.enc),.sl 2 (q.pols.paths.map PathL.enc),.sl 2 (q.pols.comms.map ComL.enc),.sl 3 (q.pols.pols.map Pol.enc)]] [] ⟨.int .i64 (dw q.pols),[]⟩:=nQ q.pols g.pols k0 k1 k2 k3
 have h4:=GB q.nets g.nets g.ok
 have h5:=sd q.damp
 have h6:=fU q.multi 0 16
 have m1:(q.peers.map PeerC.enc).length=q.peers.length:=by simp
 have m2:(q.nets.map Pfx.enc).length=q.nets.length:=by simp
 have g1:=g.peers
 have g2:=g.nets
 rw[abM]
 by_cases a1: ¬wi q.asn 1 4294967295=true
 ·rw[if_neg a1]
  rw[Bool.not_eq_true] at a1
  rw[a1] at h1
  exact gvA (F:=jH)
 rw[Classical.not_not] at a1
 rw[if_pos a1]
 rw[a1] at h1
 by_cases a2: ¬wi q.confed 0 4294967295=true
 ·rw[if_neg a2]
  rw[Bool.not_eq_true] at a2
  rw[a2] at h2
  exact gvA (F:=jH)
 rw[Classical.not_not] at a2
 rw[if_pos a2]
 rw[a2] at h2
 by_cases a3:q.asn=q.confed
 ·rw[if_pos a3]
  refine ab (F:=jH) rfl rfl (am 300 _ _ _ _ ?_)
  repeat' ((conv=>whnf);first|refine bp a3 ?_|refine ay ?_|(refine aa ?_ ?_<;>intro h))
  refine ag ?_;rfl
 rw[if_neg a3]
 by_cases a4:q.router=0
 ·rw[if_pos a4]
  refine ab (F:=jH) rfl rfl (am 300 _ _ _ _ ?_)
  repeat' ((conv=>whnf);first|refine aY a3 ?_|refine bp a4 ?_|refine ay ?_|(refine aa ?_ ?_<;>intro h))
  refine ag ?_;rfl
 rw[if_neg a4]
 by_cases a5:16<q.peers.length
 ·rw[if_pos a5]
  have a5':(q.peers.length:Int)>16:=by omega
  refine ab (F:=jH) rfl rfl (am 300 _ _ _ _ ?_)
  repeat' ((conv=>whnf);first|refine aY a3 ?_|refine aY a4 ?_|refine ay ?_|(refine aa ?_ ?_<;>intro h))
  refine ag ?_;rfl
 rw[if_neg a5]
 have a5': ¬(q.peers.length:Int)>16:=by omega
 by_cases a6:2000<q.nets.length
 ·rw[if_pos a6]
  have a6':(q.nets.length:Int)>2000:=by omega
  refine ab (F:=jH) rfl rfl (am 300 _ _ _ _ ?_)
  repeat' ((conv=>whnf);first|refine aY a3 ?_|refine aY a4 ?_|refine ay ?_|(refine aa ?_ ?_<;>intro h))
  refine ag ?_;rfl
 rw[if_neg a6]
 have a6': ¬(q.nets.length:Int)>2000:=by omega
 by_cases a7: ¬dw q.pols=0
 ·rw[if_neg a7]
  generalize dw q.pols=E at*
  refine ab (F:=jH) rfl rfl (am 300 _ _ _ _ ?_)
  repeat' ((conv=>whnf);first|refine aY a3 ?_|refine aY a4 ?_|refine bj a7 ?_|refine ay ?_|(refine aa ?_ ?_<;>intro h))
  refine ag ?_;rfl
 rw[Classical.not_not] at a7
 rw[if_pos a7]
 rw[a7] at h3
 by_cases a8: ¬nwE [] q.nets=0
 ·rw[if_neg a8]
  generalize nwE [] q.nets=E at*
  refine ab (F:=jH) rfl rfl (am 300 _ _ _ _ ?_)
  repeat' ((conv=>whnf);first|refine aY a3 ?_|refine aY a4 ?_|refine bc rfl ?_|refine bj a8 ?_|refine ay ?_|(refine aa ?_ ?_<;>intro h))
  refine ag ?_;rfl
 rw[Classical.not_not] at a8
 rw[if_pos a8]
 rw[a8] at h4
 have et:t3E q=if wi q.multi 0 16=true then uh q [] q.peers else 5:=by
  have e1:wi q.multi 0 16=true↔ (0≤q.multi∧q.multi≤16):=by simp[wi]
  rw[t3E]
  by_cases b1:q.multi<0
  ·rw[if_pos b1,if_neg (fun h=>by have:=e1.1 h;omega)]
  by_cases b2:16<q.multi
  ·rw[if_neg b1,if_pos b2,if_neg (fun h=>by have:=e1.1 h;omega)]
  rw[if_neg b1,if_neg b2,if_pos (e1.2 ⟨by omega,by omega⟩)]
 by_cases d:e9 q.damp=0
 ·rw[show t2E q=t3E q from by rw[t2E,if_pos d];split<;>rfl,et]
  rw[d] at h5
  by_cases u: ¬wi q.multi 0 16=true
  ·rw[if_neg u]
   rw[Bool.not_eq_true] at u
   rw[u] at h6
   refine ab (F:=jH) rfl rfl (am 300 _ _ _ _ ?_)
   repeat' ((conv=>whnf);first|refine aY a3 ?_|refine aY a4 ?_|refine bc rfl ?_|refine ay ?_|(refine aa ?_ ?_<;>intro h))
   refine ag ?_;rfl
  rw[Classical.not_not] at u
  rw[if_pos u]
  rw[u] at h6
  refine ab (F:=jH) rfl rfl (am 300 _ _ _ _ ?_)
  repeat' ((conv=>whnf);first|refine aY a3 ?_|refine aY a4 ?_|refine bc rfl ?_|refine ay ?_|(refine aa ?_ ?_<;>intro h))
  refine ah [68,1,67] [65] ?_
  rw[m1]
  exact qe q g.pols g1 q.peers [] _ _ _ 0 rfl rfl
 by_cases k:q.damp.half=0∧q.damp.reuse=0∧q.damp.suppress=0∧q.damp.maxTime=0
 ·rw[t2E,if_pos k,et]
  have d5:e9 q.damp=5:=by rw[e9,if_pos (by omega)]
  rw[d5] at h5
  obtain ⟨z1,z2,z3,z4⟩:=k
  by_cases u: ¬wi q.multi 0 16=true
  ·rw[if_neg u]
   rw[Bool.not_eq_true] at u
   rw[u] at h6
   refine ab (F:=jH) rfl rfl (am 300 _ _ _ _ ?_)
   repeat' ((conv=>whnf);first|refine aY a3 ?_|refine aY a4 ?_|refine bc rfl ?_|refine bj d ?_|refine ay ?_|(refine aa ?_ ?_<;>intro h))
   refine ag ?_;rfl
  rw[Classical.not_not] at u
  rw[if_pos u]
  rw[u] at h6
  refine ab (F:=jH) rfl rfl (am 300 _ _ _ _ ?_)
  repeat' ((conv=>whnf);first|refine aY a3 ?_|refine aY a4 ?_|refine bc rfl ?_|refine bj d ?_|refine ay ?_|(refine aa ?_ ?_<;>intro h))
  refine ah [68,1,67] [65] ?_
  rw[m1]
  exact qe q g.pols g1 q.peers [] _ _ _ 0 rfl rfl
 rw[t2E,if_neg k,if_neg d]
 have kb:(q.damp.half==0&&(q.damp.reuse==0&&(q.damp.suppress==0&&(q.damp.maxTime==0&&true))))=false:=by
  simpa using k
 generalize e9 q.damp=E at*
 refine ab (F:=jH) rfl rfl (am 300 _ _ _ _ ?_)
 repeat' ((conv=>whnf);first|refine aY a3 ?_|refine aY a4 ?_|refine bc rfl ?_|refine bj d ?_|refine ay ?_|(refine aa ?_ ?_<;>intro h))
 refine ag ?_;rfl
end Go.AM.IR
namespace Go.AM.IR
theorem De (s:PSet) (g:s.good) (x:Red):aq G 492 [.agg s.enc,.agg x.enc] [] ⟨.int .i64 (ry s x),[]⟩:=by
 have h1:=rb s g x.pol
 unfold ui at h1
 have hpl:iL s x.pol=(!decide (x.pol= [])&&(f8 s.pols x.pol).isNone):=rfl
 generalize f8 s.pols x.pol=o at*
 have hp:=nJ (uj o)
 generalize hP:uj o=P at*
 obtain ⟨nm,ts,d⟩:=P
 have h1:aq G 566 [.agg s.enc,.str x.pol] [] ⟨.tup [.agg [.str nm,.sl 4 (ts.map Trm.enc),.int .i64 d],.bool o.isSome],[]⟩:=h1
 rw[ry]
 by_cases a1:x.src<1
 ·rw[if_pos a1]
  exact gvA (F:=fh)
 by_cases a2:7<x.src
 ·rw[if_neg a1,if_pos a2]
  exact gvA (F:=fh)
 rw[if_neg a1,if_neg a2]
 by_cases d5:x.dst=5
 ·rw[if_pos d5]
  have d6: ¬x.dst=6:=by omega
  by_cases b1:x.src<3
  ·rw[if_neg (fun h=>by omega)]
   rw[ud]
   by_cases m1:x.metric<0
   ·rw[if_pos m1]
    refine ab (F:=fh) rfl rfl (am 300 _ _ _ _ ?_)
    repeat' ((conv=>whnf);first|refine bp d5 ?_|refine aY d6 ?_|refine ay ?_|(refine aa ?_ ?_<;>intro h))
    refine ag ?_;rfl
   by_cases m2:16777216<x.metric
   ·rw[if_neg m1,if_pos m2]
    refine ab (F:=fh) rfl rfl (am 300 _ _ _ _ ?_)
    repeat' ((conv=>whnf);first|refine bp d5 ?_|refine aY d6 ?_|refine ay ?_|(refine aa ?_ ?_<;>intro h))
    refine ag ?_;rfl
   rw[if_neg m1,if_neg m2,hpl]
   by_cases hk:x.pol= []
   ·rw[decide_eq_true hk,Bool.not_true,Bool.false_and,if_neg (by decide)]
    cases o with
    |none=>
     refine ab (F:=fh) rfl rfl (am 300 _ _ _ _ ?_)
     repeat' ((conv=>whnf);first|refine bp d5 ?_|refine aY d6 ?_|refine om hk ?_|refine ay ?_|(refine aa ?_ ?_<;>intro h))
     refine ag ?_;rfl
    |some v=>
     refine ab (F:=fh) rfl rfl (am 300 _ _ _ _ ?_)
     repeat' ((conv=>whnf);first|refine bp d5 ?_|refine aY d6 ?_|refine om hk ?_|refine ay ?_|(refine aa ?_ ?_<;>intro h))
     refine ag ?_;rfl
   rw[decide_eq_false hk,Bool.not_false,Bool.true_and]
   cases o with
   |none=>
    rw[if_pos (by rfl)]
    refine ab (F:=fh) rfl rfl (am 300 _ _ _ _ ?_)
    repeat' ((conv=>whnf);first|refine bp d5 ?_|refine aY d6 ?_|refine ig hk ?_|refine ay ?_|(refine aa ?_ ?_<;>intro h))
    refine ag ?_;rfl
   |some v=>
    rw[if_neg (by simp)]
    refine ab (F:=fh) rfl rfl (am 300 _ _ _ _ ?_)
    repeat' ((conv=>whnf);first|refine bp d5 ?_|refine aY d6 ?_|refine ig hk ?_|refine ay ?_|(refine aa ?_ ?_<;>intro h))
    refine ag ?_;rfl
  by_cases b2:5<x.src
  ·rw[if_neg (fun h=>by omega)]
   rw[ud]
   by_cases m1:x.metric<0
   ·rw[if_pos m1]
    refine ab (F:=fh) rfl rfl (am 300 _ _ _ _ ?_)
    repeat' ((conv=>whnf);first|refine bp d5 ?_|refine aY d6 ?_|refine ay ?_|(refine aa ?_ ?_<;>intro h))
    refine ag ?_;rfl
   by_cases m2:16777216<x.metric
   ·rw[if_neg m1,if_pos m2]
    refine ab (F:=fh) rfl rfl (am 300 _ _ _ _ ?_)
    repeat' ((conv=>whnf);first|refine bp d5 ?_|refine aY d6 ?_|refine ay ?_|(refine aa ?_ ?_<;>intro h))
    refine ag ?_;rfl
   rw[if_neg m1,if_neg m2,hpl]
   by_cases hk:x.pol= []
   ·rw[decide_eq_true hk,Bool.not_true,Bool.false_and,if_neg (by decide)]
    cases o with
    |none=>
     refine ab (F:=fh) rfl rfl (am 300 _ _ _ _ ?_)
     repeat' ((conv=>whnf);first|refine bp d5 ?_|refine aY d6 ?_|refine om hk ?_|refine ay ?_|(refine aa ?_ ?_<;>intro h))
     refine ag ?_;rfl
    |some v=>
     refine ab (F:=fh) rfl rfl (am 300 _ _ _ _ ?_)
     repeat' ((conv=>whnf);first|refine bp d5 ?_|refine aY d6 ?_|refine om hk ?_|refine ay ?_|(refine aa ?_ ?_<;>intro h))
     refine ag ?_;rfl
   rw[decide_eq_false hk,Bool.not_false,Bool.true_and]
   cases o with
   |none=>
    rw[if_pos (by rfl)]
    refine ab (F:=fh) rfl rfl (am 300 _ _ _ _ ?_)
    repeat' ((conv=>whnf);first|refine bp d5 ?_|refine aY d6 ?_|refine ig hk ?_|refine ay ?_|(refine aa ?_ ?_<;>intro h))
    refine ag ?_;rfl
   |some v=>
    rw[if_neg (by simp)]
    refine ab (F:=fh) rfl rfl (am 300 _ _ _ _ ?_)
    repeat' ((conv=>whnf);first|refine bp d5 ?_|refine aY d6 ?_|refine ig hk ?_|refine ay ?_|(refine aa ?_ ?_<;>intro h))
    refine ag ?_;rfl
  rw[if_pos ⟨by omega,by omega⟩]
  refine ab (F:=fh) rfl rfl (am 300 _ _ _ _ ?_)
  repeat' ((conv=>whnf);first|refine bp d5 ?_|refine aY d6 ?_|refine ay ?_|(refine aa ?_ ?_<;>intro h))
  refine ag ?_;rfl
 rw[if_neg d5]
 by_cases d6:x.dst=6
 ·rw[if_pos d6]
  by_cases b1:x.src=6
  ·rw[if_pos (Or.inl b1)]
   refine ab (F:=fh) rfl rfl (am 300 _ _ _ _ ?_)
   repeat' ((conv=>whnf);first|refine bp b1 ?_|refine aY d5 ?_|refine bp d6 ?_|refine ay ?_|(refine aa ?_ ?_<;>intro h))
   refine ag ?_;rfl
  by_cases b2:x.src=7
  ·rw[if_pos (Or.inr b2)]
   refine ab (F:=fh) rfl rfl (am 300 _ _ _ _ ?_)
   repeat' ((conv=>whnf);first|refine aY b1 ?_|refine bp b2 ?_|refine aY d5 ?_|refine bp d6 ?_|refine ay ?_|(refine aa ?_ ?_<;>intro h))
   refine ag ?_;rfl
  rw[if_neg (fun h=>by omega)]
  rw[ud]
  by_cases m1:x.metric<0
  ·rw[if_pos m1]
   refine ab (F:=fh) rfl rfl (am 300 _ _ _ _ ?_)
   repeat' ((conv=>whnf);first|refine aY b1 ?_|refine aY b2 ?_|refine aY d5 ?_|refine bp d6 ?_|refine ay ?_|(refine aa ?_ ?_<;>intro h))
   refine ag ?_;rfl
  by_cases m2:16777216<x.metric
  ·rw[if_neg m1,if_pos m2]
   refine ab (F:=fh) rfl rfl (am 300 _ _ _ _ ?_)
   repeat' ((conv=>whnf);first|refine aY b1 ?_|refine aY b2 ?_|refine aY d5 ?_|refine bp d6 ?_|refine ay ?_|(refine aa ?_ ?_<;>intro h))
   refine ag ?_;rfl
  rw[if_neg m1,if_neg m2,hpl]
  by_cases hk:x.pol= []
  ·rw[decide_eq_true hk,Bool.not_true,Bool.false_and,if_neg (by decide)]
   cases o with
   |none=>
    refine ab (F:=fh) rfl rfl (am 300 _ _ _ _ ?_)
    repeat' ((conv=>whnf);first|refine aY b1 ?_|refine aY b2 ?_|refine aY d5 ?_|refine bp d6 ?_|refine om hk ?_|refine ay ?_|(refine aa ?_ ?_<;>intro h))
    refine ag ?_;rfl
   |some v=>
    refine ab (F:=fh) rfl rfl (am 300 _ _ _ _ ?_)
    repeat' ((conv=>whnf);first|refine aY b1 ?_|refine aY b2 ?_|refine aY d5 ?_|refine bp d6 ?_|refine om hk ?_|refine ay ?_|(refine aa ?_ ?_<;>intro h))
    refine ag ?_;rfl
  rw[decide_eq_false hk,Bool.not_false,Bool.true_and]
  cases o with
  |none=>
   rw[if_pos (by rfl)]
   refine ab (F:=fh) rfl rfl (am 300 _ _ _ _ ?_)
   repeat' ((conv=>whnf);first|refine aY b1 ?_|refine aY b2 ?_|refine aY d5 ?_|refine bp d6 ?_|refine ig hk ?_|refine ay ?_|(refine aa ?_ ?_<;>intro h))
   refine ag ?_;rfl
  |some v=>
   rw[if_neg (by simp)]
   refine ab (F:=fh) rfl rfl (am 300 _ _ _ _ ?_)
   repeat' ((conv=>whnf);first|refine aY b1 ?_|refine aY b2 ?_|refine aY d5 ?_|refine bp d6 ?_|refine ig hk ?_|refine ay ?_|(refine aa ?_ ?_<;>intro h))
   refine ag ?_;rfl
 rw[if_neg d6]
 refine ab (F:=fh) rfl rfl (am 300 _ _ _ _ ?_)
 repeat' ((conv=>whnf);first|refine aY d5 ?_|refine aY d6 ?_|refine ay ?_|(refine aa ?_ ?_<;>intro h))
 refine ag ?_;rfl
theorem wH (s:PSet) (g:s.good) (l:List Red) (hl:l.length<2^40): ∀(rest done:List Red) (T:List (Nat×AV)) (H:ax) (c:Nat) (n:Int) (e:l=done++rest) (hn:n=done.length),
  Ev G ⟨Tp,⟨(19,.int .i64 n)::(2,.ref 66 1 0)::(17,.sl 5 (l.map Red.enc))::(18,.int .i64 l.length)::T,(66,some (1,.cells s.enc))::H,c⟩,[.t 4],0⟩ ⟨.int .i64 (bb (ry s) rest),[]⟩
 | [],done,T,H,c,n,e,hn=>by
  have hd:l.length=done.length:=by simp[e]
  refine evl ?_
  repeat' (first|refine ae ?_|(refine aa ?_ ?_<;>intro h))
  refine ag ?_;rfl
 |x::r,done,T,H,c,n,e,hn=>by
  have hd:l.length=done.length+(r.length+1):=by simp[e]
  have m1:(l.map Red.enc).length=l.length:=by simp
  have hx:(l.map Red.enc)[n.toNat]? =some x.enc:=by simp[e,hn]
  have h1:=De s g x
  rw[bb]
  by_cases h0:ry s x=0
  ·rw[if_pos h0]
   rw[h0] at h1
   refine evl ?_
   repeat' (first|refine ae ?_|(refine aa ?_ ?_<;>intro h))
   refine ah [19,2,17,18] [66] ?_
   exact wH s g l hl r (done++[x]) _ _ _ (n+1) (by simp[e]) (by simp[hn])
  ·rw[if_neg h0]
   generalize ry s x=E at*
   refine evl ?_
   repeat' ((conv=>whnf);first|refine bj h0 ?_|refine ay ?_|(refine aa ?_ ?_<;>intro h))
   refine ag ?_;rfl
theorem Fy (s:PSet) (g:s.good) (k0:s.prefixes.length<2^30) (k1:s.paths.length<2^30) (k2:s.comms.length<2^30) (k3:s.pols.length<2^30) (l:List Red) (hl:l.length<2^40):aq G 439 [.agg s.enc,.sl 5 (l.map Red.enc)] [] ⟨.int .i64 (kx s l),[]⟩:=by
 have h1:=nQ s g k0 k1 k2 k3
 have m1:(l.map Red.enc).length=l.length:=by simp
 rw[kx]
 by_cases a:dw s=0
 ·rw[if_pos a]
  rw[a] at h1
  by_cases b:64<l.length
  ·rw[if_pos b]
   have b':(l.length:Int)>64:=by omega
   refine ab (F:=Jw) rfl rfl (am 300 _ _ _ _ ?_)
   repeat' ((conv=>whnf);first|refine bc rfl ?_|refine ay ?_|(refine aa ?_ ?_<;>intro h))
   refine ag ?_;rfl
  rw[if_neg b]
  have b': ¬(l.length:Int)>64:=by omega
  refine ab (F:=Jw) rfl rfl (am 300 _ _ _ _ ?_)
  repeat' ((conv=>whnf);first|refine bc rfl ?_|refine ay ?_|(refine aa ?_ ?_<;>intro h))
  refine ah [19,2,17,18] [66] ?_
  rw[m1]
  exact wH s g l hl l [] _ _ _ 0 rfl rfl
 ·rw[if_neg a]
  generalize dw s=E at*
  refine ab (F:=Jw) rfl rfl (am 300 _ _ _ _ ?_)
  repeat' ((conv=>whnf);first|refine bj a ?_|refine ay ?_|(refine aa ?_ ?_<;>intro h))
  refine ag ?_;rfl
end Go.AM.IR
namespace Go.AM.IR
theorem ll (s:List UInt8) (hs:s.length<2^40): ∀(rest done:List UInt8) (T:List (Nat×AV)) (H:ax) (c:Nat) (n:Int) (e:s=done++rest) (hn:n=done.length),
  Ev G ⟨YJ,⟨(7,.int .i64 n)::(0,.str s)::(6,.int .i64 s.length)::T,H,c⟩,[.t 2],0⟩ ⟨.bool (rest.all dJ&&(decide (1≤s.length)&&decide ((s.length:Int)≤32))),[]⟩
 | [],done,T,H,c,n,e,hn=>by
  have hd:s.length=done.length:=by simp[e]
  by_cases h1:1≤s.length
  ·rw[decide_eq_true h1]
   refine evl ?_
   repeat' (first|refine ae ?_|(refine aa ?_ ?_<;>intro h))
   refine ag ?_;rfl
  ·rw[decide_eq_false h1]
   refine evl ?_
   repeat' (first|refine ae ?_|(refine aa ?_ ?_<;>intro h))
   refine ag ?_;rfl
 |x::rest,done,T,H,c,n,e,hn=>by
  have hd:s.length=done.length+(rest.length+1):=by simp[e]
  have hb:=idx_at e hn
  rw[List.all_cons]
  by_cases h0:x.toNat<45
  ·have hc:dJ x=false:=by unfold dJ;simp;omega
   rw[hc,Bool.false_and,Bool.false_and]
   refine evl ?_
   repeat' (first|refine cg ?_|(refine aa ?_ ?_<;>intro h))
   refine ag ?_;rfl
  by_cases h1:x.toNat=45
  ·have hc:dJ x=true:=by unfold dJ;simp;omega
   rw[hc,Bool.true_and]
   refine evl ?_
   repeat' (first|refine cg ?_|(refine aa ?_ ?_<;>intro h))
   refine ah [7,0,6] [] ?_
   exact ll s hs rest (done++[x]) _ _ _ (n+1) (by simp[e]) (by simp[hn])
  by_cases h2:x.toNat<48
  ·have hc:dJ x=false:=by unfold dJ;simp;omega
   rw[hc,Bool.false_and,Bool.false_and]
   refine evl ?_
   repeat' (first|refine cg ?_|(refine aa ?_ ?_<;>intro h))
   refine ag ?_;rfl
  by_cases h3:x.toNat≤57
  ·have hc:dJ x=true:=by unfold dJ;simp;omega
   rw[hc,Bool.true_and]
   refine evl ?_
   repeat' (first|refine cg ?_|(refine aa ?_ ?_<;>intro h))
   refine ah [7,0,6] [] ?_
   exact ll s hs rest (done++[x]) _ _ _ (n+1) (by simp[e]) (by simp[hn])
  by_cases h4:x.toNat<97
  ·have hc:dJ x=false:=by unfold dJ;simp;omega
   rw[hc,Bool.false_and,Bool.false_and]
   refine evl ?_
   repeat' (first|refine cg ?_|(refine aa ?_ ?_<;>intro h))
   refine ag ?_;rfl
  by_cases h5:x.toNat≤122
  ·have hc:dJ x=true:=by unfold dJ;simp;omega
   rw[hc,Bool.true_and]
   refine evl ?_
   repeat' (first|refine cg ?_|(refine aa ?_ ?_<;>intro h))
   refine ah [7,0,6] [] ?_
   exact ll s hs rest (done++[x]) _ _ _ (n+1) (by simp[e]) (by simp[hn])
  have hc:dJ x=false:=by unfold dJ;simp;omega
  rw[hc,Bool.false_and,Bool.false_and]
  refine evl ?_
  repeat' (first|refine cg ?_|(refine aa ?_ ?_<;>intro h))
  refine ag ?_;rfl
theorem GF (s:List UInt8) (hs:s.length<2^40):aq G 436 [.str s] [] ⟨.bool (ur s),[]⟩:=by
 refine ab (F:=YK) rfl rfl (am 300 _ _ _ _ ?_)
 repeat' (first|refine ae ?_|(refine aa ?_ ?_<;>intro h))
 refine ah [7,0,6] [] ?_
 exact ll s hs s [] _ _ _ 0 rfl rfl
def dsB (x:Int):Bool:=decide (x<0)||decide (255<x)
theorem O9 (q:RConf): ∀l,dsF q l=if l.any dsB=true then 1 else d7E q
 | []=>by simp[dsF]
 |x::r=>by
  rw[dsF,O9 q r,List.any_cons,dsB]
  by_cases a:x<0
  ·simp[a]
  ·by_cases b:255<x
   ·simp[a,b]
   ·simp[a,b]
theorem sb (q:RConf) (hl:q.dists.length<2^40): ∀(rest done:List Int) (T:List (Nat×AV)) (H:ax) (c:Nat) (n:Int) (e:q.dists=done++rest) (hn:n=done.length),
  Ev G ⟨Tn,⟨(42,.int .i64 n)::(40,.sl 1 (q.dists.map gC))::(41,.int .i64 q.dists.length)::T,H,c⟩,[.t 2],0⟩ ⟨.int .i64 (if rest.any dsB=true then 1 else 0),[]⟩
 | [],done,T,H,c,n,e,hn=>by
  have hd:q.dists.length=done.length:=by simp[e]
  refine evl ?_
  repeat' (first|refine ae ?_|(refine aa ?_ ?_<;>intro h))
  refine ag ?_;rfl
 |x::r,done,T,H,c,n,e,hn=>by
  have hd:q.dists.length=done.length+(r.length+1):=by simp[e]
  have m1:(q.dists.map gC).length=q.dists.length:=by simp
  have hx:(q.dists.map gC)[n.toNat]? =some (gC x):=by simp[e,hn]
  by_cases a:x<0
  ·rw[if_pos (by simp[dsB,a])]
   refine evl ?_
   repeat' (first|refine ae ?_|(refine aa ?_ ?_<;>intro h))
   refine ag ?_;rfl
  by_cases b:255<x
  ·rw[if_pos (by simp[dsB,b])]
   refine evl ?_
   repeat' (first|refine ae ?_|(refine aa ?_ ?_<;>intro h))
   refine ag ?_;rfl
  rw[show (x::r).any dsB=r.any dsB from by simp[dsB,a,b]]
  refine evl ?_
  repeat' (first|refine ae ?_|(refine aa ?_ ?_<;>intro h))
  refine ah [42,40,41] [] ?_
  exact sb q hl r (done++[x]) _ _ _ (n+1) (by simp[e]) (by simp[hn])
theorem Fg (q:RConf) (hl:q.dists.length<2^40) (hs:q.stat.length<2^40) (hok: ∀x∈q.stat,x.ok): ∀(rest done:List Stat) (T:List (Nat×AV)) (H:ax) (c:Nat) (n:Int) (e:q.stat=done++rest) (hn:n=done.length),
  Ev G ⟨Yz,⟨(10,.int .i64 n)::(8,.sl 4 (q.stat.map Stat.enc))::(1,.ref 65 1 0)::(9,.int .i64 q.stat.length)::T,(65,some (1,.cells q.enc))::H,c⟩,[.t 2],0⟩ ⟨.int .i64 (stF q rest),[]⟩
 | [],done,T,H,c,n,e,hn=>by
  have hd:q.stat.length=done.length:=by simp[e]
  have m1:(q.dists.map gC).length=q.dists.length:=by simp
  rw[stF,O9,d7E]
  by_cases a:(q.dists.length:Int)=0
  ·have a':q.dists.length=0:=by omega
   rw[if_pos a']
   refine evl ?_
   repeat' ((conv=>whnf);first|refine bc a ?_|refine ay ?_|(refine aa ?_ ?_<;>intro h))
   refine ah [42,40,41] [] ?_
   rw[m1]
   exact sb q hl q.dists [] _ _ _ 0 rfl rfl
  by_cases b:(q.dists.length:Int)=7
  ·rw[if_neg (show¬q.dists.length=0 by omega),if_pos (show q.dists.length=7 by omega)]
   have b0:(q.dists.length:Int)=7:=b
   refine evl ?_
   repeat' ((conv=>whnf);first|refine bj a ?_|refine bc b ?_|refine ay ?_|(refine aa ?_ ?_<;>intro h))
   refine ah [42,40,41] [] ?_
   rw[m1]
   exact sb q hl q.dists [] _ _ _ 0 rfl rfl
  ·rw[show (if q.dists.length=0 then 0 else if q.dists.length=7 then 0 else 1:Int)=1 from by rw[if_neg (by omega),if_neg (by omega)],ite_self]
   refine evl ?_
   repeat' ((conv=>whnf);first|refine bj a ?_|refine bj b ?_|refine ay ?_|(refine aa ?_ ?_<;>intro h))
   refine ag ?_;rfl
 |x::r,done,T,H,c,n,e,hn=>by
  have hd:q.stat.length=done.length+(r.length+1):=by simp[e]
  have m1:(q.stat.map Stat.enc).length=q.stat.length:=by simp
  have hx:(q.stat.map Stat.enc)[n.toNat]? =some x.enc:=by simp[e,hn]
  have f1:aq G 178 [.agg [.int .u32 x.pfx.addr,.int .i64 x.pfx.len]] [] ⟨.bool (ba x.pfx),[]⟩:=eW x.pfx (hok x (by simp[e])).1
  rw[stF]
  cases vx:ba x.pfx with
  |false=>
   rw[vx] at f1
   rw[if_pos rfl]
   refine evl ?_
   repeat' (first|refine ae ?_|(refine aa ?_ ?_<;>intro h))
   refine ag ?_;rfl
  |true=>
  rw[vx] at f1
  rw[if_neg (by simp)]
  by_cases a:x.dist<0
  ·rw[if_pos a]
   refine evl ?_
   repeat' (first|refine ae ?_|(refine aa ?_ ?_<;>intro h))
   refine ag ?_;rfl
  by_cases b:255<x.dist
  ·rw[if_neg a,if_pos b]
   refine evl ?_
   repeat' (first|refine ae ?_|(refine aa ?_ ?_<;>intro h))
   refine ag ?_;rfl
  rw[if_neg a,if_neg b]
  refine evl ?_
  repeat' (first|refine ae ?_|(refine aa ?_ ?_<;>intro h))
  refine ah [10,8,1,9] [65] ?_
  exact Fg q hl hs hok r (done++[x]) _ _ _ (n+1) (by simp[e]) (by simp[hn])
theorem LY (q:RConf) (hl:q.dists.length<2^40) (hs:q.stat.length<2^40) (hok: ∀x∈q.stat,x.ok):aq G 440 [.agg q.enc] [] ⟨.int .i64 (stF q q.stat),[]⟩:=by
 have m1:(q.stat.map Stat.enc).length=q.stat.length:=by simp
 refine ab (F:=YI) rfl rfl (am 300 _ _ _ _ ?_)
 repeat' (first|refine ae ?_|(refine aa ?_ ?_<;>intro h))
 refine ah [10,8,1,9] [65] ?_
 rw[m1]
 exact Fg q hl hs hok q.stat [] _ _ _ 0 rfl rfl
def ua (q:RConf):Int:=if q.hasPV=false then (if dw q.pv.pols=0 then 0 else 1) else if pvE q.pv=0 then (if q.pv.router=q.ls.router then 0 else 14) else pvE q.pv
theorem Fj (q:RConf) (g:q.pv.good) (k0:q.pv.pols.prefixes.length<2^30) (k1:q.pv.pols.paths.length<2^30) (k2:q.pv.pols.comms.length<2^30) (k3:q.pv.pols.pols.length<2^30):aq G 438 [.agg q.enc] [] ⟨.int .i64 (ua q),[]⟩:=by
 have h1:=nQ q.pv.pols g.pols k0 k1 k2 k3
 have h2:=Md q.pv g k0 k1 k2 k3
 rw[ua]
 cases hb:q.hasPV with
 |false=>
  rw[if_pos rfl]
  by_cases a:dw q.pv.pols=0
  ·rw[if_pos a]
   rw[a] at h1
   refine ab (F:=vg) rfl rfl (am 300 _ _ _ _ ?_)
   repeat' ((conv=>whnf);first|refine bc rfl ?_|refine ay ?_|(refine aa ?_ ?_<;>intro h))
   all_goals try (exfalso;simp_all only[Bool.false_eq_true,Bool.true_eq_false,Bool.not_true,Bool.not_false,not_true_eq_false];done)
   all_goals (refine ag ?_;rfl)
  ·rw[if_neg a]
   generalize dw q.pv.pols=E at*
   refine ab (F:=vg) rfl rfl (am 300 _ _ _ _ ?_)
   repeat' ((conv=>whnf);first|refine bj a ?_|refine ay ?_|(refine aa ?_ ?_<;>intro h))
   all_goals try (exfalso;simp_all only[Bool.false_eq_true,Bool.true_eq_false,Bool.not_true,Bool.not_false,not_true_eq_false];done)
   all_goals (refine ag ?_;rfl)
 |true=>
  rw[if_neg (by simp)]
  by_cases a:pvE q.pv=0
  ·rw[if_pos a]
   rw[a] at h2
   by_cases e:q.pv.router=q.ls.router
   ·rw[if_pos e]
    refine ab (F:=vg) rfl rfl (am 300 _ _ _ _ ?_)
    repeat' ((conv=>whnf);first|refine bc e ?_|refine bc rfl ?_|refine ay ?_|(refine aa ?_ ?_<;>intro h))
    all_goals try (exfalso;simp_all only[Bool.false_eq_true,Bool.true_eq_false,Bool.not_true,Bool.not_false,not_true_eq_false];done)
    all_goals (refine ag ?_;rfl)
   ·rw[if_neg e]
    refine ab (F:=vg) rfl rfl (am 300 _ _ _ _ ?_)
    repeat' ((conv=>whnf);first|refine bj e ?_|refine bc rfl ?_|refine ay ?_|(refine aa ?_ ?_<;>intro h))
    all_goals try (exfalso;simp_all only[Bool.false_eq_true,Bool.true_eq_false,Bool.not_true,Bool.not_false,not_true_eq_false];done)
    all_goals (refine ag ?_;rfl)
  ·rw[if_neg a]
   generalize pvE q.pv=E at*
   refine ab (F:=vg) rfl rfl (am 300 _ _ _ _ ?_)
   repeat' ((conv=>whnf);first|refine bj a ?_|refine ay ?_|(refine aa ?_ ?_<;>intro h))
   all_goals try (exfalso;simp_all only[Bool.false_eq_true,Bool.true_eq_false,Bool.not_true,Bool.not_false,not_true_eq_false];done)
   all_goals (refine ag ?_;rfl)
end Go.AM.IR
namespace Go.AM.IR
section
variable {kv:AV→Prop} {a b:List UInt8}
theorem adJ (n:a=b) (h:kv (.bool true)): ∃v,bv .eql (.str a) (.str b)=some v∧kv v:=⟨.bool true,by show some (AV.bool (a==b))=_;simp[n],h⟩
theorem adK (n: ¬a=b) (h:kv (.bool false)): ∃v,bv .eql (.str a) (.str b)=some v∧kv v:=⟨.bool false,by show some (AV.bool (a==b))=_;simp[n],h⟩
end
theorem WA (q:RConf):ut q=if ua q=0 then m1E q else ua q:=by
 rw[ut,ua]
 by_cases a:q.hasPV=false
 ·rw[if_pos a,if_pos a]
  by_cases b:dw q.pv.pols=0
  ·simp[b]
  ·simp[b]
 ·rw[if_neg a,if_neg a]
  by_cases b:pvE q.pv=0
  ·by_cases c:q.pv.router=q.ls.router
   ·simp[b,c]
   ·simp[b,c]
  ·simp[b]
structure RConf.lim (q:RConf):Prop where
 k0:q.pv.pols.prefixes.length<2^30
 k1:q.pv.pols.paths.length<2^30
 k2:q.pv.pols.comms.length<2^30
 k3:q.pv.pols.pols.length<2^30
theorem wC (q:RConf) (g:q.good) (lm:q.lim) (l:List RConf) (hl:l.length<2^40): ∀(rest done:List RConf) (T:List (Nat×AV)) (H:ax) (c:Nat) (n:Int) (e:l=done++rest) (hn:n=done.length),
  Ev G ⟨TZ,⟨(36,.int .i64 n)::(3,.ref 67 1 0)::(34,.sl 25 (l.map RConf.enc))::(35,.int .i64 l.length)::T,(67,some (1,.cells q.enc))::H,c⟩,[.t 4],0⟩ ⟨.int .i64 (if rest.any (fun y=>decide (y.ls.router=q.ls.router)) then 7 else ut q),[]⟩
 | [],done,T,H,c,n,e,hn=>by
  have hd:l.length=done.length:=by simp[e]
  have h1:=Fj q g.pv lm.k0 lm.k1 lm.k2 lm.k3
  have h2:aq G 439 [.agg [.sl 2 (q.pv.pols.prefixes.map PList.enc),.sl 2 (q.pv.pols.paths.map PathL.enc),.sl 2 (q.pv.pols.comms.map ComL.enc),.sl 3 (q.pv.pols.pols.map Pol.enc)],.sl 5 (q.redist.map Red.enc)] [] ⟨.int .i64 (kx q.pv.pols q.redist),[]⟩:=Fy q.pv.pols g.pv.pols lm.k0 lm.k1 lm.k2 lm.k3 q.redist g.red
  have h3:=LY q g.dists g.stat g.sto
  simp only[List.any_nil,Bool.false_eq_true,if_false]
  rw[WA,m1E]
  by_cases a:ua q=0
  ·rw[if_pos a]
   rw[a] at h1
   by_cases b:kx q.pv.pols q.redist=0
   ·rw[if_pos b]
    rw[b] at h2
    refine evl ?_
    repeat' ((conv=>whnf);first|refine bc rfl ?_|refine ay ?_|(refine aa ?_ ?_<;>intro h))
    refine ag ?_;rfl
   ·rw[if_neg b]
    generalize kx q.pv.pols q.redist=E at*
    refine evl ?_
    repeat' ((conv=>whnf);first|refine bj b ?_|refine bc rfl ?_|refine ay ?_|(refine aa ?_ ?_<;>intro h))
    refine ag ?_;rfl
  ·rw[if_neg a]
   generalize ua q=E at*
   refine evl ?_
   repeat' ((conv=>whnf);first|refine bj a ?_|refine ay ?_|(refine aa ?_ ?_<;>intro h))
   refine ag ?_;rfl
 |x::r,done,T,H,c,n,e,hn=>by
  have hd:l.length=done.length+(r.length+1):=by simp[e]
  have m1:(l.map RConf.enc).length=l.length:=by simp
  have hx:(l.map RConf.enc)[n.toNat]? =some x.enc:=by simp[e,hn]
  by_cases h:x.ls.router=q.ls.router
  ·rw[if_pos (by simp[h])]
   refine evl ?_
   repeat' ((conv=>whnf);first|refine bp h ?_|refine ay ?_|(refine aa ?_ ?_<;>intro h))
   refine ag ?_;rfl
  ·rw[show ((x::r).any fun y=>decide (y.ls.router=q.ls.router))=r.any fun y=>decide (y.ls.router=q.ls.router) from by simp[h]]
   refine evl ?_
   repeat' ((conv=>whnf);first|refine aY h ?_|refine ay ?_|(refine aa ?_ ?_<;>intro h))
   refine ah [36,3,34,35] [67] ?_
   exact wC q g lm l hl r (done++[x]) _ _ _ (n+1) (by simp[e]) (by simp[hn])
def rtT (d:List RConf) (q:RConf):Int:=if lsE q.ls=0 then (if d.any (fun y=>decide (y.ls.router=q.ls.router)) then 7 else ut q) else lsE q.ls
theorem Ax (q:RConf) (g:q.good) (lm:q.lim) (l:List RConf) (hl:l.length<2^40) (hls:aq G 437 [.agg [.int .u32 q.ls.router,.sl 9 (q.ls.ifs.map Ifc.enc),.sl 4 (q.ls.ranges.map ARange.enc)]] [] ⟨.int .i64 (lsE q.ls),[]⟩): ∀(rest done:List RConf) (T:List (Nat×AV)) (H:ax) (c:Nat) (n:Int) (e:l=done++rest) (hn:n=done.length),
  Ev G ⟨YP,⟨(18,.int .i64 n)::(3,.ref 67 1 0)::(16,.sl 25 (l.map RConf.enc))::(0,.sl 25 (l.map RConf.enc))::(17,.int .i64 l.length)::T,(67,some (1,.cells q.enc))::H,c⟩,[.t 4],0⟩ ⟨.int .i64 (if rest.any (fun y=>decide (y.name=q.name)) then 7 else rtT l q),[]⟩
 | [],done,T,H,c,n,e,hn=>by
  have hd:l.length=done.length:=by simp[e]
  have m1:(l.map RConf.enc).length=l.length:=by simp
  simp only[List.any_nil,Bool.false_eq_true,if_false]
  rw[rtT]
  by_cases a:lsE q.ls=0
  ·rw[if_pos a]
   rw[a] at hls
   refine evl ?_
   repeat' ((conv=>whnf);first|refine bc rfl ?_|refine ay ?_|(refine aa ?_ ?_<;>intro h))
   refine ah [36,3,34,35] [67] ?_
   rw[m1]
   exact wC q g lm l hl l [] _ _ _ 0 rfl rfl
  ·rw[if_neg a]
   generalize lsE q.ls=E at*
   refine evl ?_
   repeat' ((conv=>whnf);first|refine bj a ?_|refine ay ?_|(refine aa ?_ ?_<;>intro h))
   refine ag ?_;rfl
 |x::r,done,T,H,c,n,e,hn=>by
  have hd:l.length=done.length+(r.length+1):=by simp[e]
  have m1:(l.map RConf.enc).length=l.length:=by simp
  have hx:(l.map RConf.enc)[n.toNat]? =some x.enc:=by simp[e,hn]
  by_cases h:x.name=q.name
  ·rw[if_pos (by simp[h])]
   refine evl ?_
   repeat' ((conv=>whnf);first|refine adJ h ?_|refine ay ?_|(refine aa ?_ ?_<;>intro h))
   refine ag ?_;rfl
  ·rw[show ((x::r).any fun y=>decide (y.name=q.name))=r.any fun y=>decide (y.name=q.name) from by simp[h]]
   refine evl ?_
   repeat' ((conv=>whnf);first|refine adK h ?_|refine ay ?_|(refine aa ?_ ?_<;>intro h))
   refine ah [18,3,16,0,17] [67] ?_
   exact Ax q g lm l hl hls r (done++[x]) _ _ _ (n+1) (by simp[e]) (by simp[hn])
def rtP (d:List RConf) (q:RConf):Int:=if ur q.name=true then (if d.any (fun y=>decide (y.name=q.name)) then 7 else rtT d q) else 1
theorem Ma (q:RConf) (g:q.good) (lm:q.lim) (l:List RConf) (hl:l.length<2^40) (hls:aq G 437 [.agg [.int .u32 q.ls.router,.sl 9 (q.ls.ifs.map Ifc.enc),.sl 4 (q.ls.ranges.map ARange.enc)]] [] ⟨.int .i64 (lsE q.ls),[]⟩):aq G 396 [.sl 25 (l.map RConf.enc),.agg q.enc] [] ⟨.int .i64 (rtP l q),[]⟩:=by
 have h1:=GF q.name g.name
 have m1:(l.map RConf.enc).length=l.length:=by simp
 rw[rtP]
 by_cases a:ur q.name=true
 ·rw[if_pos a]
  rw[a] at h1
  refine ab (F:=Rh) rfl rfl (am 300 _ _ _ _ ?_)
  repeat' (first|refine ae ?_|(refine aa ?_ ?_<;>intro h))
  refine ah [18,3,16,0,17] [67] ?_
  rw[m1]
  exact Ax q g lm l hl hls l [] _ _ _ 0 rfl rfl
 ·rw[if_neg a]
  rw[Bool.not_eq_true] at a
  rw[a] at h1
  exact gvA (F:=Rh)
end Go.AM.IR
namespace Go.AM.IR
def EBool (es:List (AV×AV)):Prop:= ∀u v,∃b:Bool,cp true [.int,.int] (.bool false) (dp u v) es= .bool b
theorem EBool.put {es:List (AV×AV)} (hE:gZ es) (hB:EBool es) (i k:Int):EBool (df true [.int,.int] (dp i k) (.bool true) es):=fun u v=>by
 rw[kJ e8 u v i k es hE]
 split
 ·exact ⟨true,rfl⟩
 ·exact hB u v
theorem Uv (t:Topo): ∀(l d:List LEnd) (es:List (AV×AV)) (hE:gZ es) (hB:EBool es),gZ (ceM t es d l).2∧EBool (ceM t es d l).2
 | [],d,es,hE,hB=>⟨hE,hB⟩
 |x::r,d,es,hE,hB=>by
  rw[ceM]
  split
  ·exact ⟨hE,hB⟩
  split
  ·exact ⟨hE,hB⟩
  split
  ·exact ⟨hE,hB⟩
  exact Uv t r (d++[x]) _ (jI e8 x.router x.ifc es hE) (hB.put hE x.router x.ifc)
theorem Sw (t:Topo) (y:Lnk) (es:List (AV×AV)) (hE:gZ es) (hB:EBool es):gZ (lkR t es y).2∧EBool (lkR t es y).2:=by
 have h:=Uv t y.ends [] es hE hB
 rw[lkR]
 split
 ·exact ⟨hE,hB⟩
 split
 ·exact ⟨hE,hB⟩
 split
 ·exact ⟨hE,hB⟩
 split
 ·exact h
 ·exact h
def rL (t:Topo):List (AV×AV)→List Lnk→Int
 |_,[]=>0
 |es,y::r=>if (lkR t es y).1=0 then rL t (lkR t es y).2 r else (lkR t es y).1
theorem xd (t:Topo) (ht:t.routers.length<2^40) (hf: ∀c∈t.routers,c.ls.ifs.length<2^40) (hl:t.links.length<2^40) (hel: ∀y∈t.links,y.ends.length<2^40) (gl:Nat): ∀(rest done:List Lnk) (es:List (AV×AV)) (hE:gZ es) (hB:EBool es) (T:List (Nat×AV)) (H:ax) (c:Nat) (n:Int) (e:t.links=done++rest) (hn:n=done.length),
  Ev G ⟨Cg,⟨(72,.int .i64 n)::(11,.mp 132 gl)::(1,.ref 65 1 0)::(70,.sl 2 (t.links.map Lnk.enc))::(71,.int .i64 t.links.length)::T,(132,some (gl,.mp es))::(65,some (1,.cells t.enc))::H,c⟩,[.t 2],0⟩ ⟨.int .i64 (rL t es rest),[]⟩
 | [],done,es,hE,hB,T,H,c,n,e,hn=>by
  have hd:t.links.length=done.length:=by simp[e]
  rw[rL]
  refine evl ?_
  repeat' (first|refine ae ?_|(refine aa ?_ ?_<;>intro h))
  refine ag ?_;rfl
 |y::r,done,es,hE,hB,T,H,c,n,e,hn=>by
  have hd:t.links.length=done.length+(r.length+1):=by simp[e]
  have m1:(t.links.map Lnk.enc).length=t.links.length:=by simp
  have hx:(t.links.map Lnk.enc)[n.toNat]? =some y.enc:=by simp[e,hn]
  have h1:=MC t ht hf y (hel y (by simp[e])) es hE hB
  have ok:=Sw t y es hE hB
  have ih:=fun T H c=>xd t ht hf hl hel gl r (done++[y]) _ ok.1 ok.2 T H c (n+1) (by simp[e]) (by simp[hn])
  rw[rL]
  generalize lkR t es y=p at*
  obtain ⟨E,es'⟩:=p
  have h1:aq G 397 [.agg t.enc,.agg y.enc,.mp 0 0] [.mp es] ⟨.int .i64 E,[(true,.mp es')]⟩:=h1
  by_cases e0:E=0
  ·subst e0
   rw[if_pos (show ((0:Int),es').1=0 from rfl)]
   refine evl ?_
   repeat' ((conv=>whnf);first|refine bc rfl ?_|refine ay ?_|refine kX [(132,_,_)] [] ⟨rfl,trivial⟩ trivial (h1) ?_|(refine aa ?_ ?_<;>intro h))
   refine ah [72,11,1,70,71] [132,65] ?_
   exact ih _ _ _
  ·rw[if_neg (show¬(E,es').1=0 from e0)]
   refine evl ?_
   repeat' ((conv=>whnf);first|refine bj e0 ?_|refine ay ?_|refine kX [(132,_,_)] [] ⟨rfl,trivial⟩ trivial (h1) ?_|(refine aa ?_ ?_<;>intro h))
   refine ag ?_;rfl
end Go.AM.IR
namespace Go.AM.IR
def ot:List RConf→List RConf→Int
 |_,[]=>0
 |d,x::r=>if rtP d x=0 then ot (d++[x]) r else rtP d x
theorem wz (t:Topo) (ht:t.routers.length<2^40) (gd: ∀q∈t.routers,q.good) (lm: ∀q∈t.routers,q.lim) (R:Ret) (Z:Int) (hR: ¬Z=0→R=⟨.int .i64 Z,[]⟩)
  (go:Z=0→ ∀(gm:Nat) (T:List (Nat×AV)) (H:ax) (c:Nat),Ev G ⟨sa,⟨(6,.mp 107 gm)::(47,.int .i64 0)::(45,.sl 25 (t.routers.map RConf.enc))::(1,.ref 65 1 0)::(46,.int .i64 (t.routers.map RConf.enc).length)::T,(107,some (gm,.mp []))::(65,some (1,.cells t.enc))::H,c⟩,[.t 2],0⟩ R):
  ∀(rest done:List RConf) (T:List (Nat×AV)) (H:ax) (c:Nat) (n:Int) (e:t.routers=done++rest) (hn:n=done.length) (hZ:ot done rest=Z),
  Ev G ⟨Uc,⟨(28,.int .i64 n)::(1,.ref 65 1 0)::(26,.sl 25 (t.routers.map RConf.enc))::(27,.int .i64 t.routers.length)::T,(65,some (1,.cells t.enc))::H,c⟩,[.t 2],0⟩ R
 | [],done,T,H,c,n,e,hn,hZ=>by
  have hd:t.routers.length=done.length:=by simp[e]
  refine evl ?_
  repeat' (first|refine ae ?_|(refine aa ?_ ?_<;>intro h))
  refine ah [6,47,45,1,46] [107,65] ?_
  exact go hZ.symm _ _ _ _
 |x::r,done,T,H,c,n,e,hn,hZ=>by
  have hd:t.routers.length=done.length+(r.length+1):=by simp[e]
  have m1:(t.routers.map RConf.enc).length=t.routers.length:=by simp
  have hx:(t.routers.map RConf.enc)[n.toNat]? =some x.enc:=by simp[e,hn]
  have gx:=gd x (by simp[e])
  have h1:=Ma x gx (lm x (by simp[e])) done (by omega) (Mz x.ls gx.ifs gx.rgs gx.ifo gx.rgo)
  rw[show done.map RConf.enc=List.take (n.toNat-0) (List.drop 0 (t.routers.map RConf.enc)) from by simp[e,hn]] at h1
  rw[ot] at hZ
  by_cases h0:rtP done x=0
  ·rw[if_pos h0] at hZ
   rw[h0] at h1
   refine evl ?_
   repeat' ((conv=>whnf);first|refine bc rfl ?_|refine ay ?_|(refine aa ?_ ?_<;>intro h))
   refine ah [28,1,26,27] [65] ?_
   exact wz t ht gd lm R Z hR go r (done++[x]) _ _ _ (n+1) (by simp[e]) (by simp[hn]) hZ
  ·rw[if_neg h0] at hZ
   rw[hR (by rw[←hZ];exact h0),←hZ]
   generalize rtP done x=E at*
   refine evl ?_
   repeat' ((conv=>whnf);first|refine bj h0 ?_|refine ay ?_|(refine aa ?_ ?_<;>intro h))
   refine ag ?_;rfl
theorem aai (t:Topo) (d r:List RConf) (q:RConf) (e:t.routers=d++q::r):rtP d q=rtE t d q:=by
 have h:=Iu q r d 0
 rw[←e,Int.zero_add] at h
 rw[rtP,rtE]
 cases a:ur q.name with
 |false=>simp
 |true=>
  rw[if_pos rfl,if_neg (show¬(true=false) by decide)]
  by_cases b:d.any (fun y=>decide (y.name=q.name))=true
  ·rw[if_pos b,if_pos (h.2 b)]
  ·rw[if_neg b,if_neg (fun k=>b (h.1 k)),rtT]
end Go.AM.IR
namespace Go.AM.IR
def Kz (t:Topo):Int:=if 32<t.routers.length then 4 else if 64<t.links.length then 4 else if ot [] t.routers=0 then (if jh [] (bA t.routers)=true then 7 else rL t [] t.links) else ot [] t.routers
theorem Kx (t:Topo) (g:t.good) (lm: ∀q∈t.routers,q.lim):aq G 379 [.agg t.enc] [] ⟨.int .i64 (Kz t),[]⟩:=by
 have m1:(t.routers.map RConf.enc).length=t.routers.length:=by simp
 have m2:(t.links.map Lnk.enc).length=t.links.length:=by simp
 have g1:=g.rs
 have g2:=g.ls
 have hif: ∀q∈t.routers,q.ls.ifs.length<2^40:=fun q h=>(g.good q h).ifs
 rw[Kz]
 by_cases a1:32<t.routers.length
 ·rw[if_pos a1]
  have a1':(t.routers.length:Int)>32:=by omega
  exact gvA (F:=JM)
 rw[if_neg a1]
 have a1': ¬(t.routers.length:Int)>32:=by omega
 by_cases a2:64<t.links.length
 ·rw[if_pos a2]
  have a2':(t.links.length:Int)>64:=by omega
  exact gvA (F:=JM)
 rw[if_neg a2]
 have a2': ¬(t.links.length:Int)>64:=by omega
 refine ab (F:=JM) rfl rfl (am 300 _ _ _ _ ?_)
 repeat' (first|refine ae ?_|(refine aa ?_ ?_<;>intro h))
 refine ah [28,1,26,27] [65] ?_
 rw[m1]
 refine wz t g1 g.good lm _ (ot [] t.routers) (fun h=>by rw[if_neg h]) (fun h gm T H c=>?_) t.routers [] _ _ _ 0 rfl rfl rfl
 rw[if_pos h,m1]
 refine CW t g1 hif gm _ (jh [] (bA t.routers)) (fun k=>by rw[if_pos k]) (fun k gl T H c=>?_) t.routers [] [] _ _ _ 0 rfl rfl AddOf.nil rfl
 rw[if_neg (by rw[k];decide),m2]
 exact xd t g1 hif g2 g.es gl t.links [] [] (by intro e h;cases h) (fun u v=>⟨false,rfl⟩) _ _ _ 0 rfl rfl
end Go.AM.IR
namespace Go.AM.IR
theorem Se (t:Topo): ∀(r d:List RConf) (e:t.routers=d++r),ru t d r=if ot d r=0 then (if jh [] (bA t.routers)=true then 7 else qu t 0 t.links) else ot d r
 | [],d,e=>by rw[ru,ot,if_pos rfl]
 |x::r,d,e=>by
  have h:=aai t d r x e
  rw[ru,ot,←h]
  by_cases a:rtP d x=0
  ·rw[if_pos a,if_pos a,Se t r (d++[x]) (by simp[e])]
  ·rw[if_neg a,if_neg a,if_neg a]
theorem aaY (t:Topo) (h:rL t [] t.links=qu t 0 t.links):Kz t=zP t:=by
 rw[Kz,zP,Se t t.routers [] rfl,h]
end Go.AM.IR
namespace Go.AM.IR
def RC (t:Topo) (y:Lnk) (x:LEnd):Bool:=decide (¬(bG t x).kind=2∧2<y.ends.length)
theorem NY (t:Topo) (y:Lnk) (a:Ifc): ∀(l:List LEnd) (w:Bool),lkP t y a w l=if l.any (RC t y)=true then 15 else if (w||l.any fun x=>vI a (bG t x))=true then 14 else 0
 | [],w=>by simp[lkP]
 |x::r,w=>by
  rw[lkP,NY t y a r,List.any_cons,List.any_cons,RC]
  by_cases k:(bG t x).kind=2
  ·simp[k,Bool.or_assoc]
  ·by_cases n:2<y.ends.length
   ·simp[k,n]
   ·simp[k,n,Bool.or_assoc]
theorem Bv (t:Topo) (y:Lnk) (a:Ifc): ∀l:List LEnd,j4 t y a l=if l.any (RC t y)=true then 15 else ob t a y.ends
 | []=>by simp[j4]
 |x::r=>by
  rw[j4,Bv t y a r,List.any_cons,RC]
  by_cases k:(bG t x).kind=2
  ·simp[k]
  ·by_cases n:2<y.ends.length
   ·simp[k,n]
   ·simp[k,n]
theorem Bw (t:Topo) (a:Ifc): ∀l:List LEnd,ob t a l=if (l.any fun x=>vI a (bG t x))=true then 14 else 0
 | []=>by simp[ob]
 |x::r=>by
  rw[ob,Bw t a r,List.any_cons]
  generalize bG t x=b
  rw[vI]
  by_cases c1:b.kind=a.kind
  ·by_cases c2:b.pfx.addr=a.pfx.addr
   ·by_cases c3:b.pfx.len=a.pfx.len
    ·by_cases c4:b.area=a.area
     ·by_cases c5:b.hello=a.hello
      ·by_cases c6:b.dead=a.dead
       ·simp[c1,c2,c3,c4,c5,c6]
       ·have c6': ¬a.dead=b.dead:=fun h=>c6 h.symm
        simp[c1,c2,c3,c4,c5,c6,c6']
      ·have c5': ¬a.hello=b.hello:=fun h=>c5 h.symm
       simp[c1,c2,c3,c4,c5,c5']
     ·have c4': ¬a.area=b.area:=fun h=>c4 h.symm
      simp[c1,c2,c3,c4,c4']
    ·have c3': ¬a.pfx.len=b.pfx.len:=fun h=>c3 h.symm
     simp[c1,c2,c3,c3']
   ·have c2': ¬a.pfx.addr=b.pfx.addr:=fun h=>c2 h.symm
    simp[c1,c2,c2']
  ·have c1': ¬a.kind=b.kind:=fun h=>c1 h.symm
   simp[c1,c1']
theorem Sy (t:Topo) (y:Lnk) (a:Ifc):lkP t y a false y.ends=j4 t y a y.ends:=by
 rw[NY,Bv,Bw,Bool.false_or]
end Go.AM.IR
namespace Go.AM.IR
def MapOf (es:List (AV×AV)) (P:LEnd→Prop):Prop:= ∀x:LEnd,isT (cp true [.int,.int] (.bool false) (dp x.router x.ifc) es)=true↔P x
theorem MapOf.put {es:List (AV×AV)} {P:LEnd→Prop} (hE:gZ es) (h:MapOf es P) (x:LEnd):MapOf (df true [.int,.int] (dp x.router x.ifc) (.bool true) es) (fun z=>P z∨z=x):=fun z=>by
 rw[kJ e8 z.router z.ifc x.router x.ifc es hE]
 by_cases w:z.router=x.router∧z.ifc=x.ifc
 ·rw[if_pos w]
  have e:z=x:=by cases z;cases x;simp_all
  exact ⟨fun _=>Or.inr e,fun _=>rfl⟩
 ·rw[if_neg w,h z]
  constructor
  ·exact Or.inl
  ·rintro (k|k)
   ·exact k
   ·exact absurd (by rw[k];exact ⟨rfl,rfl⟩) w
theorem MapOf.congr {es:List (AV×AV)} {P Q:LEnd→Prop} (h:MapOf es P) (k: ∀x,P x↔Q x):MapOf es Q:=fun x=>(h x).trans (k x)
theorem CR (t:Topo) (prev:List Lnk): ∀(l d:List LEnd) (es:List (AV×AV)) (hE:gZ es) (hM:MapOf es fun x=>(∃y∈prev,x∈y.ends)∨x∈d),(ceM t es d l).1=jv t prev d l∧(jv t prev d l=0→MapOf (ceM t es d l).2 fun x=>(∃y∈prev,x∈y.ends)∨x∈d++l)
 | [],d,es,hE,hM=>by
  refine ⟨rfl,fun _=>?_⟩
  rw[List.append_nil]
  exact hM
 |x::r,d,es,hE,hM=>by
  rw[ceM,jv]
  by_cases o:dA t x=none
  ·rw[if_pos (by rw[o];rfl),if_pos o]
   exact ⟨rfl,fun h=>absurd h (by decide)⟩
  rw[if_neg (by cases h:dA t x<;>simp_all),if_neg o]
  by_cases m:isT (cp true [.int,.int] (.bool false) (dp x.router x.ifc) es)=true
  ·rw[if_pos m]
   rcases (hM x).1 m with k|k
   ·rw[if_pos k];exact ⟨rfl,fun h=>absurd h (by decide)⟩
   ·by_cases k2: ∃y∈prev,x∈y.ends
    ·rw[if_pos k2];exact ⟨rfl,fun h=>absurd h (by decide)⟩
    ·rw[if_neg k2,if_pos k];exact ⟨rfl,fun h=>absurd h (by decide)⟩
  rw[if_neg m,if_neg (fun k=>m ((hM x).2 (Or.inl k))),if_neg (fun k=>m ((hM x).2 (Or.inr k)))]
  by_cases q: ∃y∈d,y.router=x.router
  ·rw[if_pos q,if_pos (by simpa using q)]
   exact ⟨rfl,fun h=>absurd h (by decide)⟩
  rw[if_neg q,if_neg (by simpa using q)]
  have ih:=CR t prev r (d++[x]) _ (jI e8 x.router x.ifc es hE) ((hM.put hE x).congr fun z=>by simp[or_assoc])
  rw[List.append_assoc] at ih
  exact ih
end Go.AM.IR
namespace Go.AM.IR
theorem Sx (t:Topo) (i:Nat) (y:Lnk) (es:List (AV×AV)) (hE:gZ es) (hM:MapOf es fun x=> ∃z∈t.links.take i,x∈z.ends):(lkR t es y).1=lr t i y∧(lr t i y=0→MapOf (lkR t es y).2 fun x=>(∃z∈t.links.take i,x∈z.ends)∨x∈y.ends):=by
 have h:=CR t (t.links.take i) y.ends [] es hE (hM.congr fun x=>by simp)
 rw[lkR,lr]
 by_cases a1:y.ends.length<2
 ·rw[if_pos a1,if_pos a1];exact ⟨rfl,fun h=>absurd h (by decide)⟩
 rw[if_neg a1,if_neg a1]
 by_cases a2:y.delay<1
 ·rw[if_pos a2,if_pos a2];exact ⟨rfl,fun h=>absurd h (by decide)⟩
 rw[if_neg a2,if_neg a2]
 by_cases a3:60<y.delay
 ·rw[if_pos a3,if_pos a3];exact ⟨rfl,fun h=>absurd h (by decide)⟩
 rw[if_neg a3,if_neg a3]
 obtain ⟨h1,h2⟩:=h
 rw[h1]
 by_cases e:jv t (t.links.take i) [] y.ends=0
 ·rw[if_pos e,if_neg (fun k=>k e)]
  refine ⟨?_,fun _=>h2 e⟩
  show (match y.ends with| []=>(0:Int)|x::_=>lkP t y (bG t x) false y.ends)=_
  cases hy:y.ends with
  |nil=>rfl
  |cons x r=>
   show lkP t y (bG t x) false (x::r)=j4 t y (bG t x) (x::r)
   rw[←hy]
   exact Sy t y (bG t x)
 ·rw[if_neg e,if_pos e]
  exact ⟨h1,fun k=>absurd k e⟩
theorem Bt (t:Topo): ∀(r d:List Lnk) (es:List (AV×AV)) (hE:gZ es) (hB:EBool es) (e:t.links=d++r) (hM:MapOf es fun x=> ∃z∈t.links.take d.length,x∈z.ends),rL t es r=qu t d.length r
 | [],d,es,hE,hB,e,hM=>rfl
 |y::r,d,es,hE,hB,e,hM=>by
  have h:=Sx t d.length y es hE hM
  have ok:=Sw t y es hE hB
  rw[rL,qu,h.1]
  by_cases k:lr t d.length y=0
  ·rw[if_pos k,if_pos k]
   have ih:=Bt t r (d++[y]) _ ok.1 ok.2 (by simp[e]) ((h.2 k).congr fun x=>by
    rw[show t.links.take (d++[y]).length=d++[y] from by rw[e,show d++y::r=(d++[y])++r from by simp];first|exact List.take_left|exact List.take_left _ _|exact List.take_append_length,show t.links.take d.length=d from by rw[e];simp]
    constructor
    ·rintro (⟨z,h1,h2⟩|h1)
     ·exact ⟨z,by simp[h1],h2⟩
     ·exact ⟨y,by simp,h1⟩
    ·rintro ⟨z,h1,h2⟩
     rcases List.mem_append.1 h1 with h3|h3
     ·exact Or.inl ⟨z,h3,h2⟩
     ·rw[List.mem_singleton] at h3;exact Or.inr (h3▸h2))
   rw[List.length_append] at ih
   exact ih
  ·rw[if_neg k,if_neg k]
theorem Ur (t:Topo):Kz t=zP t:=
 aaY t (Bt t t.links [] [] (by intro e h;cases h) (fun u v=>⟨false,rfl⟩) rfl (fun x=>by simp[cp,isT]))
end Go.AM.IR
namespace Go.AM.IR
theorem RB (x:Pfx):1≤bkL x.enc:=by simp only[Pfx.enc,bkL,AV.bk];omega
theorem ye (x:Ifc):1≤bkL x.enc:=by simp only[Ifc.enc,bkL,AV.bk];omega
theorem D7 (x:ARange):1≤bkL x.enc:=by simp only[ARange.enc,bkL,AV.bk];omega
theorem Nn (x:Stat):1≤bkL x.enc:=by simp only[Stat.enc,bkL,AV.bk];omega
theorem Nq (x:LEnd):1≤bkL x.enc:=by simp only[LEnd.enc,bkL,AV.bk];omega
theorem Zq (x:Int):1≤bkL (gC x):=by simp only[gC,bkL,AV.bk];omega
theorem SG (s:PSet) (h:bkL s.enc≤1048576) (ok:s.ok):s.good:=by
 have l1:=ca (enc:=PList.enc) (fun x=>by have:=KN x;omega) s.prefixes
 have l2:=ca (enc:=PathL.enc) (fun x=>by have:=KM x;omega) s.paths
 have l3:=ca (enc:=ComL.enc) (fun x=>by have:=Pm x;omega) s.comms
 have l4:=ca (enc:=Pol.enc) (fun x=>by have:=Uz x;omega) s.pols
 simp only[PSet.enc,bkL,AV.bk] at h
 obtain ⟨o1,o2,o3,o4⟩:=ok
 refine ⟨by omega,by omega,by omega,by omega,fun x hx=>?_,fun x hx=>?_,fun x hx=>?_,fun x hx=>?_⟩
 ·have m:=iY (enc:=PList.enc) hx
  have n:=ca KH x.rules
  simp only[PList.enc,bkL,AV.bk] at m
  exact ⟨by omega,by omega,o1 x hx⟩
 ·have m:=iY (enc:=PathL.enc) hx
  have n:=ca KL x.rules
  simp only[PathL.enc,bkL,AV.bk] at m
  refine ⟨by omega,by omega,fun r hr=>?_⟩
  have k:=iY (enc:=PathR.enc) hr
  simp only[PathR.enc,bkL,AV.bk] at k
  omega
 ·have m:=iY (enc:=ComL.enc) hx
  have n:=ca Pj x.rules
  simp only[ComL.enc,bkL,AV.bk] at m
  exact ⟨by omega,by omega,trivial⟩
 ·have m:=iY (enc:=Pol.enc) hx
  have n:=ca (enc:=Trm.enc) (fun x=>by have:=Ux x;omega) x.terms
  simp only[Pol.enc,bkL,AV.bk] at m
  refine ⟨by omega,by omega,fun t ht=>?_⟩
  have k:=iY (enc:=Trm.enc) ht
  have n1:=ca (enc:=Mat.enc) (fun x=>by have:=UZ x;omega) t.mats
  have n2:=ca (enc:=Actn.enc) (fun x=>by have:=Pq x;omega) t.acts
  simp only[Trm.enc,bkL,AV.bk] at k
  exact ⟨by omega,by omega,by omega,fun m hm=>(((o4 x hx).1 t ht).1 m hm).2.2⟩
theorem F4 (q:PVC):bkL q.pols.enc≤bkL q.enc:=by
 simp only[PVC.enc,PSet.enc,bkL,AV.bk];omega
theorem WX (q:PVC) (h:bkL q.enc≤1048576) (ok:q.ok):q.good:=by
 have h1:=F4 q
 have l1:=ca KJ q.peers
 have l2:=ca RB q.nets
 obtain ⟨_,_,_,_,_,o6,o7,_⟩:=ok
 have g:=SG q.pols (by omega) o7
 simp only[PVC.enc,bkL,AV.bk] at h
 exact ⟨g,by omega,by omega,o6⟩
theorem FF (q:RConf):bkL q.pv.enc≤bkL q.enc:=by
 simp only[RConf.enc,PVC.enc,bkL,AV.bk];omega
theorem QN (q:RConf) (h:bkL q.enc≤1048576) (ok:q.ok):q.good:=by
 have h1:=FF q
 have l1:=ca ye q.ls.ifs
 have l2:=ca D7 q.ls.ranges
 have l3:=ca Uy q.redist
 have l4:=ca Nn q.stat
 have l5:=ca Zq q.dists
 obtain ⟨⟨_,o1,o2⟩,o3,_,o5,_⟩:=ok
 have g:=WX q.pv (by omega) o3
 simp only[RConf.enc,bkL,AV.bk] at h
 exact ⟨g,by omega,by omega,by omega,o1,fun x hx=>(o2 x hx).2,by omega,by omega,o5,by omega⟩
theorem Lf: ∀l:List RConf,(bA l).length≤eF (l.map RConf.enc)
 | []=>by simp[bA]
 |c::r=>by
  have h1:=Lf r
  have h2:=ca ye c.ls.ifs
  have h3:eF (c.ls.ifs.map Ifc.enc)≤bkL c.enc:=by simp only[RConf.enc,bkL,AV.bk];omega
  rw[bA,List.map_cons,eF,List.length_append,List.length_map];omega
theorem SE (t:Topo) (h:bkL t.enc≤1048576) (ok:t.ok):t.good:=by
 have l1:=ca (enc:=RConf.enc) (fun x=>by have:=vK x;omega) t.routers
 have l2:=ca U5 t.links
 have l3:=Lf t.routers
 simp only[Topo.enc,bkL,AV.bk] at h
 refine ⟨by omega,by omega,fun y hy=>?_,by omega,fun x hx=>?_⟩
 ·have m:=iY (enc:=Lnk.enc) hy
  have n:=ca Nq y.ends
  simp only[Lnk.enc,bkL,AV.bk] at m
  omega
 ·have m:=iY (enc:=RConf.enc) hx
  exact QN x (by omega) (ok.1 x hx)
theorem WD (t:Topo) (h:bkL t.enc≤1048576): ∀q∈t.routers,q.lim:=by
 intro q hq
 have m:=iY (enc:=RConf.enc) hq
 have m0:eF (t.routers.map RConf.enc)≤bkL t.enc:=by simp only[Topo.enc,bkL,AV.bk];omega
 have h1:=FF q
 have h2:=F4 q.pv
 have h3:=Ph q.pv.pols
 have hl:q.pv.pols.prefixes.length+q.pv.pols.paths.length+q.pv.pols.comms.length+q.pv.pols.pols.length≤i8 q.pv.pols:=by unfold i8;omega
 exact ⟨by omega,by omega,by omega,by omega⟩
end Go.AM.IR
namespace Go.AM.IR
theorem adP {a b:Int} (h:a=b) {kv:AV→Prop} {q:IntKind} (k:kv (.bool true)): ∃v,bv .eql (.int q a) (.int q b)=some v∧kv v:=⟨.bool true,by simp[bv,h],k⟩
theorem Ib (t:Topo) (h:bkL t.enc≤1048576) (ok:t.ok):aq G 369 [.agg t.enc] [] ⟨.bool true,[]⟩:=by
 obtain ⟨b,hb,hbt⟩:=MQ t (W5 t h)
 have gd:=SE t h ok
 have h1:=Kw t gd
 have h2:=Kx t gd (WD t h)
 rw[Ur] at h2
 generalize zP t=E at*
 cases b
 ·refine ab (F:=Ri) rfl rfl (am 300 _ _ _ _ ?_)
  repeat' (first|refine ae ?_|refine kV (o9) ?_|(refine aa ?_ ?_<;>intro h))
  refine ag ?_;rfl
 ·refine ab (F:=Ri) rfl rfl (am 300 _ _ _ _ ?_)
  repeat' ((conv=>whnf);first|refine adP rfl ?_|refine ay ?_|refine kV (o9) ?_|(refine aa ?_ ?_<;>intro h))
  refine ag ?_;rfl
theorem law369_all (ass:List (List AV)) (h:qV [wd] ass) (hb:eF ass≤1048576):aq G 369 (mt [wd] ass) [] ⟨.bool true,[]⟩:=by
 obtain ⟨x0,s0,rfl,h0,h⟩:=RF h
 obtain rfl:=Vc h
 obtain ⟨t,rfl,ht⟩:=adx h0
 simp only[eF] at hb
 exact Ib t (by omega) ht
end Go.AM.IR
