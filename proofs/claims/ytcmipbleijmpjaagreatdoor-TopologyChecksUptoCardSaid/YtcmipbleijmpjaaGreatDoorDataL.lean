/- What the functions of this program give, on the abstract machine. -/
import Derived.Test.YtcmipbleijmpjaaGreatDoorDataK
import Derived.Test.YtcmipbleijmpjaaGreatDoorDataI
import Derived.Test.YtcmipbleijmpjaaGreatDoorDataG
import Derived.Test.YtcmipbleijmpjaaGreatDoorDataH
set_option linter.unusedVariables false
set_option linter.unusedSimpArgs false
set_option maxHeartbeats 4000000
set_option maxRecDepth 20000
namespace Go.AM.IR
theorem Km (p q:Pfx):aq G 180 [.agg p.enc,.agg q.enc] [] ⟨.int .i64 (cU p q),[]⟩:=by
 have hee:(p=q)↔ (p.addr=q.addr∧p.len=q.len):=by cases p;cases q;simp
 by_cases h1:p.addr<q.addr
 ·rw[show cU p q= -1 from by simp[cU,h1]]
  refine ab (F:=vE) rfl rfl (am 300 _ _ _ _ ?_)
  repeat' (first|refine ae ?_|(refine aa ?_ ?_<;>intro h))
  all_goals (refine ag ?_;first|rfl|(exfalso;omega))
 ·by_cases h2:p.addr=q.addr
  ·by_cases h3:p.len<q.len
   ·rw[show cU p q= -1 from by simp[cU,h2,h3]]
    refine ab (F:=vE) rfl rfl (am 300 _ _ _ _ ?_)
    repeat' (first|refine ae ?_|(refine aa ?_ ?_<;>intro h))
    all_goals (refine ag ?_;first|rfl|(exfalso;omega))
   ·by_cases h4:p.len=q.len
    ·rw[show cU p q=0 from by simp[cU,h2,h4,hee]]
     refine ab (F:=vE) rfl rfl (am 300 _ _ _ _ ?_)
     repeat' (first|refine ae ?_|(refine aa ?_ ?_<;>intro h))
     all_goals (refine ag ?_;first|rfl|(exfalso;omega))
    ·rw[show cU p q=1 from by simp[cU,h2,h3,h4,hee]]
     refine ab (F:=vE) rfl rfl (am 300 _ _ _ _ ?_)
     repeat' (first|refine ae ?_|(refine aa ?_ ?_<;>intro h))
     all_goals (refine ag ?_;first|rfl|(exfalso;omega))
  ·rw[show cU p q=1 from by simp[cU,h1,h2,hee]]
   refine ab (F:=vE) rfl rfl (am 300 _ _ _ _ ?_)
   repeat' (first|refine ae ?_|(refine aa ?_ ?_<;>intro h))
   all_goals (refine ag ?_;first|rfl|(exfalso;omega))
theorem bP2 {hp:ax} {s:Nat} {z:List AV} {n:Nat} {ps:List Nat} {vs:List AV} {k:List (List AV)→List Nat→Prop} {a b:AV} (hk:k [[a],[b]] []) (h1:aW vs=true:=by first|rfl|(simp[aW,aG,AV.pure];done)|fail) (h2:iy s (dZ n z) ps vs=some [[a],[b]]:=by rfl):BslC hp s z n ps vs k:=zW h1 h2 (s7.2 hk)
def dE (q:PVC) (p:PeerC):Int:=if p.damp=false then 0 else if¬p.kind=1 then 1 else if e9 q.damp=0 then 0 else 1
def iL (s:PSet) (k:List UInt8):Bool:= !decide (k= [])&&(f8 s.pols k).isNone
def nmE (q:PVC) (p:PeerC):List (List UInt8)→Int
 | []=>dE q p
 |k::r=>if iL q.pols k=true then 6 else nmE q p r
section
variable {kv:AV→Prop}
theorem bj {q:IntKind} {a b:Int} (h: ¬a=b) (k:kv (.bool true)): ∃v,bv .neq (.int q a) (.int q b)=some v∧kv v:=⟨.bool true,by simp[bv,h],k⟩
theorem bc {q:IntKind} {a b:Int} (h:a=b) (k:kv (.bool false)): ∃v,bv .neq (.int q a) (.int q b)=some v∧kv v:=⟨.bool false,by simp[bv,h],k⟩
end
theorem qk (q:PVC) (hq:q.pols.pols.length<2^40) (p:PeerC) (a b:List UInt8) (g:Nat) (g9:Nat) (T:List (Nat×AV)) (H:ax) (c:Nat):
  Ev G ⟨r7,⟨(81,.int .i64 2)::(2,.ref 66 1 0)::(79,.vs 143 g 2)::(5,.ref 69 g9 0)::(80,.int .i64 2)::T,(66,some (1,.cells q.enc))::(69,some (g9,.cells p.enc))::(143,some (g,.vec 1 [[.str a],[.str b]]))::H,c⟩,[.t 4],0⟩ ⟨.int .i64 (dE q p),[]⟩:=by
 have h1:=se q.damp
 cases hd:p.damp with
 |false=>
  rw[dE,if_pos hd]
  refine evl ?_
  repeat' (first|refine ae ?_|(refine aa ?_ ?_<;>intro h))
  all_goals first|(refine ag ?_;rfl)|(exfalso;simp_all;done)
 |true=>
 rw[dE,if_neg (by simp[hd])]
 by_cases k:p.kind=1
 ·rw[if_neg (by simp[k])]
  by_cases e:e9 q.damp=0
  ·rw[if_pos e]
   rw[e] at h1
   refine evl ?_
   repeat' ((conv=>whnf);first|refine bc k ?_|refine ay ?_|(refine aa ?_ ?_<;>intro h))
   all_goals first|(refine ag ?_;rfl)|(exfalso;simp_all;done)
  ·rw[if_neg e]
   refine evl ?_
   repeat' ((conv=>whnf);first|refine bc k ?_|refine bj e ?_|refine ay ?_|(refine aa ?_ ?_<;>intro h))
   all_goals first|(refine ag ?_;rfl)|(exfalso;simp_all;done)
 ·rw[if_pos k]
  refine evl ?_
  repeat' ((conv=>whnf);first|refine bj k ?_|refine ay ?_|(refine aa ?_ ?_<;>intro h))
  all_goals first|(refine ag ?_;rfl)|(exfalso;simp_all;done)
theorem ql (q:PVC) (hq:q.pols.pols.length<2^40) (p:PeerC) (a b:List UInt8) (g:Nat) (g9:Nat) (T:List (Nat×AV)) (H:ax) (c:Nat):
  Ev G ⟨r7,⟨(81,.int .i64 1)::(2,.ref 66 1 0)::(79,.vs 143 g 2)::(5,.ref 69 g9 0)::(80,.int .i64 2)::T,(66,some (1,.cells q.enc))::(69,some (g9,.cells p.enc))::(143,some (g,.vec 1 [[.str a],[.str b]]))::H,c⟩,[.t 4],0⟩ ⟨.int .i64 (nmE q p [b]),[]⟩:=by
 have h1:=nb q.pols hq b
 rw[nmE]
 by_cases hk:b= []
 ·rw[iL,decide_eq_true hk,if_neg (by simp)]
  subst hk
  cases hf:f8 q.pols.pols [] with
  |none=>
   rw[hf,io] at h1
   refine evl ?_
   repeat' (first|refine ae ?_|(refine aa ?_ ?_<;>intro h))
   refine ah [81,2,79,5,80] [66,69,143] ?_
   exact qk q hq p _ _ g _ _ _ _
  |some v=>
   rw[hf,io] at h1
   refine evl ?_
   repeat' (first|refine ae ?_|(refine aa ?_ ?_<;>intro h))
   refine ah [81,2,79,5,80] [66,69,143] ?_
   exact qk q hq p _ _ g _ _ _ _
 ·rw[iL,decide_eq_false hk,Bool.not_false,Bool.true_and]
  cases hf:f8 q.pols.pols b with
  |none=>
   rw[hf,io] at h1
   simp only[Option.isNone_none,if_true]
   refine evl ?_
   repeat' ((conv=>whnf);first|refine ig hk ?_|refine ay ?_|(refine aa ?_ ?_<;>intro h))
   refine ag ?_;rfl
  |some v=>
   rw[hf,io] at h1
   simp only[Option.isNone_some,Bool.false_eq_true,if_false]
   refine evl ?_
   repeat' ((conv=>whnf);first|refine ig hk ?_|refine ay ?_|(refine aa ?_ ?_<;>intro h))
   refine ah [81,2,79,5,80] [66,69,143] ?_
   exact qk q hq p _ _ g _ _ _ _
theorem QH (q:PVC) (hq:q.pols.pols.length<2^40) (p:PeerC) (a b:List UInt8) (g:Nat) (g9:Nat) (T:List (Nat×AV)) (H:ax) (c:Nat):
  Ev G ⟨r7,⟨(81,.int .i64 0)::(2,.ref 66 1 0)::(79,.vs 143 g 2)::(5,.ref 69 g9 0)::(80,.int .i64 2)::T,(66,some (1,.cells q.enc))::(69,some (g9,.cells p.enc))::(143,some (g,.vec 1 [[.str a],[.str b]]))::H,c⟩,[.t 4],0⟩ ⟨.int .i64 (nmE q p [a,b]),[]⟩:=by
 have h1:=nb q.pols hq a
 rw[nmE]
 by_cases hk:a= []
 ·rw[iL,decide_eq_true hk,if_neg (by simp)]
  subst hk
  cases hf:f8 q.pols.pols [] with
  |none=>
   rw[hf,io] at h1
   refine evl ?_
   repeat' (first|refine ae ?_|(refine aa ?_ ?_<;>intro h))
   refine ah [81,2,79,5,80] [66,69,143] ?_
   exact ql q hq p _ _ g _ _ _ _
  |some v=>
   rw[hf,io] at h1
   refine evl ?_
   repeat' (first|refine ae ?_|(refine aa ?_ ?_<;>intro h))
   refine ah [81,2,79,5,80] [66,69,143] ?_
   exact ql q hq p _ _ g _ _ _ _
 ·rw[iL,decide_eq_false hk,Bool.not_false,Bool.true_and]
  cases hf:f8 q.pols.pols a with
  |none=>
   rw[hf,io] at h1
   simp only[Option.isNone_none,if_true]
   refine evl ?_
   repeat' ((conv=>whnf);first|refine ig hk ?_|refine ay ?_|(refine aa ?_ ?_<;>intro h))
   refine ag ?_;rfl
  |some v=>
   rw[hf,io] at h1
   simp only[Option.isNone_some,Bool.false_eq_true,if_false]
   refine evl ?_
   repeat' ((conv=>whnf);first|refine ig hk ?_|refine ay ?_|(refine aa ?_ ?_<;>intro h))
   refine ah [81,2,79,5,80] [66,69,143] ?_
   exact ql q hq p _ _ g _ _ _ _
def tlE (q:PVC) (p:PeerC):Int:=if p.client=true∧ ¬p.kind=3 then 1 else if¬p.hold=0∧(p.hold<3∨65535<p.hold) then 21 else if p.restart<0 then 5 else if 4095<p.restart then 5 else nmE q p [p.imp,p.exp]
theorem AQ (q:PVC) (hq:q.pols.pols.length<2^40) (p:PeerC) (l:List PeerC) (hl:l.length<2^40): ∀(rest done:List PeerC) (g9:Nat) (T:List (Nat×AV)) (H:ax) (c:Nat) (n:Int) (e:l=done++rest) (hn:n=done.length),
  Ev G ⟨SV,⟨(37,.int .i64 n)::(5,.ref 69 g9 0)::(35,.sl 11 (l.map PeerC.enc))::(2,.ref 66 1 0)::(36,.int .i64 l.length)::T,(66,some (1,.cells q.enc))::(69,some (g9,.cells p.enc))::H,c⟩,[.t 4],0⟩ ⟨.int .i64 (if rest.any (fun y=>decide (y.addr=p.addr)) then 7 else tlE q p),[]⟩
 | [],done,g9,T,H,c,n,e,hn=>by
  obtain rfl:l=done:=by simpa using e
  simp only[List.any_nil,Bool.false_eq_true,if_false]
  by_cases c1:p.client=true∧ ¬p.kind=3
  ·rw[tlE,if_pos c1]
   obtain ⟨c1,c2⟩:=c1
   refine evl ?_
   repeat' (first|refine ae ?_|(refine aa ?_ ?_<;>intro h))
   all_goals first|(refine ag ?_;rfl)|contradiction|(exfalso;omega)
  by_cases c2: ¬p.hold=0∧(p.hold<3∨65535<p.hold)
  ·rw[tlE,if_neg c1,if_pos c2]
   obtain ⟨c2,c3⟩:=c2
   refine evl ?_
   repeat' (first|refine ae ?_|(refine aa ?_ ?_<;>intro h))
   all_goals first|(refine ag ?_;rfl)|(exfalso;exact c1 ⟨by assumption,by assumption⟩)|(exfalso;omega)
  by_cases c3:p.restart<0
  ·rw[tlE,if_neg c1,if_neg c2,if_pos c3]
   refine evl ?_
   repeat' (first|refine ae ?_|(refine aa ?_ ?_<;>intro h))
   all_goals first|(refine ag ?_;rfl)|(exfalso;exact c1 ⟨by assumption,by assumption⟩)|(exfalso;omega)
  by_cases c4:4095<p.restart
  ·rw[tlE,if_neg c1,if_neg c2,if_neg c3,if_pos c4]
   refine evl ?_
   repeat' (first|refine ae ?_|(refine aa ?_ ?_<;>intro h))
   all_goals first|(refine ag ?_;rfl)|(exfalso;exact c1 ⟨by assumption,by assumption⟩)|(exfalso;omega)
  rw[tlE,if_neg c1,if_neg c2,if_neg c3,if_neg c4]
  refine evl ?_
  repeat' ((conv=>whnf);first|refine bP2 (a:=.str p.imp) (b:=.str p.exp) ?_|refine ay ?_|(refine aa ?_ ?_<;>intro h))
  all_goals try (exfalso;first|exact c1 ⟨by assumption,by assumption⟩|omega)
  all_goals (refine ah [81,2,79,5,80] [66,69,143] ?_;exact QH q hq p _ _ _ _ _ _ _)
 |x::r,done,g9,T,H,c,n,e,hn=>by
  have hd:l.length=done.length+(r.length+1):=by simp[e]
  have m1:(l.map PeerC.enc).length=l.length:=by simp
  have hx:(l.map PeerC.enc)[n.toNat]? =some x.enc:=by simp[e,hn]
  by_cases h:x.addr=p.addr
  ·rw[if_pos (by simp[h])]
   refine evl ?_
   repeat' ((conv=>whnf);first|refine bp h ?_|refine ay ?_|(refine aa ?_ ?_<;>intro h))
   refine ag ?_;rfl
  ·rw[show ((x::r).any fun y=>decide (y.addr=p.addr))=r.any fun y=>decide (y.addr=p.addr) from by simp[h]]
   refine evl ?_
   repeat' ((conv=>whnf);first|refine aY h ?_|refine ay ?_|(refine aa ?_ ?_<;>intro h))
   refine ah [37,5,35,2,36] [66,69] ?_
   exact AQ q hq p l hl r (done++[x]) _ _ _ _ (n+1) (by simp[e]) (by simp[hn])
def peE (q:PVC) (d:List PeerC) (p:PeerC):Int:=if pkE q p=0 then (if p.addr=0 then 1 else if p.loc=0 then 1 else if d.any (fun y=>decide (y.addr=p.addr)) then 7 else tlE q p) else pkE q p
theorem Du (q:PVC) (hq:q.pols.pols.length<2^40) (hl:q.peers.length<2^40) (i:Nat) (p:PeerC) (hp:q.peers[i]? =some p):aq G 503 [.agg q.enc,.int .i64 i] [] ⟨.int .i64 (peE q (q.peers.take i) p),[]⟩:=by
 have h1:=Mg q p
 have hi:i<q.peers.length:=(List.getElem?_eq_some_iff.1 hp).1
 have m1:(q.peers.map PeerC.enc).length=q.peers.length:=by simp
 have hx:(q.peers.map PeerC.enc)[((i:Nat):Int).toNat]? =some p.enc:=by simp[hp]
 rw[peE]
 by_cases e:pkE q p=0
 ·rw[if_pos e]
  rw[e] at h1
  by_cases a1:p.addr=0
  ·rw[if_pos a1]
   refine ab (F:=zh) rfl rfl (am 300 _ _ _ _ ?_)
   repeat' ((conv=>whnf);first|refine bp a1 ?_|refine ay ?_|(refine aa ?_ ?_<;>intro h))
   refine ag ?_;rfl
  by_cases a2:p.loc=0
  ·rw[if_neg a1,if_pos a2]
   refine ab (F:=zh) rfl rfl (am 300 _ _ _ _ ?_)
   repeat' ((conv=>whnf);first|refine aY a1 ?_|refine bp a2 ?_|refine ay ?_|(refine aa ?_ ?_<;>intro h))
   refine ag ?_;rfl
  rw[if_neg a1,if_neg a2]
  refine ab (F:=zh) rfl rfl (am 300 _ _ _ _ ?_)
  repeat' ((conv=>whnf);first|refine aY a1 ?_|refine aY a2 ?_|refine ay ?_|(refine aa ?_ ?_<;>intro h))
  refine ah [37,5,35,2,36] [66,69] ?_
  rw[show List.take (((i:Nat):Int).toNat-0) (List.drop 0 (List.map PeerC.enc q.peers))=List.map PeerC.enc (q.peers.take i) from by simp,List.length_map]
  exact AQ q hq p (q.peers.take i) (by simp;omega) _ [] _ _ _ _ 0 rfl rfl
 ·rw[if_neg e]
  refine ab (F:=zh) rfl rfl (am 300 _ _ _ _ ?_)
  repeat' ((conv=>whnf);first|refine bj e ?_|refine ay ?_|(refine aa ?_ ?_<;>intro h))
  refine ag ?_;rfl
end Go.AM.IR
namespace Go.AM.IR
theorem xY {b:Bool} {p q:Prop} (h:b=false) (k:p):condC (true^^b) p q:=by subst h;exact ⟨fun _=>k,fun w=>by cases w⟩
def uh (q:PVC):List PeerC→List PeerC→Int
 |_,[]=>0
 |d,x::r=>if peE q d x=0 then uh q (d++[x]) r else peE q d x
def t3E (q:PVC):Int:=if q.multi<0 then 5 else if 16<q.multi then 5 else uh q [] q.peers
def t2E (q:PVC):Int:=if q.damp.half=0∧q.damp.reuse=0∧q.damp.suppress=0∧q.damp.maxTime=0 then t3E q else if e9 q.damp=0 then t3E q else e9 q.damp
def rK (q:PVC):List Pfx→List Pfx→Int
 |_,[]=>t2E q
 |d,x::r=>if ba x=false then 1 else if (match d.getLast? with|some a=>decide (0≤cU a x)|none=>false)=true then 16 else rK q (d++[x]) r
theorem qd (q:PVC) (hq:q.pols.pols.length<2^40) (hl:q.peers.length<2^40): ∀(rest done:List PeerC) (T:List (Nat×AV)) (H:ax) (c:Nat) (n:Int) (e:q.peers=done++rest) (hn:n=done.length),
  Ev G ⟨Td,⟨(101,.int .i64 n)::(1,.ref 65 1 0)::(100,.int .i64 q.peers.length)::T,(65,some (1,.cells q.enc))::H,c⟩,[.t 2],0⟩ ⟨.int .i64 (uh q done rest),[]⟩
 | [],done,T,H,c,n,e,hn=>by
  have hd:q.peers.length=done.length:=by simp[e]
  refine evl ?_
  repeat' (first|refine ae ?_|(refine aa ?_ ?_<;>intro h))
  refine ag ?_;rfl
 |x::r,done,T,H,c,n,e,hn=>by
  have hd:q.peers.length=done.length+(r.length+1):=by simp[e]
  have h1:=Du q hq hl done.length x (by simp[e])
  rw[show q.peers.take done.length=done from by simp[e],←hn] at h1
  rw[uh]
  by_cases h0:peE q done x=0
  ·rw[if_pos h0]
   rw[h0] at h1
   refine evl ?_
   repeat' (first|refine ae ?_|(refine aa ?_ ?_<;>intro h))
   refine ah [101,1,100] [65] ?_
   exact qd q hq hl r (done++[x]) _ _ _ (n+1) (by simp[e]) (by simp[hn])
  ·rw[if_neg h0]
   generalize peE q done x=E at*
   refine evl ?_
   repeat' ((conv=>whnf);first|refine bj h0 ?_|refine ay ?_|(refine aa ?_ ?_<;>intro h))
   refine ag ?_;rfl
theorem xa (q:PVC) (hq:q.pols.pols.length<2^40) (hl:q.peers.length<2^40) (hnt:q.nets.length<2^40) (hok: ∀x∈q.nets,x.ok): ∀(rest done:List Pfx) (T:List (Nat×AV)) (H:ax) (c:Nat) (n:Int) (e:q.nets=done++rest) (hn:n=done.length),
  Ev G ⟨Tf,⟨(58,.int .i64 n)::(1,.ref 65 1 0)::(56,.sl 2 (q.nets.map Pfx.enc))::(57,.int .i64 q.nets.length)::T,(65,some (1,.cells q.enc))::H,c⟩,[.t 2],0⟩ ⟨.int .i64 (rK q done rest),[]⟩
 | [],done,T,H,c,n,e,hn=>by
  have hd:q.nets.length=done.length:=by simp[e]
  have h1:=se q.damp
  have m1:(q.peers.map PeerC.enc).length=q.peers.length:=by simp
  rw[rK]
  by_cases k:q.damp.half=0∧q.damp.reuse=0∧q.damp.suppress=0∧q.damp.maxTime=0
  ·rw[t2E,if_pos k,t3E]
   obtain ⟨k1,k2,k3,k4⟩:=k
   by_cases u:q.multi<0
   ·rw[if_pos u]
    refine evl ?_
    repeat' (first|refine ae ?_|(refine aa ?_ ?_<;>intro h))
    refine ag ?_;rfl
   by_cases u':16<q.multi
   ·rw[if_neg u,if_pos u']
    refine evl ?_
    repeat' (first|refine ae ?_|(refine aa ?_ ?_<;>intro h))
    refine ag ?_;rfl
   rw[if_neg u,if_neg u']
   refine evl ?_
   repeat' (first|refine ae ?_|(refine aa ?_ ?_<;>intro h))
   refine ah [101,1,100] [65] ?_
   rw[m1]
   exact qd q hq hl q.peers [] _ _ _ 0 rfl rfl
  ·rw[t2E,if_neg k]
   have kb:(q.damp.half==0&&(q.damp.reuse==0&&(q.damp.suppress==0&&(q.damp.maxTime==0&&true))))=false:=by
    simpa using k
   by_cases d:e9 q.damp=0
   ·rw[if_pos d,t3E]
    rw[d] at h1
    by_cases u:q.multi<0
    ·rw[if_pos u]
     refine evl ?_
     repeat' ((conv=>whnf);first|refine xY kb ?_|refine bc d ?_|refine ay ?_|(refine aa ?_ ?_<;>intro h))
     refine ag ?_;rfl
    by_cases u':16<q.multi
    ·rw[if_neg u,if_pos u']
     refine evl ?_
     repeat' ((conv=>whnf);first|refine xY kb ?_|refine bc d ?_|refine ay ?_|(refine aa ?_ ?_<;>intro h))
     refine ag ?_;rfl
    rw[if_neg u,if_neg u']
    refine evl ?_
    repeat' ((conv=>whnf);first|refine xY kb ?_|refine bc d ?_|refine ay ?_|(refine aa ?_ ?_<;>intro h))
    refine ah [101,1,100] [65] ?_
    rw[m1]
    exact qd q hq hl q.peers [] _ _ _ 0 rfl rfl
   ·rw[if_neg d]
    generalize e9 q.damp=E at*
    refine evl ?_
    repeat' ((conv=>whnf);first|refine xY kb ?_|refine bj d ?_|refine ay ?_|(refine aa ?_ ?_<;>intro h))
    refine ag ?_;rfl
 |x::r,done,T,H,c,n,e,hn=>by
  have hd:q.nets.length=done.length+(r.length+1):=by simp[e]
  have m1:(q.nets.map Pfx.enc).length=q.nets.length:=by simp
  have hx:(q.nets.map Pfx.enc)[n.toNat]? =some x.enc:=by simp[e,hn]
  have hxo:=hok x (by simp[e])
  have f1:=cr x hxo
  rw[rK]
  cases vx:ba x with
  |false=>
   rw[vx] at f1
   rw[if_pos rfl]
   refine evl ?_
   repeat' (first|refine ae ?_|(refine aa ?_ ?_<;>intro h))
   refine ag ?_;rfl
  |true=>
  rw[vx] at f1
  rw[if_neg (by simp)]
  have ih:=fun T H c=>xa q hq hl hnt hok r (done++[x]) T H c (n+1) (by simp[e]) (by simp[hn])
  rcases List.eq_nil_or_concat done with h0|⟨d,a,h0⟩
  ·subst h0
   obtain rfl:n=0:=hn
   rw[if_neg (by simp)]
   refine evl ?_
   repeat' (first|refine ae ?_|(refine aa ?_ ?_<;>intro h))
   refine ah [58,1,56,57] [65] ?_
   exact ih _ _ _
  ·have g1:=Km a x
   have hl0:done.getLast?=some a:=by rw[h0];simp
   have hdl:done.length=d.length+1:=by rw[h0];simp
   have n1:(0:Int)<n:=by omega
   have ha:(q.nets.map Pfx.enc)[(n-1).toNat]? =some a.enc:=by
    rw[show (n-1).toNat=d.length from by omega,e,h0];simp
   rw[hl0]
   dsimp only
   by_cases ho:0≤cU a x
   ·rw[if_pos (by simpa using ho)]
    generalize cU a x=Z at*
    refine evl ?_
    repeat' (first|refine ae ?_|(refine aa ?_ ?_<;>intro h))
    refine ag ?_;rfl
   ·rw[if_neg (by simpa using ho)]
    generalize cU a x=Z at*
    refine evl ?_
    repeat' (first|refine ae ?_|(refine aa ?_ ?_<;>intro h))
    refine ah [58,1,56,57] [65] ?_
    exact ih _ _ _
end Go.AM.IR
namespace Go.AM.IR
structure PVC.good (q:PVC):Prop where
 pols:q.pols.good
 peers:q.peers.length<2^40
 nets:q.nets.length<2^40
 ok: ∀x∈q.nets,x.ok
def t1E (q:PVC):Int:=if dw q.pols=0 then rK q [] q.nets else dw q.pols
def pvE (q:PVC):Int:=if q.asn<1 then 5 else if 4294967295<q.asn then 5 else if q.confed<0 then 5 else if 4294967295<q.confed then 5 else if q.confed=q.asn then 14 else if q.router=0 then 1 else if 16<q.peers.length then 4 else if 2000<q.nets.length then 4 else t1E q
theorem Me (q:PVC) (g:q.good):aq G 445 [.agg q.enc] [] ⟨.int .i64 (pvE q),[]⟩:=by
 have h1:=nR q.pols g.pols
 have m1:(q.peers.map PeerC.enc).length=q.peers.length:=by simp
 have m2:(q.nets.map Pfx.enc).length=q.nets.length:=by simp
 have g1:=g.peers
 have g2:=g.nets
 rw[pvE]
 by_cases a1:q.asn<1
 ·rw[if_pos a1]
  exact gvA (F:=mb)
 rw[if_neg a1]
 by_cases a2:4294967295<q.asn
 ·rw[if_pos a2]
  exact gvA (F:=mb)
 rw[if_neg a2]
 by_cases a3:q.confed<0
 ·rw[if_pos a3]
  exact gvA (F:=mb)
 rw[if_neg a3]
 by_cases a4:4294967295<q.confed
 ·rw[if_pos a4]
  exact gvA (F:=mb)
 rw[if_neg a4]
 by_cases a5:q.confed=q.asn
 ·rw[if_pos a5]
  refine ab (F:=mb) rfl rfl (am 300 _ _ _ _ ?_)
  repeat' ((conv=>whnf);first|refine bp a5 ?_|refine ay ?_|(refine aa ?_ ?_<;>intro h))
  refine ag ?_;rfl
 rw[if_neg a5]
 by_cases a6:q.router=0
 ·rw[if_pos a6]
  refine ab (F:=mb) rfl rfl (am 300 _ _ _ _ ?_)
  repeat' ((conv=>whnf);first|refine aY a5 ?_|refine bp a6 ?_|refine ay ?_|(refine aa ?_ ?_<;>intro h))
  refine ag ?_;rfl
 rw[if_neg a6]
 by_cases a7:16<q.peers.length
 ·rw[if_pos a7]
  have a7':(q.peers.length:Int)>16:=by omega
  refine ab (F:=mb) rfl rfl (am 300 _ _ _ _ ?_)
  repeat' ((conv=>whnf);first|refine aY a5 ?_|refine aY a6 ?_|refine ay ?_|(refine aa ?_ ?_<;>intro h))
  refine ag ?_;rfl
 rw[if_neg a7]
 have a7': ¬(q.peers.length:Int)>16:=by omega
 by_cases a8:2000<q.nets.length
 ·rw[if_pos a8]
  have a8':(q.nets.length:Int)>2000:=by omega
  refine ab (F:=mb) rfl rfl (am 300 _ _ _ _ ?_)
  repeat' ((conv=>whnf);first|refine aY a5 ?_|refine aY a6 ?_|refine ay ?_|(refine aa ?_ ?_<;>intro h))
  refine ag ?_;rfl
 rw[if_neg a8]
 have a8': ¬(q.nets.length:Int)>2000:=by omega
 rw[t1E]
 by_cases k:dw q.pols=0
 ·rw[if_pos k]
  rw[k] at h1
  refine ab (F:=mb) rfl rfl (am 300 _ _ _ _ ?_)
  repeat' ((conv=>whnf);first|refine aY a5 ?_|refine aY a6 ?_|refine bc rfl ?_|refine ay ?_|(refine aa ?_ ?_<;>intro h))
  refine ah [58,1,56,57] [65] ?_
  rw[m2]
  exact xa q g.pols.d g1 g2 g.ok q.nets [] _ _ _ 0 rfl rfl
 ·rw[if_neg k]
  generalize dw q.pols=E at*
  refine ab (F:=mb) rfl rfl (am 300 _ _ _ _ ?_)
  repeat' ((conv=>whnf);first|refine aY a5 ?_|refine aY a6 ?_|refine bj k ?_|refine ay ?_|(refine aa ?_ ?_<;>intro h))
  refine ag ?_;rfl
end Go.AM.IR
namespace Go.AM.IR
section
variable {kv:AV→Prop}
theorem om {a:List UInt8} (h:a= []) (k:kv (.bool false)): ∃v,bv .neq (.str a) (.str [])=some v∧kv v:=by subst h;exact ⟨.bool false,rfl,k⟩
end
def ud (s:PSet) (r:Red):Int:=if r.metric<0 then 5 else if 16777216<r.metric then 5 else if iL s r.pol=true then 6 else 0
def ry (s:PSet) (r:Red):Int:=if r.src<1 then 15 else if 7<r.src then 15 else if r.dst=5 then (if 3≤r.src∧r.src≤5 then 1 else ud s r) else if r.dst=6 then (if r.src=6∨r.src=7 then 1 else ud s r) else 15
def kx (s:PSet) (l:List Red):Int:=if dw s=0 then (if 64<l.length then 4 else bb (ry s) l) else dw s
theorem wG (s:PSet) (hs:s.pols.length<2^40) (l:List Red) (hl:l.length<2^40): ∀(rest done:List Red) (T:List (Nat×AV)) (H:ax) (c:Nat) (n:Int) (e:l=done++rest) (hn:n=done.length),
  Ev G ⟨Tc,⟨(20,.int .i64 n)::(2,.ref 66 1 0)::(18,.sl 5 (l.map Red.enc))::(19,.int .i64 l.length)::T,(66,some (1,.cells s.enc))::H,c⟩,[.t 4],0⟩ ⟨.int .i64 (bb (ry s) rest),[]⟩
 | [],done,T,H,c,n,e,hn=>by
  have hd:l.length=done.length:=by simp[e]
  refine evl ?_
  repeat' (first|refine ae ?_|(refine aa ?_ ?_<;>intro h))
  refine ag ?_;rfl
 |x::r,done,T,H,c,n,e,hn=>by
  have hd:l.length=done.length+(r.length+1):=by simp[e]
  have m1:(l.map Red.enc).length=l.length:=by simp
  have hx:(l.map Red.enc)[n.toNat]? =some x.enc:=by simp[e,hn]
  have h1:=nb s hs x.pol
  have h2:=GQ x.src
  have h3:=EZ x.src
  have ih:=fun T H c=>wG s hs l hl r (done++[x]) T H c (n+1) (by simp[e]) (by simp[hn])
  rw[bb,ry]
  by_cases a1:x.src<1
  ·rw[if_pos a1,if_neg (by decide)]
   refine evl ?_
   repeat' (first|refine ae ?_|(refine aa ?_ ?_<;>intro h))
   refine ag ?_;rfl
  by_cases a2:7<x.src
  ·rw[if_neg a1,if_pos a2,if_neg (by decide)]
   refine evl ?_
   repeat' (first|refine ae ?_|(refine aa ?_ ?_<;>intro h))
   refine ag ?_;rfl
  rw[if_neg a1,if_neg a2]
  by_cases d5:x.dst=5
  ·rw[if_pos d5]
   by_cases q:3≤x.src∧x.src≤5
   ·rw[if_pos q,if_neg (by decide)]
    rw[decide_eq_true q] at h2
    refine evl ?_
    repeat' ((conv=>whnf);first|refine bc d5 ?_|refine bp d5 ?_|refine ay ?_|(refine aa ?_ ?_<;>intro h))
    refine ag ?_;rfl
   rw[if_neg q]
   rw[decide_eq_false q] at h2
   have d6: ¬x.dst=6:=by omega
   rw[ud]
   by_cases m1:x.metric<0
   ·rw[if_pos m1,if_neg (by decide)]
    refine evl ?_
    repeat' ((conv=>whnf);first|refine bc d5 ?_|refine bp d5 ?_|refine aY d6 ?_|refine ay ?_|(refine aa ?_ ?_<;>intro h))
    refine ag ?_;rfl
   by_cases m2:16777216<x.metric
   ·rw[if_neg m1,if_pos m2,if_neg (by decide)]
    refine evl ?_
    repeat' ((conv=>whnf);first|refine bc d5 ?_|refine bp d5 ?_|refine aY d6 ?_|refine ay ?_|(refine aa ?_ ?_<;>intro h))
    refine ag ?_;rfl
   rw[if_neg m1,if_neg m2,iL]
   by_cases hk:x.pol= []
   ·rw[decide_eq_true hk,Bool.not_true,Bool.false_and]
    simp only[Bool.false_eq_true,if_false,if_true]
    cases hf:f8 s.pols x.pol with
    |none=>
     rw[hf,io] at h1
     refine evl ?_
     repeat' ((conv=>whnf);first|refine bc d5 ?_|refine bp d5 ?_|refine aY d6 ?_|refine om hk ?_|refine ay ?_|(refine aa ?_ ?_<;>intro h))
     refine ah [20,2,18,19] [66] ?_
     exact ih _ _ _
    |some v=>
     rw[hf,io] at h1
     refine evl ?_
     repeat' ((conv=>whnf);first|refine bc d5 ?_|refine bp d5 ?_|refine aY d6 ?_|refine om hk ?_|refine ay ?_|(refine aa ?_ ?_<;>intro h))
     refine ah [20,2,18,19] [66] ?_
     exact ih _ _ _
   ·rw[decide_eq_false hk,Bool.not_false,Bool.true_and]
    cases hf:f8 s.pols x.pol with
    |none=>
     rw[hf,io] at h1
     simp only[Option.isNone_none,if_true]
     rw[if_neg (by decide)]
     refine evl ?_
     repeat' ((conv=>whnf);first|refine bc d5 ?_|refine bp d5 ?_|refine aY d6 ?_|refine ig hk ?_|refine ay ?_|(refine aa ?_ ?_<;>intro h))
     refine ag ?_;rfl
    |some v=>
     rw[hf,io] at h1
     simp only[Option.isNone_some,Bool.false_eq_true,if_false,if_true]
     refine evl ?_
     repeat' ((conv=>whnf);first|refine bc d5 ?_|refine bp d5 ?_|refine aY d6 ?_|refine ig hk ?_|refine ay ?_|(refine aa ?_ ?_<;>intro h))
     refine ah [20,2,18,19] [66] ?_
     exact ih _ _ _
  rw[if_neg d5]
  by_cases d6:x.dst=6
  ·rw[if_pos d6]
   by_cases q:x.src=6∨x.src=7
   ·rw[if_pos q,if_neg (by decide)]
    rw[decide_eq_true q] at h3
    refine evl ?_
    repeat' ((conv=>whnf);first|refine bj d5 ?_|refine bc d6 ?_|refine aY d5 ?_|refine bp d6 ?_|refine ay ?_|(refine aa ?_ ?_<;>intro h))
    refine ag ?_;rfl
   rw[if_neg q]
   rw[decide_eq_false q] at h3
   rw[ud]
   by_cases m1:x.metric<0
   ·rw[if_pos m1,if_neg (by decide)]
    refine evl ?_
    repeat' ((conv=>whnf);first|refine bj d5 ?_|refine bc d6 ?_|refine aY d5 ?_|refine bp d6 ?_|refine ay ?_|(refine aa ?_ ?_<;>intro h))
    refine ag ?_;rfl
   by_cases m2:16777216<x.metric
   ·rw[if_neg m1,if_pos m2,if_neg (by decide)]
    refine evl ?_
    repeat' ((conv=>whnf);first|refine bj d5 ?_|refine bc d6 ?_|refine aY d5 ?_|refine bp d6 ?_|refine ay ?_|(refine aa ?_ ?_<;>intro h))
    refine ag ?_;rfl
   rw[if_neg m1,if_neg m2,iL]
   by_cases hk:x.pol= []
   ·rw[decide_eq_true hk,Bool.not_true,Bool.false_and]
    simp only[Bool.false_eq_true,if_false,if_true]
    cases hf:f8 s.pols x.pol with
    |none=>
     rw[hf,io] at h1
     refine evl ?_
     repeat' ((conv=>whnf);first|refine bj d5 ?_|refine bc d6 ?_|refine aY d5 ?_|refine bp d6 ?_|refine om hk ?_|refine ay ?_|(refine aa ?_ ?_<;>intro h))
     refine ah [20,2,18,19] [66] ?_
     exact ih _ _ _
    |some v=>
     rw[hf,io] at h1
     refine evl ?_
     repeat' ((conv=>whnf);first|refine bj d5 ?_|refine bc d6 ?_|refine aY d5 ?_|refine bp d6 ?_|refine om hk ?_|refine ay ?_|(refine aa ?_ ?_<;>intro h))
     refine ah [20,2,18,19] [66] ?_
     exact ih _ _ _
   ·rw[decide_eq_false hk,Bool.not_false,Bool.true_and]
    cases hf:f8 s.pols x.pol with
    |none=>
     rw[hf,io] at h1
     simp only[Option.isNone_none,if_true]
     rw[if_neg (by decide)]
     refine evl ?_
     repeat' ((conv=>whnf);first|refine bj d5 ?_|refine bc d6 ?_|refine aY d5 ?_|refine bp d6 ?_|refine ig hk ?_|refine ay ?_|(refine aa ?_ ?_<;>intro h))
     refine ag ?_;rfl
    |some v=>
     rw[hf,io] at h1
     simp only[Option.isNone_some,Bool.false_eq_true,if_false,if_true]
     refine evl ?_
     repeat' ((conv=>whnf);first|refine bj d5 ?_|refine bc d6 ?_|refine aY d5 ?_|refine bp d6 ?_|refine ig hk ?_|refine ay ?_|(refine aa ?_ ?_<;>intro h))
     refine ah [20,2,18,19] [66] ?_
     exact ih _ _ _
  ·rw[if_neg d6,if_neg (by decide)]
   refine evl ?_
   repeat' ((conv=>whnf);first|refine bj d5 ?_|refine bj d6 ?_|refine ay ?_|(refine aa ?_ ?_<;>intro h))
   refine ag ?_;rfl
theorem Fx (s:PSet) (hs:s.good) (l:List Red) (hl:l.length<2^40):aq G 446 [.agg s.enc,.sl 5 (l.map Red.enc)] [] ⟨.int .i64 (kx s l),[]⟩:=by
 have h1:=nR s hs
 have m1:(l.map Red.enc).length=l.length:=by simp
 rw[kx]
 by_cases k:dw s=0
 ·rw[if_pos k]
  rw[k] at h1
  by_cases a:64<l.length
  ·rw[if_pos a]
   have a':(l.length:Int)>64:=by omega
   refine ab (F:=Jo) rfl rfl (am 300 _ _ _ _ ?_)
   repeat' ((conv=>whnf);first|refine bc rfl ?_|refine ay ?_|(refine aa ?_ ?_<;>intro h))
   refine ag ?_;rfl
  ·rw[if_neg a]
   have a': ¬(l.length:Int)>64:=by omega
   refine ab (F:=Jo) rfl rfl (am 300 _ _ _ _ ?_)
   repeat' ((conv=>whnf);first|refine bc rfl ?_|refine ay ?_|(refine aa ?_ ?_<;>intro h))
   refine ah [20,2,18,19] [66] ?_
   rw[m1]
   exact wG s hs.d l hl l [] _ _ _ 0 rfl rfl
 ·rw[if_neg k]
  generalize dw s=E at*
  refine ab (F:=Jo) rfl rfl (am 300 _ _ _ _ ?_)
  repeat' ((conv=>whnf);first|refine bj k ?_|refine ay ?_|(refine aa ?_ ?_<;>intro h))
  refine ag ?_;rfl
end Go.AM.IR
namespace Go.AM.IR
def d7E (q:RConf):Int:=if q.dists.length=0 then 0 else if q.dists.length=7 then 0 else 1
def dsF (q:RConf):List Int→Int
 | []=>d7E q
 |x::r=>if x<0 then 1 else if 255<x then 1 else dsF q r
def stF (q:RConf):List Stat→Int
 | []=>dsF q q.dists
 |x::r=>if ba x.pfx=false then 1 else if x.dist<0 then 1 else if 255<x.dist then 1 else stF q r
theorem Ck (q:RConf) (hl:q.dists.length<2^40) (g9:Nat): ∀(rest done:List Int) (T:List (Nat×AV)) (H:ax) (c:Nat) (n:Int) (e:q.dists=done++rest) (hn:n=done.length),
  Ev G ⟨TR,⟨(117,.int .i64 n)::(5,.ref 69 g9 0)::(116,.int .i64 q.dists.length)::T,(69,some (g9,.cells q.enc))::H,c⟩,[.t 4],0⟩ ⟨.int .i64 (dsF q rest),[]⟩
 | [],done,T,H,c,n,e,hn=>by
  have hd:q.dists.length=done.length:=by simp[e]
  have m1:(q.dists.map gC).length=q.dists.length:=by simp
  rw[dsF,d7E]
  by_cases a:(q.dists.length:Int)=0
  ·rw[if_pos (by omega)]
   refine evl ?_
   repeat' ((conv=>whnf);first|refine bc a ?_|refine ay ?_|(refine aa ?_ ?_<;>intro h))
   refine ag ?_;rfl
  by_cases b:(q.dists.length:Int)=7
  ·rw[if_neg (by omega),if_pos (by omega)]
   have b0:(q.dists.length:Int)=7:=b
   refine evl ?_
   repeat' ((conv=>whnf);first|refine bj a ?_|refine bc b ?_|refine ay ?_|(refine aa ?_ ?_<;>intro h))
   refine ag ?_;rfl
  ·rw[if_neg (by omega),if_neg (by omega)]
   refine evl ?_
   repeat' ((conv=>whnf);first|refine bj a ?_|refine bj b ?_|refine ay ?_|(refine aa ?_ ?_<;>intro h))
   refine ag ?_;rfl
 |x::r,done,T,H,c,n,e,hn=>by
  have hd:q.dists.length=done.length+(r.length+1):=by simp[e]
  have m1:(q.dists.map gC).length=q.dists.length:=by simp
  have hx:(q.dists.map gC)[n.toNat]? =some (gC x):=by simp[e,hn]
  rw[dsF]
  by_cases a:x<0
  ·rw[if_pos a]
   refine evl ?_
   repeat' (first|refine ae ?_|(refine aa ?_ ?_<;>intro h))
   refine ag ?_;rfl
  by_cases b:255<x
  ·rw[if_neg a,if_pos b]
   refine evl ?_
   repeat' (first|refine ae ?_|(refine aa ?_ ?_<;>intro h))
   refine ag ?_;rfl
  rw[if_neg a,if_neg b]
  refine evl ?_
  repeat' (first|refine ae ?_|(refine aa ?_ ?_<;>intro h))
  refine ah [117,5,116] [69] ?_
  exact Ck q hl g9 r (done++[x]) _ _ _ (n+1) (by simp[e]) (by simp[hn])
theorem rn (q:RConf) (hl:q.dists.length<2^40) (hs:q.stat.length<2^40) (hok: ∀x∈q.stat,x.ok) (g9:Nat): ∀(rest done:List Stat) (T:List (Nat×AV)) (H:ax) (c:Nat) (n:Int) (e:q.stat=done++rest) (hn:n=done.length),
  Ev G ⟨TU,⟨(91,.int .i64 n)::(5,.ref 69 g9 0)::(90,.int .i64 q.stat.length)::T,(69,some (g9,.cells q.enc))::H,c⟩,[.t 4],0⟩ ⟨.int .i64 (stF q rest),[]⟩
 | [],done,T,H,c,n,e,hn=>by
  have hd:q.stat.length=done.length:=by simp[e]
  have m1:(q.dists.map gC).length=q.dists.length:=by simp
  rw[stF]
  refine evl ?_
  repeat' (first|refine ae ?_|(refine aa ?_ ?_<;>intro h))
  refine ah [117,5,116] [69] ?_
  rw[m1]
  exact Ck q hl g9 q.dists [] _ _ _ 0 rfl rfl
 |x::r,done,T,H,c,n,e,hn=>by
  have hd:q.stat.length=done.length+(r.length+1):=by simp[e]
  have m1:(q.stat.map Stat.enc).length=q.stat.length:=by simp
  have hx:(q.stat.map Stat.enc)[n.toNat]? =some x.enc:=by simp[e,hn]
  have f1:aq G 179 [.agg [.int .u32 x.pfx.addr,.int .i64 x.pfx.len]] [] ⟨.bool (ba x.pfx),[]⟩:=cr x.pfx (hok x (by simp[e])).1
  rw[stF]
  cases vx:ba x.pfx with
  |false=>
   rw[vx] at f1
   rw[if_pos rfl]
   refine evl ?_
   repeat' (first|refine ae ?_|(refine aa ?_ ?_<;>intro h))
   refine ag ?_;rfl
  |true=>
  rw[vx] at f1
  rw[if_neg (by simp)]
  by_cases a:x.dist<0
  ·rw[if_pos a]
   refine evl ?_
   repeat' (first|refine ae ?_|(refine aa ?_ ?_<;>intro h))
   refine ag ?_;rfl
  by_cases b:255<x.dist
  ·rw[if_neg a,if_pos b]
   refine evl ?_
   repeat' (first|refine ae ?_|(refine aa ?_ ?_<;>intro h))
   refine ag ?_;rfl
  rw[if_neg a,if_neg b]
  refine evl ?_
  repeat' (first|refine ae ?_|(refine aa ?_ ?_<;>intro h))
  refine ah [91,5,90] [69] ?_
  exact rn q hl hs hok g9 r (done++[x]) _ _ _ (n+1) (by simp[e]) (by simp[hn])
end Go.AM.IR
namespace Go.AM.IR
def m1E (q:RConf):Int:=if kx q.pv.pols q.redist=0 then stF q q.stat else kx q.pv.pols q.redist
def ut (q:RConf):Int:=if q.hasPV=false then (if dw q.pv.pols=0 then m1E q else 1) else if pvE q.pv=0 then (if q.pv.router=q.ls.router then m1E q else 14) else pvE q.pv
structure RConf.good (q:RConf):Prop where
 pv:q.pv.good
 name:q.name.length<2^40
 ifs:q.ls.ifs.length<2^40
 rgs:q.ls.ranges.length<2^40
 ifo: ∀x∈q.ls.ifs,x.ok
 rgo: ∀x∈q.ls.ranges,x.pfx.ok
 red:q.redist.length<2^40
 stat:q.stat.length<2^40
 sto: ∀x∈q.stat,x.ok
 dists:q.dists.length<2^40
theorem Ab (t:Topo) (ht:t.routers.length<2^40) (i:Nat) (hi:i<t.routers.length) (q:RConf) (gd:q.good) (g9:Nat): ∀(f k:Nat) (T:List (Nat×AV)) (H:ax) (c:Nat) (hk:k+f=i),
  Ev G ⟨TV,⟨(39,.int .i64 (k:Int))::(5,.ref 69 g9 0)::(2,.ref 66 1 0)::(38,.int .i64 (i:Int))::T,(66,some (1,.cells t.enc))::(69,some (g9,.cells q.enc))::H,c⟩,[.t 4],0⟩ ⟨.int .i64 (if ((t.routers.take i).drop k).any (fun y=>decide (y.ls.router=q.ls.router)) then 7 else ut q),[]⟩
 |0,k,T,H,c,hk=>by
  obtain rfl:k=i:=by omega
  have h1:=nR q.pv.pols gd.pv.pols
  have h2:=Me q.pv gd.pv
  have h3:=Fx q.pv.pols gd.pv.pols q.redist gd.red
  have m1:(q.stat.map Stat.enc).length=q.stat.length:=by simp
  rw[show ((t.routers.take k).drop k)= [] from by simp,List.any_nil,if_neg (by simp),ut]
  cases hb:q.hasPV with
  |false=>
   rw[if_pos rfl]
   by_cases k0:dw q.pv.pols=0
   ·rw[if_pos k0]
    rw[k0] at h1
    rw[m1E]
    by_cases r0:kx q.pv.pols q.redist=0
    ·rw[if_pos r0]
     rw[r0] at h3
     refine evl ?_
     repeat' ((conv=>whnf);first|refine bc rfl ?_|refine ay ?_|(refine aa ?_ ?_<;>intro h))
     all_goals try (exfalso;simp_all only[Bool.false_eq_true,Bool.true_eq_false,Bool.not_true,Bool.not_false,not_true_eq_false];done)
     refine ah [91,5,90] [69] ?_
     rw[m1]
     exact rn q gd.dists gd.stat gd.sto g9 q.stat [] _ _ _ 0 rfl rfl
    ·rw[if_neg r0]
     generalize kx q.pv.pols q.redist=E at*
     refine evl ?_
     repeat' ((conv=>whnf);first|refine bc rfl ?_|refine bj r0 ?_|refine ay ?_|(refine aa ?_ ?_<;>intro h))
     all_goals try (exfalso;simp_all only[Bool.false_eq_true,Bool.true_eq_false,Bool.not_true,Bool.not_false,not_true_eq_false];done)
     all_goals (refine ag ?_;rfl)
   ·rw[if_neg k0]
    generalize dw q.pv.pols=E at*
    refine evl ?_
    repeat' ((conv=>whnf);first|refine bj k0 ?_|refine ay ?_|(refine aa ?_ ?_<;>intro h))
    all_goals try (exfalso;simp_all only[Bool.false_eq_true,Bool.true_eq_false,Bool.not_true,Bool.not_false,not_true_eq_false];done)
    all_goals (refine ag ?_;rfl)
  |true=>
   rw[if_neg (by simp)]
   by_cases k0:pvE q.pv=0
   ·rw[if_pos k0]
    rw[k0] at h2
    by_cases e:q.pv.router=q.ls.router
    ·rw[if_pos e]
     rw[m1E]
     by_cases r0:kx q.pv.pols q.redist=0
     ·rw[if_pos r0]
      rw[r0] at h3
      refine evl ?_
      repeat' ((conv=>whnf);first|refine bc e ?_|refine bc rfl ?_|refine ay ?_|(refine aa ?_ ?_<;>intro h))
      all_goals try (exfalso;simp_all only[Bool.false_eq_true,Bool.true_eq_false,Bool.not_true,Bool.not_false,not_true_eq_false];done)
      refine ah [91,5,90] [69] ?_
      rw[m1]
      exact rn q gd.dists gd.stat gd.sto g9 q.stat [] _ _ _ 0 rfl rfl
     ·rw[if_neg r0]
      generalize kx q.pv.pols q.redist=E at*
      refine evl ?_
      repeat' ((conv=>whnf);first|refine bc e ?_|refine bc rfl ?_|refine bj r0 ?_|refine ay ?_|(refine aa ?_ ?_<;>intro h))
      all_goals try (exfalso;simp_all only[Bool.false_eq_true,Bool.true_eq_false,Bool.not_true,Bool.not_false,not_true_eq_false];done)
      all_goals (refine ag ?_;rfl)
    ·rw[if_neg e]
     refine evl ?_
     repeat' ((conv=>whnf);first|refine bj e ?_|refine bc rfl ?_|refine ay ?_|(refine aa ?_ ?_<;>intro h))
     all_goals try (exfalso;simp_all only[Bool.false_eq_true,Bool.true_eq_false,Bool.not_true,Bool.not_false,not_true_eq_false];done)
     all_goals (refine ag ?_;rfl)
   ·rw[if_neg k0]
    generalize pvE q.pv=E at*
    refine evl ?_
    repeat' ((conv=>whnf);first|refine bj k0 ?_|refine ay ?_|(refine aa ?_ ?_<;>intro h))
    all_goals try (exfalso;simp_all only[Bool.false_eq_true,Bool.true_eq_false,Bool.not_true,Bool.not_false,not_true_eq_false];done)
    all_goals (refine ag ?_;rfl)
 |f+1,k,T,H,c,hk=>by
  obtain ⟨y,hy⟩: ∃y,t.routers[k]? =some y:=⟨t.routers[k],List.getElem?_eq_getElem (by omega)⟩
  have hki:(k:Int)<(i:Int):=by omega
  have m1:(t.routers.map RConf.enc).length=t.routers.length:=by simp
  have hy1:(t.routers.map RConf.enc)[((k:Nat):Int).toNat]? =some y.enc:=by simp[hy]
  have hd:(t.routers.take i).drop k=y::(t.routers.take i).drop (k+1):=by
   have h0:(t.routers.take i)[k]? =some y:=by rw[List.getElem?_take_of_lt (by omega)];exact hy
   obtain ⟨hlt,hge⟩:=List.getElem?_eq_some_iff.1 h0
   rw[List.drop_eq_getElem_cons hlt,hge]
  rw[hd]
  by_cases e:y.ls.router=q.ls.router
  ·rw[if_pos (by simp[e])]
   refine evl ?_
   repeat' ((conv=>whnf);first|refine bp e ?_|refine ay ?_|(refine aa ?_ ?_<;>intro h))
   refine ag ?_;rfl
  ·rw[List.any_cons,decide_eq_false e,Bool.false_or]
   refine evl ?_
   repeat' ((conv=>whnf);first|refine aY e ?_|refine ay ?_|(refine aa ?_ ?_<;>intro h))
   refine ah [39,5,2,38] [66,69] ?_
   exact Ab t ht i hi q gd g9 f (k+1) _ _ _ (by omega)
end Go.AM.IR
namespace Go.AM.IR
def rtE (t:Topo) (d:List RConf) (q:RConf):Int:=if ur q.name=false then 1 else if fm t.routers q.name 0<(d.length:Int) then 7 else if lsE q.ls=0 then (if d.any (fun y=>decide (y.ls.router=q.ls.router)) then 7 else ut q) else lsE q.ls
theorem wA (t:Topo) (ht:t.routers.length<2^40) (i:Nat) (q:RConf) (hq:t.routers[i]? =some q) (gd:q.good):aq G 398 [.agg t.enc,.int .i64 (i:Int)] [] ⟨.int .i64 (rtE t (t.routers.take i) q),[]⟩:=by
 have hi:i<t.routers.length:=(List.getElem?_eq_some_iff.1 hq).1
 have m1:(t.routers.map RConf.enc).length=t.routers.length:=by simp
 have hx:(t.routers.map RConf.enc)[((i:Nat):Int).toNat]? =some q.enc:=by simp[hq]
 have hl:(t.routers.take i).length=i:=by simp;omega
 have h1:=GC q.name gd.name
 have h2:=DH t ht q.name
 have h3:aq G 443 [.agg [.int .u32 q.ls.router,.sl 9 (q.ls.ifs.map Ifc.enc),.sl 4 (q.ls.ranges.map ARange.enc)]] [] ⟨.int .i64 (lsE q.ls),[]⟩:=Mw q.ls gd.ifs gd.rgs gd.ifo gd.rgo
 rw[rtE,hl]
 cases hn:ur q.name with
 |false=>
  rw[hn] at h1
  rw[if_pos rfl]
  exact gvA (F:=zl)
 |true=>
 rw[hn] at h1
 rw[if_neg (by simp)]
 by_cases a:fm t.routers q.name 0<(i:Int)
 ·rw[if_pos a]
  generalize fm t.routers q.name 0=F at*
  exact gvA (F:=zl)
 rw[if_neg a]
 by_cases b:lsE q.ls=0
 ·rw[if_pos b]
  rw[b] at h3
  have h4:=fun g9 T H c=>Ab t ht i hi q gd g9 i 0 T H c (by omega)
  rw[List.drop_zero] at h4
  generalize fm t.routers q.name 0=F at*
  refine ab (F:=zl) rfl rfl (am 300 _ _ _ _ ?_)
  repeat' (first|refine ae ?_|(refine aa ?_ ?_<;>intro h))
  refine ah [39,5,2,38] [66,69] ?_
  exact h4 _ _ _ _
 ·rw[if_neg b]
  generalize lsE q.ls=E at*
  generalize fm t.routers q.name 0=F at*
  exact gvA (F:=zl)
def qu (t:Topo):Nat→List Lnk→Int
 |_,[]=>0
 |i,x::r=>if lr t i x=0 then qu t (i+1) r else lr t i x
def ru (t:Topo):List RConf→List RConf→Int
 |_,[]=>if jh [] (bA t.routers)=true then 7 else qu t 0 t.links
 |d,x::r=>if rtE t d x=0 then ru t (d++[x]) r else rtE t d x
def zP (t:Topo):Int:=if 32<t.routers.length then 4 else if 64<t.links.length then 4 else ru t [] t.routers
structure Topo.good (t:Topo):Prop where
 rs:t.routers.length<2^40
 ls:t.links.length<2^40
 es: ∀y∈t.links,y.ends.length<2^40
 acz:(bA t.routers).length<2^30
 good: ∀x∈t.routers,x.good
theorem xf (t:Topo) (g:t.good): ∀(rest done:List Lnk) (T:List (Nat×AV)) (H:ax) (c:Nat) (n:Int) (e:t.links=done++rest) (hn:n=done.length),
  Ev G ⟨T8,⟨(36,.int .i64 n)::(1,.ref 65 1 0)::(35,.int .i64 t.links.length)::T,(65,some (1,.cells t.enc))::H,c⟩,[.t 2],0⟩ ⟨.int .i64 (qu t done.length rest),[]⟩
 | [],done,T,H,c,n,e,hn=>by
  have hd:t.links.length=done.length:=by simp[e]
  have hg:=g.ls
  rw[qu]
  refine evl ?_
  repeat' (first|refine ae ?_|(refine aa ?_ ?_<;>intro h))
  refine ag ?_;rfl
 |x::r,done,T,H,c,n,e,hn=>by
  have hd:t.links.length=done.length+(r.length+1):=by simp[e]
  have hg:=g.ls
  have h1:=Dy t g.rs (fun c hc=>(g.good c hc).ifs) g.ls g.es done.length x (by simp[e])
  rw[←hn] at h1
  rw[qu]
  by_cases h0:lr t done.length x=0
  ·rw[if_pos h0]
   rw[h0] at h1
   have ih:=xf t g r (done++[x])
   rw[List.length_append,List.length_singleton] at ih
   refine evl ?_
   repeat' ((conv=>whnf);first|refine bc rfl ?_|refine ay ?_|(refine aa ?_ ?_<;>intro h))
   refine ah [36,1,35] [65] ?_
   exact ih _ _ _ (n+1) (by simp[e]) (by simp[hn])
  ·rw[if_neg h0]
   generalize lr t done.length x=E at*
   refine evl ?_
   repeat' ((conv=>whnf);first|refine bj h0 ?_|refine ay ?_|(refine aa ?_ ?_<;>intro h))
   refine ag ?_;rfl
theorem wy (t:Topo) (g:t.good): ∀(rest done:List RConf) (T:List (Nat×AV)) (H:ax) (c:Nat) (n:Int) (e:t.routers=done++rest) (hn:n=done.length),
  Ev G ⟨Ua,⟨(20,.int .i64 n)::(1,.ref 65 1 0)::(19,.int .i64 t.routers.length)::T,(65,some (1,.cells t.enc))::H,c⟩,[.t 2],0⟩ ⟨.int .i64 (ru t done rest),[]⟩
 | [],done,T,H,c,n,e,hn=>by
  have hd:t.routers.length=done.length:=by simp[e]
  have hg:=g.rs
  have h1:=z7 t g.rs g.acz
  have hg2:=g.acz
  have h2:=LC (bA t.routers) (by omega)
  have m1:(t.links.map Lnk.enc).length=t.links.length:=by simp
  rw[ru]
  cases hb:jh [] (bA t.routers) with
  |true=>
   rw[hb] at h2
   rw[if_pos rfl]
   refine evl ?_
   repeat' (first|refine ae ?_|refine kZ [(95,_,_)] ⟨rfl,pz trivial⟩ (h2) ?_|(refine aa ?_ ?_<;>intro h))
   refine ag ?_;rfl
  |false=>
   rw[hb] at h2
   rw[if_neg (by simp)]
   refine evl ?_
   repeat' (first|refine ae ?_|refine kZ [(95,_,_)] ⟨rfl,pz trivial⟩ (h2) ?_|(refine aa ?_ ?_<;>intro h))
   refine ah [36,1,35] [65] ?_
   rw[m1]
   exact xf t g t.links [] _ _ _ 0 rfl rfl
 |x::r,done,T,H,c,n,e,hn=>by
  have hd:t.routers.length=done.length+(r.length+1):=by simp[e]
  have hg:=g.rs
  have h1:=wA t g.rs done.length x (by simp[e]) (g.good x (by simp[e]))
  rw[show t.routers.take done.length=done from by simp[e],←hn] at h1
  rw[ru]
  by_cases h0:rtE t done x=0
  ·rw[if_pos h0]
   rw[h0] at h1
   refine evl ?_
   repeat' ((conv=>whnf);first|refine bc rfl ?_|refine ay ?_|(refine aa ?_ ?_<;>intro h))
   refine ah [20,1,19] [65] ?_
   exact wy t g r (done++[x]) _ _ _ (n+1) (by simp[e]) (by simp[hn])
  ·rw[if_neg h0]
   generalize rtE t done x=E at*
   refine evl ?_
   repeat' ((conv=>whnf);first|refine bj h0 ?_|refine ay ?_|(refine aa ?_ ?_<;>intro h))
   refine ag ?_;rfl
theorem Kw (t:Topo) (g:t.good):aq G 380 [.agg t.enc] [] ⟨.int .i64 (zP t),[]⟩:=by
 have m1:(t.routers.map RConf.enc).length=t.routers.length:=by simp
 have m2:(t.links.map Lnk.enc).length=t.links.length:=by simp
 have g1:=g.rs
 have g2:=g.ls
 rw[zP]
 by_cases a:32<t.routers.length
 ·rw[if_pos a]
  have a':(t.routers.length:Int)>32:=by omega
  exact gvA (F:=JI)
 rw[if_neg a]
 have a': ¬(t.routers.length:Int)>32:=by omega
 by_cases b:64<t.links.length
 ·rw[if_pos b]
  have b':(t.links.length:Int)>64:=by omega
  exact gvA (F:=JI)
 rw[if_neg b]
 have b': ¬(t.links.length:Int)>64:=by omega
 refine ab (F:=JI) rfl rfl (am 300 _ _ _ _ ?_)
 repeat' (first|refine ae ?_|(refine aa ?_ ?_<;>intro h))
 refine ah [20,1,19] [65] ?_
 rw[m1]
 exact wy t g t.routers [] _ _ _ 0 rfl rfl
end Go.AM.IR
namespace Go.AM.IR
def gu (a:Int):AV:=.int .u32 a
theorem jN (a b:Int):eqK false [.int] (gu a) (gu b)=some (decide (a=b)):=by
 show some ((a==b)&&true)=_
 by_cases h:a=b<;>simp[h]
structure AddOf (es:List (AV×AV)) (o:List Int):Prop where
 e: ∀x∈es,∃a:Int,x.1=gu a
 m: ∀u:Int,cp false [.int] (.bool false) (gu u) es= .bool (decide (u∈o))
theorem AddOf.nil:AddOf [] []:=⟨by simp,fun u=>by simp[cp]⟩
theorem GN (a:Int): ∀es:List (AV×AV),(∀x∈es,∃a:Int,x.1=gu a)→jf false [.int] (gu a) es=true
 | [],_=>by rw[jf,jN];rfl
 |e::es,he=>by
  obtain ⟨u,q⟩:=he e (by simp)
  rw[jf,q,jN,GN a es (fun x hx=>he x (by simp[hx]))];rfl
theorem GG (r u:Int): ∀es:List (AV×AV),(∀x∈es,∃a:Int,x.1=gu a)→cp false [.int] (.bool false) (gu r) (df false [.int] (gu u) (.bool true) es)=if r=u then .bool true else cp false [.int] (.bool false) (gu r) es
 | [],_=>by
  show (bif eqK false [.int] (gu r) (gu u)==some true then AV.bool true else AV.bool false)=_
  rw[jN]
  by_cases w:r=u
  ·rw[decide_eq_true w,if_pos w];rfl
  ·rw[decide_eq_false w,if_neg w];rfl
 |e::es,he=>by
  obtain ⟨a,q⟩:=he e (by simp)
  have ih:=GG r u es (fun x hx=>he x (by simp[hx]))
  rw[df,q,jN]
  by_cases x:u=a
  ·rw[decide_eq_true x]
   show (bif eqK false [.int] (gu r) (gu u)==some true then AV.bool true else cp false [.int] (.bool false) (gu r) es)=_
   rw[cp,q,jN,jN]
   by_cases w:r=u
   ·rw[decide_eq_true w,if_pos w];rfl
   ·rw[decide_eq_false w,if_neg w,decide_eq_false (by rw[←x];exact w)];rfl
  ·rw[decide_eq_false x]
   show cp false [.int] (.bool false) (gu r) (e::df false [.int] (gu u) (.bool true) es)=_
   rw[cp,cp,q,jN,ih]
   by_cases w:r=u
   ·rw[if_pos w,if_pos w,decide_eq_false (by rw[w];exact x)];rfl
   ·rw[if_neg w,if_neg w]
theorem PH (u:Int): ∀es:List (AV×AV),(∀x∈es,∃a:Int,x.1=gu a)→ ∀x∈df false [.int] (gu u) (.bool true) es,∃a:Int,x.1=gu a
 | [],_=>by intro e he;simp only[df,List.mem_singleton] at he;exact ⟨u,by rw[he]⟩
 |e::es,he=>by
  obtain ⟨a,q⟩:=he e (by simp)
  have ih:=PH u es (fun x hx=>he x (by simp[hx]))
  rw[df,q,jN]
  by_cases x:u=a
  ·rw[decide_eq_true x]
   intro y hy
   rcases List.mem_cons.1 hy with w|w
   ·exact ⟨u,by rw[w]⟩
   ·exact he y (by simp[w])
  ·rw[decide_eq_false x]
   intro y hy
   rcases List.mem_cons.1 hy with w|w
   ·exact he y (by simp[w])
   ·exact ih y w
theorem AddOf.put {es:List (AV×AV)} {o:List Int} (h:AddOf es o) (a:Int):AddOf (df false [.int] (gu a) (.bool true) es) (o++[a]):=by
 refine ⟨PH a es h.e,fun u=>?_⟩
 rw[GG u a es h.e,h.m u]
 by_cases w:u=a
 ·rw[if_pos w,decide_eq_true (by simp[w])]
 ·rw[if_neg w]
  by_cases v:u∈o
  ·rw[decide_eq_true v,decide_eq_true (by simp[v])]
  ·rw[decide_eq_false v,decide_eq_false (by simp[v,w])]
theorem Iu (q:RConf) (r:List RConf): ∀(d:List RConf) (n:Int),(fm (d++q::r) q.name n<n+d.length)↔d.any (fun y=>decide (y.name=q.name))=true
 | [],n=>by simp[fm]
 |x::d,n=>by
  rw[List.cons_append,fm]
  by_cases h:x.name=q.name
  ·rw[if_pos h]
   simp[h]
   omega
  ·rw[if_neg h]
   have ih:=Iu q r d (n+1)
   have e:n+((x::d).length:Int)=n+1+d.length:=by simp;omega
   rw[e,ih]
   simp[h]
end Go.AM.IR
namespace Go.AM.IR
theorem CX (t:Topo) (q:RConf) (hl:q.ls.ifs.length<2^40) (gm:Nat) (A M:List Int) (k ln:Int) (R:Ret) (Z:Bool) (hR:Z=true→R=⟨.int .i64 7,[]⟩)
  (go: ∀(es:List (AV×AV)) (hE:AddOf es (A++q.ls.ifs.map Ifc.addr)) (hZ:jh (A++q.ls.ifs.map Ifc.addr) M=Z) (T:List (Nat×AV)) (H:ax) (c:Nat),Ev G ⟨sa,⟨(6,.mp 107 gm)::(47,.int .i64 (k+1))::(45,.sl 25 (t.routers.map RConf.enc))::(1,.ref 65 1 0)::(46,.int .i64 ln)::T,(107,some (gm,.mp es))::(65,some (1,.cells t.enc))::H,c⟩,[.t 2],0⟩ R)
  (hk0:0≤k) (hk:k<2^40):
  ∀(rest done:List Ifc) (es:List (AV×AV)) (T:List (Nat×AV)) (H:ax) (c:Nat) (n:Int) (e:q.ls.ifs=done++rest) (hn:n=done.length) (hE:AddOf es (A++done.map Ifc.addr)) (hZ:jh (A++done.map Ifc.addr) (rest.map Ifc.addr++M)=Z),
  Ev G ⟨Ub,⟨(55,.int .i64 n)::(6,.mp 107 gm)::(53,.sl 9 (q.ls.ifs.map Ifc.enc))::(45,.sl 25 (t.routers.map RConf.enc))::(1,.ref 65 1 0)::(46,.int .i64 ln)::(47,.int .i64 k)::(54,.int .i64 q.ls.ifs.length)::T,(107,some (gm,.mp es))::(65,some (1,.cells t.enc))::H,c⟩,[.t 2],0⟩ R
 | [],done,es,T,H,c,n,e,hn,hE,hZ=>by
  have hd:q.ls.ifs.length=done.length:=by simp[e]
  obtain rfl:done=q.ls.ifs:=by simp[e]
  refine evl ?_
  repeat' (first|refine ae ?_|(refine aa ?_ ?_<;>intro h))
  refine ah [6,47,45,1,46] [107,65] ?_
  exact go es hE hZ _ _ _
 |x::r,done,es,T,H,c,n,e,hn,hE,hZ=>by
  have hd:q.ls.ifs.length=done.length+(r.length+1):=by simp[e]
  have m2:(q.ls.ifs.map Ifc.enc).length=q.ls.ifs.length:=by simp
  have hz1:(q.ls.ifs.map Ifc.enc)[n.toNat]? =some x.enc:=by simp[e,hn]
  have ih:=fun es' hE' hZ' T H c=>CX t q hl gm A M k ln R Z hR go hk0 hk r (done++[x]) es' T H c (n+1) (by simp[e]) (by simp[hn]) hE' hZ'
  have k1:=GN x.addr es hE.e
  have v1:=hE.m x.addr
  rw[List.map_cons,List.cons_append,jh] at hZ
  by_cases d:x.addr∈A++done.map Ifc.addr
  ·rw[if_pos d] at hZ
   rw[decide_eq_true d] at v1
   rw[hR hZ.symm]
   refine evl ?_
   repeat' (first|refine ae ?_|(refine aa ?_ ?_<;>intro h))
   dsimp only
   erw[v1]
   repeat' (first|refine ae ?_|(refine aa ?_ ?_<;>intro h))
   refine ag ?_;rfl
  ·rw[if_neg d] at hZ
   rw[decide_eq_false d] at v1
   refine evl ?_
   repeat' (first|refine ae ?_|(refine aa ?_ ?_<;>intro h))
   dsimp only
   erw[v1]
   repeat' (first|refine ae ?_|(refine aa ?_ ?_<;>intro h))
   refine ah [55,6,53,45,1,46,47,54] [107,65] ?_
   exact ih _ (by rw[List.map_append,←List.append_assoc];exact hE.put x.addr) (by rw[List.map_append,←List.append_assoc];exact hZ) _ _ _
theorem CW (t:Topo) (ht:t.routers.length<2^40) (hif: ∀q∈t.routers,q.ls.ifs.length<2^40) (gm:Nat) (R:Ret) (Z:Bool) (hR:Z=true→R=⟨.int .i64 7,[]⟩)
  (go:Z=false→ ∀(gl:Nat) (T:List (Nat×AV)) (H:ax) (c:Nat),Ev G ⟨Cg,⟨(72,.int .i64 0)::(11,.mp 132 gl)::(1,.ref 65 1 0)::(70,.sl 2 (t.links.map Lnk.enc))::(71,.int .i64 (t.links.map Lnk.enc).length)::T,(132,some (gl,.mp []))::(65,some (1,.cells t.enc))::H,c⟩,[.t 2],0⟩ R):
  ∀(rest done:List RConf) (es:List (AV×AV)) (T:List (Nat×AV)) (H:ax) (c:Nat) (n:Int) (e:t.routers=done++rest) (hn:n=done.length) (hE:AddOf es (bA done)) (hZ:jh (bA done) (bA rest)=Z),
  Ev G ⟨sa,⟨(6,.mp 107 gm)::(47,.int .i64 n)::(45,.sl 25 (t.routers.map RConf.enc))::(1,.ref 65 1 0)::(46,.int .i64 t.routers.length)::T,(107,some (gm,.mp es))::(65,some (1,.cells t.enc))::H,c⟩,[.t 2],0⟩ R
 | [],done,es,T,H,c,n,e,hn,hE,hZ=>by
  have hd:t.routers.length=done.length:=by simp[e]
  refine evl ?_
  repeat' (first|refine ae ?_|(refine aa ?_ ?_<;>intro h))
  refine ah [72,11,1,70,71] [132,65] ?_
  exact go hZ.symm _ _ _ _
 |x::r,done,es,T,H,c,n,e,hn,hE,hZ=>by
  have hd:t.routers.length=done.length+(r.length+1):=by simp[e]
  have m2:(t.routers.map RConf.enc).length=t.routers.length:=by simp
  have hz1:(t.routers.map RConf.enc)[n.toNat]? =some x.enc:=by simp[e,hn]
  have m3:(x.ls.ifs.map Ifc.enc).length=x.ls.ifs.length:=by simp
  have ap:bA (done++[x])=bA done++x.ls.ifs.map Ifc.addr:=by rw[mw];simp[bA]
  have ih:=fun es' hE' hZ' T H c=>CW t ht hif gm R Z hR go r (done++[x]) es' T H c (n+1) (by simp[e]) (by simp[hn]) hE' hZ'
  refine evl ?_
  repeat' (first|refine ae ?_|(refine aa ?_ ?_<;>intro h))
  refine ah [55,6,53,45,1,46,47,54] [107,65] ?_
  rw[m3]
  exact CX t x (hif x (by simp[e])) gm (bA done) (bA r) n _ R Z hR (fun es' hE' hZ' T H c=>ih es' (by rw[ap];exact hE') (by rw[ap];exact hZ') T H c) (by omega) (by omega) x.ls.ifs [] es _ _ _ 0 rfl rfl (by simpa using hE) (by simpa[bA] using hZ)
end Go.AM.IR
