/- What the functions of this program give, on the abstract machine. -/
import Derived.Test.YtekpmkbdjkoooaaGreatDoorDataL
import Derived.Test.YtekpmkbdjkoooaaGreatDoorDataK
import Derived.Test.YtekpmkbdjkoooaaGreatDoorDataJ
set_option linter.unusedVariables false
set_option linter.unusedSimpArgs false
set_option maxHeartbeats 4000000
set_option maxRecDepth 20000
namespace Go.AM.IR
theorem afK (q:PVC)(p:PeerC):tlE q p=if p.client=true∧ ¬p.kind=3 then 1 else if¬p.hold=0∧wi p.hold 3 65535=false then 21 else if wi p.restart 0 4095=false then 5 else if jk q.pols p.imp=true then 6 else if jk q.pols p.exp=true then 6 else dE q p:=by
 have e1:(p.hold<3∨65535<p.hold)↔wi p.hold 3 65535=false:=by
  rw[wi,AP];omega
 rw[tlE];simp only[e1]
 by_cases r1:p.restart<0
 ·rw[Ad r1,Ad (show wi p.restart 0 4095=false from by rw[wi,AP];omega)]
 ·by_cases r2:4095<p.restart
  ·rw[Ac r1,Ad r2,Ad (show wi p.restart 0 4095=false from by rw[wi,AP];omega)]
  ·rw[Ac r1,Ac r2,Ac (show¬wi p.restart 0 4095=false from by rw[wi,AP];omega)]
   rfl
theorem Eu (q:PVC)(gp:q.pols.good)(p:PeerC)(l:List PeerC)(hl:l.length<2^40): ∀(rest done:List PeerC)(g9:Nat)(T:TV)(H:aw)(c:Nat)(n:Int)(e:l=done++rest)(hn:n=done.length),
  Ev G ⟨YK,⟨(40,.int .i64 n)::(5,.ref 69 g9 0)::(38,.sl 11 (l.map PeerC.enc))::(2,.ref 66 1 0)::(39,.int .i64 l.length)::T,(66,some (1,.cells q.enc))::(69,some (g9,.cells p.enc))::H,c⟩,[.t 4],0⟩ ⟨.int .i64 (if rest.any (fun y=>decide (y.addr=p.addr)) then 7 else tlE q p),[]⟩
 | [],done,g9,T,H,c,n,e,hn=>by
  obtain rfl:l=done:=by simpa using e
  simp only[List.any_nil,A4,if_false];rw[afK];have h2:=gq p.hold 3 65535;have h3:=gq p.restart 0 4095;have h4:=tu q gp p.imp;have h5:=tu q gp p.exp;have h6:=uj q.damp
  by_cases c1:p.client=true∧ ¬p.kind=3
  ·rw[Ad c1]
   obtain ⟨c1,c2⟩:=c1;refine evl ?_
   repeat' ((conv=>whnf);first|refine bh c2 ?_|refine au ?_|(refine ae ?_ ?_<;>intro h))
   all_goals first|(refine ag ?_;rfl)|contradiction|(exfalso;simp_all;done)|(exfalso;omega)
  rw[Ac c1]
  by_cases c0:p.hold=0
  ·rw[Ac (fun h=>h.1 c0)]
   by_cases c3:wi p.restart 0 4095=false
   ·rw[Ad c3]
    rw[c3] at h3;refine evl ?_
    repeat' ((conv=>whnf);first|refine bb c0 ?_|refine au ?_|(refine ae ?_ ?_<;>intro h))
    all_goals first|(refine ag ?_;rfl)|(exfalso;exact c1 ⟨by assumption,by assumption⟩)|(exfalso;exact c6 (by assumption))|(exfalso;omega)|(exfalso;simp_all;done)|(exfalso;omega)
   rw[Ac c3];rw[Bool.not_eq_false] at c3;rw[c3] at h3
   by_cases c4:jk q.pols p.imp=true
   ·rw[Ad c4]
    rw[c4] at h4;refine evl ?_
    repeat' ((conv=>whnf);first|refine bb c0 ?_|refine au ?_|(refine ae ?_ ?_<;>intro h))
    all_goals first|(refine ag ?_;rfl)|(exfalso;exact c1 ⟨by assumption,by assumption⟩)|(exfalso;exact c6 (by assumption))|(exfalso;omega)|(exfalso;simp_all;done)|(exfalso;omega)
   rw[Ac c4];rw[AR] at c4;rw[c4] at h4
   by_cases c5:jk q.pols p.exp=true
   ·rw[Ad c5]
    rw[c5] at h5;refine evl ?_
    repeat' ((conv=>whnf);first|refine bb c0 ?_|refine au ?_|(refine ae ?_ ?_<;>intro h))
    all_goals first|(refine ag ?_;rfl)|(exfalso;exact c1 ⟨by assumption,by assumption⟩)|(exfalso;exact c6 (by assumption))|(exfalso;omega)|(exfalso;simp_all;done)|(exfalso;omega)
   rw[Ac c5];rw[AR] at c5;rw[c5] at h5
   by_cases c6:p.damp=false
   ·rw[dE,Ad c6]
    refine evl ?_
    repeat' ((conv=>whnf);first|refine bb c0 ?_|refine au ?_|(refine ae ?_ ?_<;>intro h))
    all_goals first|(refine ag ?_;rfl)|(exfalso;exact c1 ⟨by assumption,by assumption⟩)|(exfalso;exact c6 (by assumption))|(exfalso;omega)|(exfalso;simp_all;done)|(exfalso;omega)
   rw[dE,Ac c6]
   by_cases c7:p.kind=1
   ·rw[Ac (fun h=>h c7)]
    have c8: ¬p.kind=3:=by omega
    by_cases c9:fd q.damp=0
    ·rw[Ad c9]
     rw[c9] at h6;refine evl ?_
     repeat' ((conv=>whnf);first|refine bb c0 ?_|refine bh c8 ?_|refine bb c7 ?_|refine au ?_|(refine ae ?_ ?_<;>intro h))
     all_goals first|(refine ag ?_;rfl)|(exfalso;exact c1 ⟨by assumption,by assumption⟩)|(exfalso;exact c6 (by assumption))|(exfalso;omega)|(exfalso;simp_all;done)|(exfalso;omega)
    ·rw[Ac c9]
     generalize fd q.damp=E at*;refine evl ?_
     repeat' ((conv=>whnf);first|refine bb c0 ?_|refine bh c8 ?_|refine bb c7 ?_|refine bh c9 ?_|refine au ?_|(refine ae ?_ ?_<;>intro h))
     all_goals first|(refine ag ?_;rfl)|(exfalso;exact c1 ⟨by assumption,by assumption⟩)|(exfalso;exact c6 (by assumption))|(exfalso;omega)|(exfalso;simp_all;done)|(exfalso;omega)
   ·rw[Ad c7]
    refine evl ?_
    repeat' ((conv=>whnf);first|refine bb c0 ?_|refine bh c7 ?_|refine au ?_|(refine ae ?_ ?_<;>intro h))
    all_goals first|(refine ag ?_;rfl)|(exfalso;exact c1 ⟨by assumption,by assumption⟩)|(exfalso;exact c6 (by assumption))|(exfalso;omega)|(exfalso;simp_all;done)|(exfalso;omega)
  by_cases w2:wi p.hold 3 65535=false
  ·rw[Ad ⟨c0,w2⟩]
   rw[w2] at h2;refine evl ?_
   repeat' ((conv=>whnf);first|refine bh c0 ?_|refine au ?_|(refine ae ?_ ?_<;>intro h))
   all_goals first|(refine ag ?_;rfl)|(exfalso;exact c1 ⟨by assumption,by assumption⟩)|(exfalso;exact c6 (by assumption))|(exfalso;omega)|(exfalso;simp_all;done)|(exfalso;omega)
  rw[Ac (fun h=>w2 h.2)]
  rw[Bool.not_eq_false] at w2;rw[w2] at h2
  by_cases c3:wi p.restart 0 4095=false
  ·rw[Ad c3]
   rw[c3] at h3;refine evl ?_
   repeat' ((conv=>whnf);first|refine bh c0 ?_|refine au ?_|(refine ae ?_ ?_<;>intro h))
   all_goals first|(refine ag ?_;rfl)|(exfalso;exact c1 ⟨by assumption,by assumption⟩)|(exfalso;exact c6 (by assumption))|(exfalso;omega)|(exfalso;simp_all;done)|(exfalso;omega)
  rw[Ac c3];rw[Bool.not_eq_false] at c3;rw[c3] at h3
  by_cases c4:jk q.pols p.imp=true
  ·rw[Ad c4]
   rw[c4] at h4;refine evl ?_
   repeat' ((conv=>whnf);first|refine bh c0 ?_|refine au ?_|(refine ae ?_ ?_<;>intro h))
   all_goals first|(refine ag ?_;rfl)|(exfalso;exact c1 ⟨by assumption,by assumption⟩)|(exfalso;exact c6 (by assumption))|(exfalso;omega)|(exfalso;simp_all;done)|(exfalso;omega)
  rw[Ac c4];rw[AR] at c4;rw[c4] at h4
  by_cases c5:jk q.pols p.exp=true
  ·rw[Ad c5]
   rw[c5] at h5;refine evl ?_
   repeat' ((conv=>whnf);first|refine bh c0 ?_|refine au ?_|(refine ae ?_ ?_<;>intro h))
   all_goals first|(refine ag ?_;rfl)|(exfalso;exact c1 ⟨by assumption,by assumption⟩)|(exfalso;exact c6 (by assumption))|(exfalso;omega)|(exfalso;simp_all;done)|(exfalso;omega)
  rw[Ac c5];rw[AR] at c5;rw[c5] at h5
  by_cases c6:p.damp=false
  ·rw[dE,Ad c6]
   refine evl ?_
   repeat' ((conv=>whnf);first|refine bh c0 ?_|refine au ?_|(refine ae ?_ ?_<;>intro h))
   all_goals first|(refine ag ?_;rfl)|(exfalso;exact c1 ⟨by assumption,by assumption⟩)|(exfalso;exact c6 (by assumption))|(exfalso;omega)|(exfalso;simp_all;done)|(exfalso;omega)
  rw[dE,Ac c6]
  by_cases c7:p.kind=1
  ·rw[Ac (fun h=>h c7)]
   have c8: ¬p.kind=3:=by omega
   by_cases c9:fd q.damp=0
   ·rw[Ad c9]
    rw[c9] at h6;refine evl ?_
    repeat' ((conv=>whnf);first|refine bh c0 ?_|refine bh c8 ?_|refine bb c7 ?_|refine au ?_|(refine ae ?_ ?_<;>intro h))
    all_goals first|(refine ag ?_;rfl)|(exfalso;exact c1 ⟨by assumption,by assumption⟩)|(exfalso;exact c6 (by assumption))|(exfalso;omega)|(exfalso;simp_all;done)|(exfalso;omega)
   ·rw[Ac c9]
    generalize fd q.damp=E at*;refine evl ?_
    repeat' ((conv=>whnf);first|refine bh c0 ?_|refine bh c8 ?_|refine bb c7 ?_|refine bh c9 ?_|refine au ?_|(refine ae ?_ ?_<;>intro h))
    all_goals first|(refine ag ?_;rfl)|(exfalso;exact c1 ⟨by assumption,by assumption⟩)|(exfalso;exact c6 (by assumption))|(exfalso;omega)|(exfalso;simp_all;done)|(exfalso;omega)
  ·rw[Ad c7]
   refine evl ?_
   repeat' ((conv=>whnf);first|refine bh c0 ?_|refine bh c7 ?_|refine au ?_|(refine ae ?_ ?_<;>intro h))
   all_goals first|(refine ag ?_;rfl)|(exfalso;exact c1 ⟨by assumption,by assumption⟩)|(exfalso;exact c6 (by assumption))|(exfalso;omega)|(exfalso;simp_all;done)|(exfalso;omega)
 |x::r,done,g9,T,H,c,n,e,hn=>by
  have hd:=md e;have m1:=ml l PeerC.enc;have hx:=mx PeerC.enc e hn
  by_cases h:x.addr=p.addr
  ·rw[Ad (by simp[h])]
   refine evl ?_
   repeat' ((conv=>whnf);first|refine bj h ?_|refine au ?_|(refine ae ?_ ?_<;>intro h))
   refine ag ?_;rfl
  ·rw[show ((x::r).any fun y=>decide (y.addr=p.addr))=r.any fun y=>decide (y.addr=p.addr) from by simp[h]]
   refine evl ?_
   repeat' ((conv=>whnf);first|refine aY h ?_|refine au ?_|(refine ae ?_ ?_<;>intro h))
   refine ab [40,5,38,2,39] [66,69] ?_;exact Eu q gp p l hl r (done++[x]) _ _ _ _ (n+1) (by simp[e]) (by simp[hn])
theorem Ja (q:PVC)(gp:q.pols.good)(hl:q.peers.length<2^40)(i:Nat)(p:PeerC)(hp:q.peers[i]? =some p):ah G 565 [.agg q.enc,.int .i64 i] [] ⟨.int .i64 (peE q (q.peers.take i) p),[]⟩:=by
 have h1:=gq p.kind 1 3;have h2:=gq p.asn 1 4294967295;have h3:=Pw q p;have hi:i<q.peers.length:=(Az.1 hp).1;have m1:=ml q.peers PeerC.enc;have hx:(q.peers.map PeerC.enc)[((i:Nat):Int).toNat]? =some p.enc:=by simp[hp]
 rw[peE,aeM]
 by_cases w1:wi p.kind 1 3=true
 ·rw[Ad w1]
  rw[w1] at h1
  by_cases w2:wi p.asn 1 4294967295=true
  ·rw[Ad w2]
   rw[w2] at h2
   by_cases w3:D9 q p=true
   ·rw[Ad w3,Ad rfl]
    rw[w3] at h3
    by_cases a1:p.addr=0
    ·rw[Ad a1]
     refine gvC (F:=sb) ?_
     repeat' ((conv=>whnf);first|refine bj a1 ?_|refine au ?_|(refine ae ?_ ?_<;>intro h))
     refine ag ?_;rfl
    by_cases a2:p.loc=0
    ·rw[Ac a1,Ad a2]
     refine gvC (F:=sb) ?_
     repeat' ((conv=>whnf);first|refine aY a1 ?_|refine bj a2 ?_|refine au ?_|(refine ae ?_ ?_<;>intro h))
     refine ag ?_;rfl
    rw[Ac a1,Ac a2];refine gvC (F:=sb) ?_
    repeat' ((conv=>whnf);first|refine aY a1 ?_|refine aY a2 ?_|refine au ?_|(refine ae ?_ ?_<;>intro h))
    refine ab [40,5,38,2,39] [66,69] ?_;rw[show List.take (((i:Nat):Int).toNat-0) (List.drop 0 (List.map PeerC.enc q.peers))=List.map PeerC.enc (q.peers.take i) from by simp,At]
    exact Eu q gp p (q.peers.take i) (by simp;omega) _ [] _ _ _ _ 0 rfl rfl
   ·rw[Ac w3,Ac (by decide)]
    rw[AR] at w3;rw[w3] at h3;exact gvA (F:=sb)
  ·rw[Ac w2,Ac (by decide)]
   rw[AR] at w2;rw[w2] at h2;exact gvA (F:=sb)
 ·rw[Ac w1,Ac (by decide)]
  rw[AR] at w1;rw[w1] at h1;exact gvA (F:=sb)
end Go.AM.IR
namespace Go.AM.IR
theorem SG (q:PVC): ∀(l d:List Pfx),oM q d l=if nwE d l=0 then t2E q else nwE d l
 | [],d=>by simp[oM,nwE]
 |x::r,d=>by
  rw[oM,nwE]
  by_cases h:aW x=false
  ·rw[Ad h,Ad h];rfl
  ·rw[Ac h,Ac h,SG q r (d++[x])]
   cases hd:d.getLast? with
   |none=>simp
   |some a=>
    by_cases ho:0≤cX a x
    ·simp[ho]
    ·simp[ho]
theorem afU (q:PVC):pvE q=if wi q.asn 1 4294967295=true then if wi q.confed 0 4294967295=true then if q.asn=q.confed then 14 else if q.router=0 then 1 else if 16<q.peers.length then 4 else if 2000<q.nets.length then 4 else if ca q.pols=0 then if nwE [] q.nets=0 then t2E q else nwE [] q.nets else ca q.pols else 5 else 5:=by
 have e1:wi q.asn 1 4294967295=true↔ (1≤q.asn∧q.asn≤4294967295):=by simp[wi]
 have e2:wi q.confed 0 4294967295=true↔ (0≤q.confed∧q.confed≤4294967295):=by simp[wi]
 rw[pvE,t1E,SG]
 by_cases a1:q.asn<1
 ·rw[Ad a1,Ac (fun h=>by have:=e1.1 h;omega)]
 by_cases a2:4294967295<q.asn
 ·rw[Ac a1,Ad a2,Ac (fun h=>by have:=e1.1 h;omega)]
 rw[Ac a1,Ac a2,Ad (e1.2 ⟨by omega,by omega⟩)]
 by_cases a3:q.confed<0
 ·rw[Ad a3,Ac (fun h=>by have:=e2.1 h;omega)]
 by_cases a4:4294967295<q.confed
 ·rw[Ac a3,Ad a4,Ac (fun h=>by have:=e2.1 h;omega)]
 rw[Ac a3,Ac a4,Ad (e2.2 ⟨by omega,by omega⟩)]
 by_cases a5:q.confed=q.asn
 ·rw[Ad a5,Ad (show q.asn=q.confed from a5.symm)]
 ·rw[Ac a5,Ac (show¬q.asn=q.confed from fun h=>a5 h.symm)]
theorem rx (q:PVC)(gp:q.pols.good)(hl:q.peers.length<2^40): ∀(rest done:List PeerC)(T:TV)(H:aw)(c:Nat)(n:Int)(e:q.peers=done++rest)(hn:n=done.length),
  Ev G ⟨YU,⟨(68,.int .i64 n)::(1,.ref 65 1 0)::(67,.int .i64 q.peers.length)::T,(65,some (1,.cells q.enc))::H,c⟩,[.t 2],0⟩ ⟨.int .i64 (ry q done rest),[]⟩
 | [],done,T,H,c,n,e,hn=>by
  have hd:=md0 e;refine evA ?_;refine ag ?_;rfl
 |x::r,done,T,H,c,n,e,hn=>by
  have hd:=md e;have h1:=Ja q gp hl done.length x (by simp[e])
  rw[show q.peers.take done.length=done from by simp[e],←hn] at h1
  rw[ry]
  by_cases h0:peE q done x=0
  ·rw[Ad h0]
   rw[h0] at h1;refine evA ?_;refine ab [68,1,67] [65] ?_;exact rx q gp hl r (done++[x]) _ _ _ (n+1) (by simp[e]) (by simp[hn])
  ·rw[Ac h0]
   generalize peE q done x=E at*;refine evl ?_
   repeat' ((conv=>whnf);first|refine bh h0 ?_|refine au ?_|(refine ae ?_ ?_<;>intro h))
   refine ag ?_;rfl
theorem Qz (q:PVC)(g:q.good)(k0:q.pols.prefixes.length<2^30)(k1:q.pols.paths.length<2^30)(k2:q.pols.comms.length<2^30)(k3:q.pols.pols.length<2^30):ah G 491 [.agg q.enc] [] ⟨.int .i64 (pvE q),[]⟩:=by
 have h1:=gq q.asn 1 4294967295;have h2:=gq q.confed 0 4294967295;have h3:ah G 451 [.agg [.sl 2 (q.pols.prefixes.map PList.enc),.sl 2 (q.pols.paths.map PathL.enc),.sl 2 (q.pols.comms.map ComL.enc),.sl 3 (q.pols.pols.map Pol.enc)]] [] ⟨.int .i64 (ca q.pols),[]⟩:=lj q.pols g.pols k0 k1 k2 k3;have h4:=Mf q.nets g.nets g.ok;have h5:=uj q.damp;have h6:=gq q.multi 0 16;have m1:=ml q.peers PeerC.enc;have m2:=ml q.nets Pfx.enc;have g1:=g.peers;have g2:=g.nets;rw[afU]
 by_cases a1: ¬wi q.asn 1 4294967295=true
 ·rw[Ac a1]
  rw[AR] at a1;rw[a1] at h1;exact gvA (F:=jI)
 rw[Classical.not_not] at a1;rw[Ad a1];rw[a1] at h1
 by_cases a2: ¬wi q.confed 0 4294967295=true
 ·rw[Ac a2]
  rw[AR] at a2;rw[a2] at h2;exact gvA (F:=jI)
 rw[Classical.not_not] at a2;rw[Ad a2];rw[a2] at h2
 by_cases a3:q.asn=q.confed
 ·rw[Ad a3]
  refine gvC (F:=jI) ?_
  repeat' ((conv=>whnf);first|refine bj a3 ?_|refine au ?_|(refine ae ?_ ?_<;>intro h))
  refine ag ?_;rfl
 rw[Ac a3]
 by_cases a4:q.router=0
 ·rw[Ad a4]
  refine gvC (F:=jI) ?_
  repeat' ((conv=>whnf);first|refine aY a3 ?_|refine bj a4 ?_|refine au ?_|(refine ae ?_ ?_<;>intro h))
  refine ag ?_;rfl
 rw[Ac a4]
 by_cases a5:16<q.peers.length
 ·rw[Ad a5]
  have a5':(q.peers.length:Int)>16:=by omega
  refine gvC (F:=jI) ?_
  repeat' ((conv=>whnf);first|refine aY a3 ?_|refine aY a4 ?_|refine au ?_|(refine ae ?_ ?_<;>intro h))
  refine ag ?_;rfl
 rw[Ac a5];have a5': ¬(q.peers.length:Int)>16:=by omega
 by_cases a6:2000<q.nets.length
 ·rw[Ad a6]
  have a6':(q.nets.length:Int)>2000:=by omega
  refine gvC (F:=jI) ?_
  repeat' ((conv=>whnf);first|refine aY a3 ?_|refine aY a4 ?_|refine au ?_|(refine ae ?_ ?_<;>intro h))
  refine ag ?_;rfl
 rw[Ac a6];have a6': ¬(q.nets.length:Int)>2000:=by omega
 by_cases a7: ¬ca q.pols=0
 ·rw[Ac a7]
  generalize ca q.pols=E at*;refine gvC (F:=jI) ?_
  repeat' ((conv=>whnf);first|refine aY a3 ?_|refine aY a4 ?_|refine bh a7 ?_|refine au ?_|(refine ae ?_ ?_<;>intro h))
  refine ag ?_;rfl
 rw[Classical.not_not] at a7;rw[Ad a7];rw[a7] at h3
 by_cases a8: ¬nwE [] q.nets=0
 ·rw[Ac a8]
  generalize nwE [] q.nets=E at*;refine gvC (F:=jI) ?_
  repeat' ((conv=>whnf);first|refine aY a3 ?_|refine aY a4 ?_|refine bb rfl ?_|refine bh a8 ?_|refine au ?_|(refine ae ?_ ?_<;>intro h))
  refine ag ?_;rfl
 rw[Classical.not_not] at a8;rw[Ad a8];rw[a8] at h4
 have et:t3E q=if wi q.multi 0 16=true then ry q [] q.peers else 5:=by
  have e1:wi q.multi 0 16=true↔ (0≤q.multi∧q.multi≤16):=by simp[wi]
  rw[t3E]
  by_cases b1:q.multi<0
  ·rw[Ad b1,Ac (fun h=>by have:=e1.1 h;omega)]
  by_cases b2:16<q.multi
  ·rw[Ac b1,Ad b2,Ac (fun h=>by have:=e1.1 h;omega)]
  rw[Ac b1,Ac b2,Ad (e1.2 ⟨by omega,by omega⟩)]
 by_cases d:fd q.damp=0
 ·rw[show t2E q=t3E q from by rw[t2E,Ad d];split<;>rfl,et]
  rw[d] at h5
  by_cases u: ¬wi q.multi 0 16=true
  ·rw[Ac u]
   rw[AR] at u;rw[u] at h6;refine gvC (F:=jI) ?_
   repeat' ((conv=>whnf);first|refine aY a3 ?_|refine aY a4 ?_|refine bb rfl ?_|refine au ?_|(refine ae ?_ ?_<;>intro h))
   refine ag ?_;rfl
  rw[Classical.not_not] at u;rw[Ad u];rw[u] at h6;refine gvC (F:=jI) ?_
  repeat' ((conv=>whnf);first|refine aY a3 ?_|refine aY a4 ?_|refine bb rfl ?_|refine au ?_|(refine ae ?_ ?_<;>intro h))
  refine ab [68,1,67] [65] ?_;rw[m1];exact rx q g.pols g1 q.peers [] _ _ _ 0 rfl rfl
 by_cases k:q.damp.half=0∧q.damp.reuse=0∧q.damp.suppress=0∧q.damp.maxTime=0
 ·rw[t2E,Ad k,et]
  have d5:fd q.damp=5:=by rw[fd,Ad (by omega)]
  rw[d5] at h5;obtain ⟨z1,z2,z3,z4⟩:=k
  by_cases u: ¬wi q.multi 0 16=true
  ·rw[Ac u]
   rw[AR] at u;rw[u] at h6;refine gvC (F:=jI) ?_
   repeat' ((conv=>whnf);first|refine aY a3 ?_|refine aY a4 ?_|refine bb rfl ?_|refine bh d ?_|refine au ?_|(refine ae ?_ ?_<;>intro h))
   refine ag ?_;rfl
  rw[Classical.not_not] at u;rw[Ad u];rw[u] at h6;refine gvC (F:=jI) ?_
  repeat' ((conv=>whnf);first|refine aY a3 ?_|refine aY a4 ?_|refine bb rfl ?_|refine bh d ?_|refine au ?_|(refine ae ?_ ?_<;>intro h))
  refine ab [68,1,67] [65] ?_;rw[m1];exact rx q g.pols g1 q.peers [] _ _ _ 0 rfl rfl
 rw[t2E,Ac k,Ac d]
 have kb:(q.damp.half==0&&(q.damp.reuse==0&&(q.damp.suppress==0&&(q.damp.maxTime==0&&true))))=false:=by
  simpa using k
 generalize fd q.damp=E at*;refine gvC (F:=jI) ?_
 repeat' ((conv=>whnf);first|refine aY a3 ?_|refine aY a4 ?_|refine bb rfl ?_|refine bh d ?_|refine au ?_|(refine ae ?_ ?_<;>intro h))
 refine ag ?_;rfl
end Go.AM.IR
namespace Go.AM.IR
theorem IM (s:PSet)(g:s.good)(x:Red):ah G 492 [.agg s.enc,.agg x.enc] [] ⟨.int .i64 (tg s x),[]⟩:=by
 have h1:=sD s g x.pol;unfold wt at h1;have hpl:jk s x.pol=(!decide (x.pol= [])&&(gz s.pols x.pol).isNone):=rfl;generalize gz s.pols x.pol=o at*;have hp:=pf (wu o);generalize hP:wu o=P at*;obtain ⟨nm,ts,d⟩:=P;have h1:ah G 566 [.agg s.enc,.str x.pol] [] ⟨.tup [.agg [.str nm,.sl 4 (ts.map Trm.enc),.int .i64 d],.bool o.isSome],[]⟩:=h1;rw[tg]
 by_cases a1:x.src<1
 ·rw[Ad a1]
  exact gvA (F:=fG)
 by_cases a2:7<x.src
 ·rw[Ac a1,Ad a2]
  exact gvA (F:=fG)
 rw[Ac a1,Ac a2]
 by_cases d5:x.dst=5
 ·rw[Ad d5]
  have d6: ¬x.dst=6:=by omega
  by_cases b1:x.src<3
  ·rw[Ac (fun h=>by omega)]
   rw[wo]
   by_cases m1:x.metric<0
   ·rw[Ad m1]
    refine gvC (F:=fG) ?_
    repeat' ((conv=>whnf);first|refine bj d5 ?_|refine aY d6 ?_|refine au ?_|(refine ae ?_ ?_<;>intro h))
    refine ag ?_;rfl
   by_cases m2:16777216<x.metric
   ·rw[Ac m1,Ad m2]
    refine gvC (F:=fG) ?_
    repeat' ((conv=>whnf);first|refine bj d5 ?_|refine aY d6 ?_|refine au ?_|(refine ae ?_ ?_<;>intro h))
    refine ag ?_;rfl
   rw[Ac m1,Ac m2,hpl]
   by_cases hk:x.pol= []
   ·rw[Al hk,Bool.not_true,BF,Ac (by decide)]
    cases o with
    |none=>
     refine gvC (F:=fG) ?_
     repeat' ((conv=>whnf);first|refine bj d5 ?_|refine aY d6 ?_|refine ql hk ?_|refine au ?_|(refine ae ?_ ?_<;>intro h))
     refine ag ?_;rfl
    |some v=>
     refine gvC (F:=fG) ?_
     repeat' ((conv=>whnf);first|refine bj d5 ?_|refine aY d6 ?_|refine ql hk ?_|refine au ?_|(refine ae ?_ ?_<;>intro h))
     refine ag ?_;rfl
   rw[An hk,Bool.not_false,BK];cases o with
   |none=>
    rw[Ad (by rfl)]
    refine gvC (F:=fG) ?_
    repeat' ((conv=>whnf);first|refine bj d5 ?_|refine aY d6 ?_|refine gy hk ?_|refine au ?_|(refine ae ?_ ?_<;>intro h))
    refine ag ?_;rfl
   |some v=>
    rw[Ac (by simp)]
    refine gvC (F:=fG) ?_
    repeat' ((conv=>whnf);first|refine bj d5 ?_|refine aY d6 ?_|refine gy hk ?_|refine au ?_|(refine ae ?_ ?_<;>intro h))
    refine ag ?_;rfl
  by_cases b2:5<x.src
  ·rw[Ac (fun h=>by omega)]
   rw[wo]
   by_cases m1:x.metric<0
   ·rw[Ad m1]
    refine gvC (F:=fG) ?_
    repeat' ((conv=>whnf);first|refine bj d5 ?_|refine aY d6 ?_|refine au ?_|(refine ae ?_ ?_<;>intro h))
    refine ag ?_;rfl
   by_cases m2:16777216<x.metric
   ·rw[Ac m1,Ad m2]
    refine gvC (F:=fG) ?_
    repeat' ((conv=>whnf);first|refine bj d5 ?_|refine aY d6 ?_|refine au ?_|(refine ae ?_ ?_<;>intro h))
    refine ag ?_;rfl
   rw[Ac m1,Ac m2,hpl]
   by_cases hk:x.pol= []
   ·rw[Al hk,Bool.not_true,BF,Ac (by decide)]
    cases o with
    |none=>
     refine gvC (F:=fG) ?_
     repeat' ((conv=>whnf);first|refine bj d5 ?_|refine aY d6 ?_|refine ql hk ?_|refine au ?_|(refine ae ?_ ?_<;>intro h))
     refine ag ?_;rfl
    |some v=>
     refine gvC (F:=fG) ?_
     repeat' ((conv=>whnf);first|refine bj d5 ?_|refine aY d6 ?_|refine ql hk ?_|refine au ?_|(refine ae ?_ ?_<;>intro h))
     refine ag ?_;rfl
   rw[An hk,Bool.not_false,BK];cases o with
   |none=>
    rw[Ad (by rfl)]
    refine gvC (F:=fG) ?_
    repeat' ((conv=>whnf);first|refine bj d5 ?_|refine aY d6 ?_|refine gy hk ?_|refine au ?_|(refine ae ?_ ?_<;>intro h))
    refine ag ?_;rfl
   |some v=>
    rw[Ac (by simp)]
    refine gvC (F:=fG) ?_
    repeat' ((conv=>whnf);first|refine bj d5 ?_|refine aY d6 ?_|refine gy hk ?_|refine au ?_|(refine ae ?_ ?_<;>intro h))
    refine ag ?_;rfl
  rw[Ad ⟨by omega,by omega⟩]
  refine gvC (F:=fG) ?_
  repeat' ((conv=>whnf);first|refine bj d5 ?_|refine aY d6 ?_|refine au ?_|(refine ae ?_ ?_<;>intro h))
  refine ag ?_;rfl
 rw[Ac d5]
 by_cases d6:x.dst=6
 ·rw[Ad d6]
  by_cases b1:x.src=6
  ·rw[Ad (Or.inl b1)]
   refine gvC (F:=fG) ?_
   repeat' ((conv=>whnf);first|refine bj b1 ?_|refine aY d5 ?_|refine bj d6 ?_|refine au ?_|(refine ae ?_ ?_<;>intro h))
   refine ag ?_;rfl
  by_cases b2:x.src=7
  ·rw[Ad (Or.inr b2)]
   refine gvC (F:=fG) ?_
   repeat' ((conv=>whnf);first|refine aY b1 ?_|refine bj b2 ?_|refine aY d5 ?_|refine bj d6 ?_|refine au ?_|(refine ae ?_ ?_<;>intro h))
   refine ag ?_;rfl
  rw[Ac (fun h=>by omega)]
  rw[wo]
  by_cases m1:x.metric<0
  ·rw[Ad m1]
   refine gvC (F:=fG) ?_
   repeat' ((conv=>whnf);first|refine aY b1 ?_|refine aY b2 ?_|refine aY d5 ?_|refine bj d6 ?_|refine au ?_|(refine ae ?_ ?_<;>intro h))
   refine ag ?_;rfl
  by_cases m2:16777216<x.metric
  ·rw[Ac m1,Ad m2]
   refine gvC (F:=fG) ?_
   repeat' ((conv=>whnf);first|refine aY b1 ?_|refine aY b2 ?_|refine aY d5 ?_|refine bj d6 ?_|refine au ?_|(refine ae ?_ ?_<;>intro h))
   refine ag ?_;rfl
  rw[Ac m1,Ac m2,hpl]
  by_cases hk:x.pol= []
  ·rw[Al hk,Bool.not_true,BF,Ac (by decide)]
   cases o with
   |none=>
    refine gvC (F:=fG) ?_
    repeat' ((conv=>whnf);first|refine aY b1 ?_|refine aY b2 ?_|refine aY d5 ?_|refine bj d6 ?_|refine ql hk ?_|refine au ?_|(refine ae ?_ ?_<;>intro h))
    refine ag ?_;rfl
   |some v=>
    refine gvC (F:=fG) ?_
    repeat' ((conv=>whnf);first|refine aY b1 ?_|refine aY b2 ?_|refine aY d5 ?_|refine bj d6 ?_|refine ql hk ?_|refine au ?_|(refine ae ?_ ?_<;>intro h))
    refine ag ?_;rfl
  rw[An hk,Bool.not_false,BK];cases o with
  |none=>
   rw[Ad (by rfl)]
   refine gvC (F:=fG) ?_
   repeat' ((conv=>whnf);first|refine aY b1 ?_|refine aY b2 ?_|refine aY d5 ?_|refine bj d6 ?_|refine gy hk ?_|refine au ?_|(refine ae ?_ ?_<;>intro h))
   refine ag ?_;rfl
  |some v=>
   rw[Ac (by simp)]
   refine gvC (F:=fG) ?_
   repeat' ((conv=>whnf);first|refine aY b1 ?_|refine aY b2 ?_|refine aY d5 ?_|refine bj d6 ?_|refine gy hk ?_|refine au ?_|(refine ae ?_ ?_<;>intro h))
   refine ag ?_;rfl
 rw[Ac d6];refine gvC (F:=fG) ?_
 repeat' ((conv=>whnf);first|refine aY d5 ?_|refine aY d6 ?_|refine au ?_|(refine ae ?_ ?_<;>intro h))
 refine ag ?_;rfl
theorem yD (s:PSet)(g:s.good)(l:List Red)(hl:l.length<2^40): ∀(rest done:List Red)(T:TV)(H:aw)(c:Nat)(n:Int)(e:l=done++rest)(hn:n=done.length),
  Ev G ⟨Zm,⟨(19,.int .i64 n)::(2,.ref 66 1 0)::(17,.sl 5 (l.map Red.enc))::(18,.int .i64 l.length)::T,(66,some (1,.cells s.enc))::H,c⟩,[.t 4],0⟩ ⟨.int .i64 (ba (tg s) rest),[]⟩
 | [],done,T,H,c,n,e,hn=>by
  have hd:=md0 e;refine evA ?_;refine ag ?_;rfl
 |x::r,done,T,H,c,n,e,hn=>by
  have hd:=md e;have m1:=ml l Red.enc;have hx:=mx Red.enc e hn;have h1:=IM s g x;rw[ba]
  by_cases h0:tg s x=0
  ·rw[Ad h0]
   rw[h0] at h1;refine evA ?_;refine ab [19,2,17,18] [66] ?_;exact yD s g l hl r (done++[x]) _ _ _ (n+1) (by simp[e]) (by simp[hn])
  ·rw[Ac h0]
   generalize tg s x=E at*;refine evl ?_
   repeat' ((conv=>whnf);first|refine bh h0 ?_|refine au ?_|(refine ae ?_ ?_<;>intro h))
   refine ag ?_;rfl
theorem KA (s:PSet)(g:s.good)(k0:s.prefixes.length<2^30)(k1:s.paths.length<2^30)(k2:s.comms.length<2^30)(k3:s.pols.length<2^30)(l:List Red)(hl:l.length<2^40):ah G 439 [.agg s.enc,.sl 5 (l.map Red.enc)] [] ⟨.int .i64 (lW s l),[]⟩:=by
 have h1:=lj s g k0 k1 k2 k3;have m1:=ml l Red.enc;rw[lW]
 by_cases a:ca s=0
 ·rw[Ad a]
  rw[a] at h1
  by_cases b:64<l.length
  ·rw[Ad b]
   have b':(l.length:Int)>64:=by omega
   refine gvC (F:=Dk) ?_
   repeat' ((conv=>whnf);first|refine bb rfl ?_|refine au ?_|(refine ae ?_ ?_<;>intro h))
   refine ag ?_;rfl
  rw[Ac b];have b': ¬(l.length:Int)>64:=by omega
  refine gvC (F:=Dk) ?_
  repeat' ((conv=>whnf);first|refine bb rfl ?_|refine au ?_|(refine ae ?_ ?_<;>intro h))
  refine ab [19,2,17,18] [66] ?_;rw[m1];exact yD s g l hl l [] _ _ _ 0 rfl rfl
 ·rw[Ac a]
  generalize ca s=E at*;refine gvC (F:=Dk) ?_
  repeat' ((conv=>whnf);first|refine bh a ?_|refine au ?_|(refine ae ?_ ?_<;>intro h))
  refine ag ?_;rfl
end Go.AM.IR
namespace Go.AM.IR
theorem mC (s:List UInt8)(hs:s.length<2^40): ∀(rest done:List UInt8)(T:TV)(H:aw)(c:Nat)(n:Int)(e:s=done++rest)(hn:n=done.length),
  Ev G ⟨ac6,⟨(7,.int .i64 n)::(0,.str s)::(6,.int .i64 s.length)::T,H,c⟩,[.t 2],0⟩ ⟨.bool (rest.all dX&&(decide (1≤s.length)&&decide ((s.length:Int)≤32))),[]⟩
 | [],done,T,H,c,n,e,hn=>by
  have hd:=md0 e
  by_cases h1:1≤s.length
  ·rw[Al h1]
   refine evA ?_;refine ag ?_;rfl
  ·rw[An h1]
   refine evA ?_;refine ag ?_;rfl
 |x::rest,done,T,H,c,n,e,hn=>by
  have hd:=md e;have hb:=idx_at e hn;rw[List.all_cons]
  by_cases h0:x.toNat<45
  ·have hc:dX x=false:=by unfold dX;simp;omega
   rw[hc,BF,BF];refine evl ?_
   repeat' (first|refine cg ?_|(refine ae ?_ ?_<;>intro h))
   refine ag ?_;rfl
  by_cases h1:x.toNat=45
  ·have hc:dX x=true:=by unfold dX;simp;omega
   rw[hc,BK];refine evl ?_
   repeat' (first|refine cg ?_|(refine ae ?_ ?_<;>intro h))
   refine ab [7,0,6] [] ?_;exact mC s hs rest (done++[x]) _ _ _ (n+1) (by simp[e]) (by simp[hn])
  by_cases h2:x.toNat<48
  ·have hc:dX x=false:=by unfold dX;simp;omega
   rw[hc,BF,BF];refine evl ?_
   repeat' (first|refine cg ?_|(refine ae ?_ ?_<;>intro h))
   refine ag ?_;rfl
  by_cases h3:x.toNat≤57
  ·have hc:dX x=true:=by unfold dX;simp;omega
   rw[hc,BK];refine evl ?_
   repeat' (first|refine cg ?_|(refine ae ?_ ?_<;>intro h))
   refine ab [7,0,6] [] ?_;exact mC s hs rest (done++[x]) _ _ _ (n+1) (by simp[e]) (by simp[hn])
  by_cases h4:x.toNat<97
  ·have hc:dX x=false:=by unfold dX;simp;omega
   rw[hc,BF,BF];refine evl ?_
   repeat' (first|refine cg ?_|(refine ae ?_ ?_<;>intro h))
   refine ag ?_;rfl
  by_cases h5:x.toNat≤122
  ·have hc:dX x=true:=by unfold dX;simp;omega
   rw[hc,BK];refine evl ?_
   repeat' (first|refine cg ?_|(refine ae ?_ ?_<;>intro h))
   refine ab [7,0,6] [] ?_;exact mC s hs rest (done++[x]) _ _ _ (n+1) (by simp[e]) (by simp[hn])
  have hc:dX x=false:=by unfold dX;simp;omega
  rw[hc,BF,BF];refine evl ?_
  repeat' (first|refine cg ?_|(refine ae ?_ ?_<;>intro h))
  refine ag ?_;rfl
theorem Mh (s:List UInt8)(hs:s.length<2^40):ah G 436 [.str s] [] ⟨.bool (tw s),[]⟩:=by
 refine gvB (F:=Wh) ?_;refine ab [7,0,6] [] ?_;exact mC s hs s [] _ _ _ 0 rfl rfl
def dsB (x:Int):Bool:=decide (x<0)||decide (255<x)
theorem S4 (q:RConf): ∀l,dsF q l=if l.any dsB=true then 1 else d7E q
 | []=>by simp[dsF]
 |x::r=>by
  rw[dsF,S4 q r,AN,dsB]
  by_cases a:x<0
  ·simp[a]
  ·by_cases b:255<x
   ·simp[a,b]
   ·simp[a,b]
theorem uh (q:RConf)(hl:q.dists.length<2^40): ∀(rest done:List Int)(T:TV)(H:aw)(c:Nat)(n:Int)(e:q.dists=done++rest)(hn:n=done.length),
  Ev G ⟨Zl,⟨(42,.int .i64 n)::(40,.sl 1 (q.dists.map bT))::(41,.int .i64 q.dists.length)::T,H,c⟩,[.t 2],0⟩ ⟨.int .i64 (if rest.any dsB=true then 1 else 0),[]⟩
 | [],done,T,H,c,n,e,hn=>by
  have hd:=md0 e;refine evA ?_;refine ag ?_;rfl
 |x::r,done,T,H,c,n,e,hn=>by
  have hd:=md e;have m1:=ml q.dists bT;have hx:=mx bT e hn
  by_cases a:x<0
  ·rw[Ad (by simp[dsB,a])]
   refine evA ?_;refine ag ?_;rfl
  by_cases b:255<x
  ·rw[Ad (by simp[dsB,b])]
   refine evA ?_;refine ag ?_;rfl
  rw[show (x::r).any dsB=r.any dsB from by simp[dsB,a,b]]
  refine evA ?_;refine ab [42,40,41] [] ?_;exact uh q hl r (done++[x]) _ _ _ (n+1) (by simp[e]) (by simp[hn])
theorem Kh (q:RConf)(hl:q.dists.length<2^40)(hs:q.stat.length<2^40)(hok: ∀x∈q.stat,x.ok): ∀(rest done:List Stat)(T:TV)(H:aw)(c:Nat)(n:Int)(e:q.stat=done++rest)(hn:n=done.length),
  Ev G ⟨ac5,⟨(10,.int .i64 n)::(8,.sl 4 (q.stat.map Stat.enc))::(1,.ref 65 1 0)::(9,.int .i64 q.stat.length)::T,(65,some (1,.cells q.enc))::H,c⟩,[.t 2],0⟩ ⟨.int .i64 (stF q rest),[]⟩
 | [],done,T,H,c,n,e,hn=>by
  have hd:=md0 e;have m1:=ml q.dists bT;rw[stF,S4,d7E]
  by_cases a:(q.dists.length:Int)=0
  ·have a':q.dists.length=0:=by omega
   rw[Ad a'];refine evl ?_
   repeat' ((conv=>whnf);first|refine bb a ?_|refine au ?_|(refine ae ?_ ?_<;>intro h))
   refine ab [42,40,41] [] ?_;rw[m1];exact uh q hl q.dists [] _ _ _ 0 rfl rfl
  by_cases b:(q.dists.length:Int)=7
  ·rw[Ac (show¬q.dists.length=0 by omega),Ad (show q.dists.length=7 by omega)]
   have b0:(q.dists.length:Int)=7:=b;refine evl ?_
   repeat' ((conv=>whnf);first|refine bh a ?_|refine bb b ?_|refine au ?_|(refine ae ?_ ?_<;>intro h))
   refine ab [42,40,41] [] ?_;rw[m1];exact uh q hl q.dists [] _ _ _ 0 rfl rfl
  ·rw[show (if q.dists.length=0 then 0 else if q.dists.length=7 then 0 else 1:Int)=1 from by rw[Ac (by omega),Ac (by omega)],ite_self]
   refine evl ?_
   repeat' ((conv=>whnf);first|refine bh a ?_|refine bh b ?_|refine au ?_|(refine ae ?_ ?_<;>intro h))
   refine ag ?_;rfl
 |x::r,done,T,H,c,n,e,hn=>by
  have hd:=md e;have m1:=ml q.stat Stat.enc;have hx:=mx Stat.enc e hn;have f1:ah G 178 [.agg [.int .u32 x.pfx.addr,.int .i64 x.pfx.len]] [] ⟨.bool (aW x.pfx),[]⟩:=dZ x.pfx (hok x (by simp[e])).1
  rw[stF];cases vx:aW x.pfx with
  |false=>
   rw[vx] at f1;rw[Ad rfl];refine evA ?_;refine ag ?_;rfl
  |true=>
  rw[vx] at f1;rw[Ac (by simp)]
  by_cases a:x.dist<0
  ·rw[Ad a]
   refine evA ?_;refine ag ?_;rfl
  by_cases b:255<x.dist
  ·rw[Ac a,Ad b]
   refine evA ?_;refine ag ?_;rfl
  rw[Ac a,Ac b];refine evA ?_;refine ab [10,8,1,9] [65] ?_;exact Kh q hl hs hok r (done++[x]) _ _ _ (n+1) (by simp[e]) (by simp[hn])
theorem Qt (q:RConf)(hl:q.dists.length<2^40)(hs:q.stat.length<2^40)(hok: ∀x∈q.stat,x.ok):ah G 440 [.agg q.enc] [] ⟨.int .i64 (stF q q.stat),[]⟩:=by
 have m1:=ml q.stat Stat.enc;refine gvB (F:=NG) ?_;refine ab [10,8,1,9] [65] ?_;rw[m1];exact Kh q hl hs hok q.stat [] _ _ _ 0 rfl rfl
def wg (q:RConf):Int:=if q.hasPV=false then (if ca q.pv.pols=0 then 0 else 1) else if pvE q.pv=0 then (if q.pv.router=q.ls.router then 0 else 14) else pvE q.pv
theorem Kl (q:RConf)(g:q.pv.good)(k0:q.pv.pols.prefixes.length<2^30)(k1:q.pv.pols.paths.length<2^30)(k2:q.pv.pols.comms.length<2^30)(k3:q.pv.pols.pols.length<2^30):ah G 438 [.agg q.enc] [] ⟨.int .i64 (wg q),[]⟩:=by
 have h1:=lj q.pv.pols g.pols k0 k1 k2 k3;have h2:=Qz q.pv g k0 k1 k2 k3;rw[wg];cases hb:q.hasPV with
 |false=>
  rw[Ad rfl]
  by_cases a:ca q.pv.pols=0
  ·rw[Ad a]
   rw[a] at h1;refine gvC (F:=xo) ?_
   repeat' ((conv=>whnf);first|refine bb rfl ?_|refine au ?_|(refine ae ?_ ?_<;>intro h))
   all_goals try (exfalso;simp_all only[A4,Bool.true_eq_false,Bool.not_true,Bool.not_false,not_true_eq_false];done)
   all_goals (refine ag ?_;rfl)
  ·rw[Ac a]
   generalize ca q.pv.pols=E at*;refine gvC (F:=xo) ?_
   repeat' ((conv=>whnf);first|refine bh a ?_|refine au ?_|(refine ae ?_ ?_<;>intro h))
   all_goals try (exfalso;simp_all only[A4,Bool.true_eq_false,Bool.not_true,Bool.not_false,not_true_eq_false];done)
   all_goals (refine ag ?_;rfl)
 |true=>
  rw[Ac (by simp)]
  by_cases a:pvE q.pv=0
  ·rw[Ad a]
   rw[a] at h2
   by_cases e:q.pv.router=q.ls.router
   ·rw[Ad e]
    refine gvC (F:=xo) ?_
    repeat' ((conv=>whnf);first|refine bb e ?_|refine bb rfl ?_|refine au ?_|(refine ae ?_ ?_<;>intro h))
    all_goals try (exfalso;simp_all only[A4,Bool.true_eq_false,Bool.not_true,Bool.not_false,not_true_eq_false];done)
    all_goals (refine ag ?_;rfl)
   ·rw[Ac e]
    refine gvC (F:=xo) ?_
    repeat' ((conv=>whnf);first|refine bh e ?_|refine bb rfl ?_|refine au ?_|(refine ae ?_ ?_<;>intro h))
    all_goals try (exfalso;simp_all only[A4,Bool.true_eq_false,Bool.not_true,Bool.not_false,not_true_eq_false];done)
    all_goals (refine ag ?_;rfl)
  ·rw[Ac a]
   generalize pvE q.pv=E at*;refine gvC (F:=xo) ?_
   repeat' ((conv=>whnf);first|refine bh a ?_|refine au ?_|(refine ae ?_ ?_<;>intro h))
   all_goals try (exfalso;simp_all only[A4,Bool.true_eq_false,Bool.not_true,Bool.not_false,not_true_eq_false];done)
   all_goals (refine ag ?_;rfl)
end Go.AM.IR
