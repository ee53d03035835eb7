/- What the functions of this program give, on the abstract machine. -/
import Derived.Test.YtcmipbleijmpjaaGreatDoorDataB
import Derived.Test.YtcmipbleijmpjaaGreatDoorDataA
set_option linter.unusedVariables false
set_option linter.unusedSimpArgs false
set_option maxHeartbeats 4000000
set_option maxRecDepth 20000
namespace Go.AM.IR
def jt:List RConf→List UInt8→Bool
 | [],_=>false
 |c::r,k=>if c.name=k then true else jt r k
def fm:List RConf→List UInt8→Int→Int
 | [],_,_=>0
 |c::r,k,n=>if c.name=k then n else fm r k (n+1)
section
variable {kv:AV→Prop}
end
theorem r5 (l:List RConf) (k:List UInt8) (t:Topo) (hl1:t.routers=l) (hl:l.length<2^40) (ln:Int) (hln:ln=l.length): ∀(rest done:List RConf)  (T:List (Nat×AV)) (H:ax) (c:Nat) (n:Int) (e:l=done++rest) (hn:n=done.length),Ev G ⟨YQ,⟨(8,.sl 25 (l.map RConf.enc))::(9,.int .i64 ln)::(10,.int .i64 n)::(1,.str k)::(2,.ref 66 1 0)::T,(66,some (1,.cells t.enc))::H,c⟩,[.t 4,.t 5],0⟩ (⟨.tup [.int .i64 (fm rest k n),.bool (jt rest k)],[]⟩)
 | [],done,  T,H,c,n,e,hn=>by
  have hd:l.length=done.length:=by simp[e]
  have hll:(l.map RConf.enc).length=l.length:=by simp
  refine evl ?_
  repeat' (first|refine ae ?_|(refine aa ?_ ?_<;>intro h))
  refine ag ?_;rfl
 |x::r,done,  T,H,c,n,e,hn=>by
  have hd:l.length=done.length+(r.length+1):=by simp[e]
  have hll:(l.map RConf.enc).length=l.length:=by simp
  have hx:(l.map RConf.enc)[n.toNat]? =some (RConf.enc x):=by simp[e,hn]
  have hy:(t.routers.map RConf.enc)[n.toNat]? =some x.enc:=by rw[hl1];exact hx
  have hm:(t.routers.map RConf.enc).length=l.length:=by simp[hl1]
  by_cases hk:x.name=k
  ·refine evl ?_
   repeat' (first|refine cg ?_|(refine aa ?_ ?_<;>intro h))
   refine ag ?_
   simp[fm,jt,hk]
  ·refine evl ?_
   repeat' (first|refine cg ?_|(refine aa ?_ ?_<;>intro h))
   rw[show fm (x::r) k n=fm r k (n+1) from by simp[fm,hk],show jt (x::r) k=jt r k from by simp[jt,hk]]
   refine ah [8,9,10,1,2] [66] ?_;exact r5 l k t hl1 hl ln hln r (done++[x])  _ _ _ (n+1) (by simp[e]) (by simp[hn]<;>omega)
theorem DH (t:Topo) (ht:t.routers.length<2^40) (k:List UInt8):aq G 387 [.agg t.enc,.str k] [] ⟨.tup [.int .i64 (fm t.routers k 0),.bool (jt t.routers k)],[]⟩:=by
 have hll:(t.routers.map RConf.enc).length=t.routers.length:=by simp
 refine ab (F:=YT) rfl rfl (am 300 _ _ _ _ ?_)
 repeat' (first|refine ae ?_|(refine aa ?_ ?_<;>intro h))
 refine ah [8,9,10,1,2] [66] ?_
 rw[hll]
 exact r5 t.routers k t rfl ht _ rfl t.routers [] _ _ _ 0 rfl rfl
end Go.AM.IR
namespace Go.AM.IR
def cY {α:Type} (f:α→Nat):List α→Nat
 | []=>0
 |x::r=>f x+cY f r
def t6 (t:Trm):Nat:=t.mats.length+t.acts.length
def qg (p:Pol):Nat:=p.terms.length+cY t6 p.terms
def i8 (s:PSet):Nat:=s.prefixes.length+s.paths.length+s.comms.length+s.pols.length+cY (fun p=>p.rules.length) s.prefixes+cY (fun p=>p.rules.length) s.paths+cY (fun p=>p.rules.length) s.comms+cY qg s.pols
theorem Aq (l:List Trm) (P:List (List AV)) (j ln2:Int) (tot:Int) (htot:tot<2^40) (hj:0≤j∧j<2^50) (R:Ret) (go: ∀(T:List (Nat×AV)) (H:ax) (c:Nat),Ev G ⟨BZ,⟨(69,.sl 3 P)::(70,.int .i64 ln2)::(71,.int .i64 (j+1))::(3,.int .i64 tot)::T,H,c⟩,[.t 2],0⟩ R) (hl:l.length<2^40) (ln:Int) (hln:ln=l.length): ∀(rest done:List Trm) (a:Int) (T:List (Nat×AV)) (H:ax) (c:Nat) (n:Int) (e:l=done++rest) (hn:n=done.length) (ha:a+((cY t6 rest:Nat):Int)=tot) (h0:0≤a),Ev G ⟨Tr,⟨(81,.sl 4 (l.map Trm.enc))::(82,.int .i64 ln)::(83,.int .i64 n)::(3,.int .i64 a)::(69,.sl 3 P)::(70,.int .i64 ln2)::(71,.int .i64 j)::T,H,c⟩,[.t 2],0⟩ R
 | [],done,a,T,H,c,n,e,hn,ha,h0=>by
  have hd:l.length=done.length:=by simp[e]
  have hll:(l.map Trm.enc).length=l.length:=by simp
  obtain rfl:a=tot:=by simp only[cY] at ha;omega
  refine evl ?_
  repeat' (first|refine ae ?_|(refine aa ?_ ?_<;>intro h))
  refine ah [69,70,71,3] [] ?_
  exact go _ _ _
 |x::r,done,a,T,H,c,n,e,hn,ha,h0=>by
  have hd:l.length=done.length+(r.length+1):=by simp[e]
  have hll:(l.map Trm.enc).length=l.length:=by simp
  have hx:(l.map Trm.enc)[n.toNat]? =some (Trm.enc x):=by simp[e,hn]
  have m1:(x.mats.map Mat.enc).length=x.mats.length:=by simp
  have m2:(x.acts.map Actn.enc).length=x.acts.length:=by simp
  simp only[cY,t6] at ha
  refine evl ?_
  repeat' (first|refine ae ?_|(refine aa ?_ ?_<;>intro h))
  refine ah [81,82,83,3,69,70,71] [] ?_;exact Aq l P j ln2 tot htot hj R go hl ln hln r (done++[x]) (a+(((x.mats.map Mat.enc).length:Int)+((x.acts.map Actn.enc).length:Int))) _ _ _ (n+1) (by simp[e]) (by simp[hn]<;>omega) (by rw[←ha,m1,m2];omega) (by omega)
theorem Am (l:List Pol) (tot:Int) (htot:tot<2^40) (hl:l.length<2^40) (ln:Int) (hln:ln=l.length): ∀(rest done:List Pol) (a:Int) (T:List (Nat×AV)) (H:ax) (c:Nat) (n:Int) (e:l=done++rest) (hn:n=done.length) (ha:a+((cY qg rest:Nat):Int)=tot) (h0:0≤a),Ev G ⟨BZ,⟨(69,.sl 3 (l.map Pol.enc))::(70,.int .i64 ln)::(71,.int .i64 n)::(3,.int .i64 a)::T,H,c⟩,[.t 2],0⟩ (⟨.int .i64 tot,[]⟩)
 | [],done,a,T,H,c,n,e,hn,ha,h0=>by
  have hd:l.length=done.length:=by simp[e]
  have hll:(l.map Pol.enc).length=l.length:=by simp
  obtain rfl:a=tot:=by simp only[cY] at ha;omega
  refine evl ?_
  repeat' (first|refine ae ?_|(refine aa ?_ ?_<;>intro h))
  refine ag ?_;rfl
 |x::r,done,a,T,H,c,n,e,hn,ha,h0=>by
  have hd:l.length=done.length+(r.length+1):=by simp[e]
  have hll:(l.map Pol.enc).length=l.length:=by simp
  have hx:(l.map Pol.enc)[n.toNat]? =some (Pol.enc x):=by simp[e,hn]
  have m1:(x.terms.map Trm.enc).length=x.terms.length:=by simp
  simp only[cY,qg] at ha
  refine evl ?_
  repeat' (first|refine ae ?_|(refine aa ?_ ?_<;>intro h))
  refine ah [81,82,83,3,69,70,71] [] ?_
  rw[m1]
  exact Aq x.terms (l.map Pol.enc) n ln (a+x.terms.length+((cY t6 x.terms:Nat):Int)) (by omega) (by omega) _ (fun T H c=>Am l tot htot hl ln hln r (done++[x]) (a+x.terms.length+((cY t6 x.terms:Nat):Int)) T H c (n+1) (by simp[e]) (by simp[hn]<;>omega) (by omega) (by omega)) (by omega) _ rfl x.terms [] (a+x.terms.length) _ _ _ 0 rfl rfl rfl (by omega)
theorem wg (l:List ComL) (s:PSet) (hl1:s.comms=l) (tot:Int) (htot:tot<2^40) (hsz:s.pols.length<2^40∧s.comms.length<2^40∧s.paths.length<2^40) (hl:l.length<2^40) (ln:Int) (hln:ln=l.length): ∀(rest done:List ComL) (a:Int) (T:List (Nat×AV)) (H:ax) (c:Nat) (n:Int) (e:l=done++rest) (hn:n=done.length) (ha:a+((cY (fun p=>p.rules.length) rest+(cY qg s.pols):Nat):Int)=tot) (h0:0≤a),Ev G ⟨Tu,⟨(56,.sl 2 (l.map ComL.enc))::(57,.int .i64 ln)::(58,.int .i64 n)::(3,.int .i64 a)::(1,.ref 65 1 0)::T,(65,some (1,.cells s.enc))::H,c⟩,[.t 2],0⟩ (⟨.int .i64 tot,[]⟩)
 | [],done,a,T,H,c,n,e,hn,ha,h0=>by
  have hd:l.length=done.length:=by simp[e]
  have hll:(l.map ComL.enc).length=l.length:=by simp
  have m1:(s.pols.map Pol.enc).length=s.pols.length:=by simp
  refine evl ?_
  repeat' (first|refine ae ?_|(refine aa ?_ ?_<;>intro h))
  refine ah [69,70,71,3] [] ?_
  rw[m1]
  exact Am s.pols tot htot (by omega) _ rfl s.pols [] a _ _ _ 0 rfl rfl (by simp only[cY] at ha;omega) h0
 |x::r,done,a,T,H,c,n,e,hn,ha,h0=>by
  have hd:l.length=done.length+(r.length+1):=by simp[e]
  have hll:(l.map ComL.enc).length=l.length:=by simp
  have hx:(l.map ComL.enc)[n.toNat]? =some (ComL.enc x):=by simp[e,hn]
  have m1:(x.rules.map ComR.enc).length=x.rules.length:=by simp
  simp only[cY] at ha
  refine evl ?_
  repeat' (first|refine ae ?_|(refine aa ?_ ?_<;>intro h))
  refine ah [56,57,58,3,1] [65] ?_;exact wg l s hl1 tot htot hsz hl ln hln r (done++[x]) (a+((x.rules.map ComR.enc).length:Int)) _ _ _ (n+1) (by simp[e]) (by simp[hn]<;>omega) (by rw[←ha,m1];omega) (by omega)
theorem wh (l:List PathL) (s:PSet) (hl1:s.paths=l) (tot:Int) (htot:tot<2^40) (hsz:s.pols.length<2^40∧s.comms.length<2^40∧s.paths.length<2^40) (hl:l.length<2^40) (ln:Int) (hln:ln=l.length): ∀(rest done:List PathL) (a:Int) (T:List (Nat×AV)) (H:ax) (c:Nat) (n:Int) (e:l=done++rest) (hn:n=done.length) (ha:a+((cY (fun p=>p.rules.length) rest+(cY (fun p=>p.rules.length) s.comms+cY qg s.pols):Nat):Int)=tot) (h0:0≤a),Ev G ⟨Tv,⟨(43,.sl 2 (l.map PathL.enc))::(44,.int .i64 ln)::(45,.int .i64 n)::(3,.int .i64 a)::(1,.ref 65 1 0)::T,(65,some (1,.cells s.enc))::H,c⟩,[.t 2],0⟩ (⟨.int .i64 tot,[]⟩)
 | [],done,a,T,H,c,n,e,hn,ha,h0=>by
  have hd:l.length=done.length:=by simp[e]
  have hll:(l.map PathL.enc).length=l.length:=by simp
  have m1:(s.comms.map ComL.enc).length=s.comms.length:=by simp
  refine evl ?_
  repeat' (first|refine ae ?_|(refine aa ?_ ?_<;>intro h))
  refine ah [56,57,58,3,1] [65] ?_
  rw[m1]
  exact wg s.comms s rfl tot htot hsz (by omega) _ rfl s.comms [] a _ _ _ 0 rfl rfl (by simp only[cY] at ha;omega) h0
 |x::r,done,a,T,H,c,n,e,hn,ha,h0=>by
  have hd:l.length=done.length+(r.length+1):=by simp[e]
  have hll:(l.map PathL.enc).length=l.length:=by simp
  have hx:(l.map PathL.enc)[n.toNat]? =some (PathL.enc x):=by simp[e,hn]
  have m1:(x.rules.map PathR.enc).length=x.rules.length:=by simp
  simp only[cY] at ha
  refine evl ?_
  repeat' (first|refine ae ?_|(refine aa ?_ ?_<;>intro h))
  refine ah [43,44,45,3,1] [65] ?_;exact wh l s hl1 tot htot hsz hl ln hln r (done++[x]) (a+((x.rules.map PathR.enc).length:Int)) _ _ _ (n+1) (by simp[e]) (by simp[hn]<;>omega) (by rw[←ha,m1];omega) (by omega)
theorem Ah (l:List PList) (s:PSet) (hl1:s.prefixes=l) (tot:Int) (htot:tot<2^40) (hsz:s.pols.length<2^40∧s.comms.length<2^40∧s.paths.length<2^40) (hl:l.length<2^40) (ln:Int) (hln:ln=l.length): ∀(rest done:List PList) (a:Int) (T:List (Nat×AV)) (H:ax) (c:Nat) (n:Int) (e:l=done++rest) (hn:n=done.length) (ha:a+((cY (fun p=>p.rules.length) rest+(cY (fun p=>p.rules.length) s.paths+(cY (fun p=>p.rules.length) s.comms+cY qg s.pols)):Nat):Int)=tot) (h0:0≤a),Ev G ⟨YL,⟨(30,.sl 2 (l.map PList.enc))::(31,.int .i64 ln)::(32,.int .i64 n)::(3,.int .i64 a)::(1,.ref 65 1 0)::T,(65,some (1,.cells s.enc))::H,c⟩,[.t 2],0⟩ (⟨.int .i64 tot,[]⟩)
 | [],done,a,T,H,c,n,e,hn,ha,h0=>by
  have hd:l.length=done.length:=by simp[e]
  have hll:(l.map PList.enc).length=l.length:=by simp
  have m1:(s.paths.map PathL.enc).length=s.paths.length:=by simp
  refine evl ?_
  repeat' (first|refine ae ?_|(refine aa ?_ ?_<;>intro h))
  refine ah [43,44,45,3,1] [65] ?_
  rw[m1]
  exact wh s.paths s rfl tot htot hsz (by omega) _ rfl s.paths [] a _ _ _ 0 rfl rfl (by simp only[cY] at ha;omega) h0
 |x::r,done,a,T,H,c,n,e,hn,ha,h0=>by
  have hd:l.length=done.length+(r.length+1):=by simp[e]
  have hll:(l.map PList.enc).length=l.length:=by simp
  have hx:(l.map PList.enc)[n.toNat]? =some (PList.enc x):=by simp[e,hn]
  have m1:(x.rules.map RuleP.enc).length=x.rules.length:=by simp
  simp only[cY] at ha
  refine evl ?_
  repeat' (first|refine ae ?_|(refine aa ?_ ?_<;>intro h))
  refine ah [30,31,32,3,1] [65] ?_;exact Ah l s hl1 tot htot hsz hl ln hln r (done++[x]) (a+((x.rules.map RuleP.enc).length:Int)) _ _ _ (n+1) (by simp[e]) (by simp[hn]<;>omega) (by rw[←ha,m1];omega) (by omega)
theorem Da (s:PSet) (hs:i8 s<2^40):aq G 435 [.agg s.enc] [] ⟨.int .i64 (i8 s:Nat),[]⟩:=by
 have m1:(s.prefixes.map PList.enc).length=s.prefixes.length:=by simp
 have m2:(s.paths.map PathL.enc).length=s.paths.length:=by simp
 have m3:(s.comms.map ComL.enc).length=s.comms.length:=by simp
 have m4:(s.pols.map Pol.enc).length=s.pols.length:=by simp
 have hz:i8 s=s.prefixes.length+s.paths.length+s.comms.length+s.pols.length+cY (fun p=>p.rules.length) s.prefixes+cY (fun p=>p.rules.length) s.paths+cY (fun p=>p.rules.length) s.comms+cY qg s.pols:=rfl
 refine ab (F:=YM) rfl rfl (am 300 _ _ _ _ ?_)
 repeat' (first|refine ae ?_|(refine aa ?_ ?_<;>intro h))
 refine ah [30,31,32,3,1] [65] ?_
 rw[m1,m2,m3,m4]
 exact Ah s.prefixes s rfl (i8 s:Nat) (by omega) (by omega) (by omega) _ rfl s.prefixes [] _ _ _ _ 0 rfl rfl (by rw[hz];omega) (by omega)
end Go.AM.IR
namespace Go.AM.IR
def qz (c:RConf):List PeerC→Bool
 | []=>decide (((i8 c.pv.pols:Nat):Int)≤400)
 |x::r=>if 100<x.imp.length then false else if 100<x.exp.length then false else qz c r
def qB (c:RConf):List Red→Bool
 | []=>qz c c.pv.peers
 |x::r=>if 100<x.pol.length then false else qB c r
def l8 (c:RConf):Bool:=
 if 100<c.name.length then false else if 24<c.ls.ifs.length then false else if 24<c.ls.ranges.length then false else
 if 24<c.redist.length then false else if 24<c.stat.length then false else if 24<c.dists.length then false else
 if 24<c.pv.peers.length then false else if 40<c.pv.nets.length then false else qB c c.redist
def RConf.fit (c:RConf):Prop:=i8 c.pv.pols<2^40∧c.redist.length<2^40∧c.pv.peers.length<2^40
theorem xD (l:List PeerC) (q:RConf) (hl1:q.pv.peers=l) (hz:i8 q.pv.pols<2^40) (hl:l.length<2^40) (ln:Int) (hln:ln=l.length): ∀(rest done:List PeerC)  (T:List (Nat×AV)) (H:ax) (c:Nat) (n:Int) (e:l=done++rest) (hn:n=done.length),Ev G ⟨T6,⟨(70,.sl 11 (l.map PeerC.enc))::(71,.int .i64 ln)::(72,.int .i64 n)::(1,.ref 65 1 0)::T,(65,some (1,.cells q.enc))::H,c⟩,[.t 2],0⟩ (⟨.bool (qz q rest),[]⟩)
 | [],done,  T,H,c,n,e,hn=>by
  have hd:l.length=done.length:=by simp[e]
  have hll:(l.map PeerC.enc).length=l.length:=by simp
  have hs:aq G 435 [.agg [.sl 2 (q.pv.pols.prefixes.map PList.enc),.sl 2 (q.pv.pols.paths.map PathL.enc),.sl 2 (q.pv.pols.comms.map ComL.enc),.sl 3 (q.pv.pols.pols.map Pol.enc)]] [] ⟨.int .i64 (i8 q.pv.pols:Nat),[]⟩:=Da q.pv.pols hz
  refine evl ?_
  repeat' (first|refine ae ?_|(refine aa ?_ ?_<;>intro h))
  refine ag ?_;rfl
 |x::r,done,  T,H,c,n,e,hn=>by
  have hd:l.length=done.length+(r.length+1):=by simp[e]
  have hll:(l.map PeerC.enc).length=l.length:=by simp
  have hx:(l.map PeerC.enc)[n.toNat]? =some (PeerC.enc x):=by simp[e,hn]
  have hy:(q.pv.peers.map PeerC.enc)[n.toNat]? =some x.enc:=by rw[hl1];exact hx
  have hm:(q.pv.peers.map PeerC.enc).length=l.length:=by simp[hl1]
  refine evl ?_
  repeat' (first|refine ae ?_|(refine aa ?_ ?_<;>intro h))
  all_goals try (refine ag ?_;first|rfl|(simp[qz,Bool.cond_eq_ite, *];done)|(simp[qz,Bool.cond_eq_ite, *];omega)|(unfold qz;repeat' split;all_goals first|rfl|(exfalso;omega)|(simp_all;done)|(simp_all;omega)))
  rw[show qz q (x::r)=qz q r from by rw[qz,if_neg (by omega),if_neg (by omega)]]
  refine ah [70,71,72,1] [65] ?_;exact xD l q hl1 hz hl ln hln r (done++[x])  _ _ _ (n+1) (by simp[e]) (by simp[hn]<;>omega)
theorem xG (l:List Red) (q:RConf) (hl1:q.redist=l) (hz:q.fit) (hl:l.length<2^40) (ln:Int) (hln:ln=l.length): ∀(rest done:List Red)  (T:List (Nat×AV)) (H:ax) (c:Nat) (n:Int) (e:l=done++rest) (hn:n=done.length),Ev G ⟨T7,⟨(54,.sl 5 (l.map Red.enc))::(55,.int .i64 ln)::(56,.int .i64 n)::(1,.ref 65 1 0)::T,(65,some (1,.cells q.enc))::H,c⟩,[.t 2],0⟩ (⟨.bool (qB q rest),[]⟩)
 | [],done,  T,H,c,n,e,hn=>by
  have hd:l.length=done.length:=by simp[e]
  have hll:(l.map Red.enc).length=l.length:=by simp
  have m1:(q.pv.peers.map PeerC.enc).length=q.pv.peers.length:=by simp
  refine evl ?_
  repeat' (first|refine ae ?_|(refine aa ?_ ?_<;>intro h))
  refine ah [70,71,72,1] [65] ?_
  rw[m1]
  exact xD q.pv.peers q rfl hz.1 hz.2.2 _ rfl q.pv.peers [] _ _ _ 0 rfl rfl
 |x::r,done,  T,H,c,n,e,hn=>by
  have hd:l.length=done.length+(r.length+1):=by simp[e]
  have hll:(l.map Red.enc).length=l.length:=by simp
  have hx:(l.map Red.enc)[n.toNat]? =some (Red.enc x):=by simp[e,hn]
  have hy:(q.redist.map Red.enc)[n.toNat]? =some x.enc:=by rw[hl1];exact hx
  have hm:(q.redist.map Red.enc).length=l.length:=by simp[hl1]
  refine evl ?_
  repeat' (first|refine ae ?_|(refine aa ?_ ?_<;>intro h))
  all_goals try (refine ag ?_;first|rfl|(simp[qB,Bool.cond_eq_ite, *];done)|(simp[qB,Bool.cond_eq_ite, *];omega)|(unfold qB;repeat' split;all_goals first|rfl|(exfalso;omega)|(simp_all;done)|(simp_all;omega)))
  rw[show qB q (x::r)=qB q r from by rw[qB,if_neg (by omega)]]
  refine ah [54,55,56,1] [65] ?_;exact xG l q hl1 hz hl ln hln r (done++[x])  _ _ _ (n+1) (by simp[e]) (by simp[hn]<;>omega)
theorem Iv (q:RConf) (hz:q.fit):aq G 395 [.agg q.enc] [] ⟨.bool (l8 q),[]⟩:=by
 have m1:(q.ls.ifs.map Ifc.enc).length=q.ls.ifs.length:=by simp
 have m2:(q.ls.ranges.map ARange.enc).length=q.ls.ranges.length:=by simp
 have m3:(q.redist.map Red.enc).length=q.redist.length:=by simp
 have m4:(q.stat.map Stat.enc).length=q.stat.length:=by simp
 have m5:(q.dists.map gC).length=q.dists.length:=by simp
 have m6:(q.pv.peers.map PeerC.enc).length=q.pv.peers.length:=by simp
 have m7:(q.pv.nets.map Pfx.enc).length=q.pv.nets.length:=by simp
 by_cases c1:100<q.name.length
 ·refine ab (F:=nB) rfl rfl (am 300 _ _ _ _ ?_)
  repeat' (first|refine ae ?_|(refine aa ?_ ?_<;>intro h))
  refine ag ?_;rw[l8,if_pos c1]
 by_cases c2:24<q.ls.ifs.length
 ·refine ab (F:=nB) rfl rfl (am 300 _ _ _ _ ?_)
  repeat' (first|refine ae ?_|(refine aa ?_ ?_<;>intro h))
  refine ag ?_;rw[l8,if_neg c1,if_pos c2]
 by_cases c3:24<q.ls.ranges.length
 ·refine ab (F:=nB) rfl rfl (am 300 _ _ _ _ ?_)
  repeat' (first|refine ae ?_|(refine aa ?_ ?_<;>intro h))
  refine ag ?_;rw[l8,if_neg c1,if_neg c2,if_pos c3]
 by_cases c4:24<q.redist.length
 ·refine ab (F:=nB) rfl rfl (am 300 _ _ _ _ ?_)
  repeat' (first|refine ae ?_|(refine aa ?_ ?_<;>intro h))
  refine ag ?_;rw[l8,if_neg c1,if_neg c2,if_neg c3,if_pos c4]
 by_cases c5:24<q.stat.length
 ·refine ab (F:=nB) rfl rfl (am 300 _ _ _ _ ?_)
  repeat' (first|refine ae ?_|(refine aa ?_ ?_<;>intro h))
  refine ag ?_;rw[l8,if_neg c1,if_neg c2,if_neg c3,if_neg c4,if_pos c5]
 by_cases c6:24<q.dists.length
 ·refine ab (F:=nB) rfl rfl (am 300 _ _ _ _ ?_)
  repeat' (first|refine ae ?_|(refine aa ?_ ?_<;>intro h))
  refine ag ?_;rw[l8,if_neg c1,if_neg c2,if_neg c3,if_neg c4,if_neg c5,if_pos c6]
 by_cases c7:24<q.pv.peers.length
 ·refine ab (F:=nB) rfl rfl (am 300 _ _ _ _ ?_)
  repeat' (first|refine ae ?_|(refine aa ?_ ?_<;>intro h))
  refine ag ?_;rw[l8,if_neg c1,if_neg c2,if_neg c3,if_neg c4,if_neg c5,if_neg c6,if_pos c7]
 by_cases c8:40<q.pv.nets.length
 ·refine ab (F:=nB) rfl rfl (am 300 _ _ _ _ ?_)
  repeat' (first|refine ae ?_|(refine aa ?_ ?_<;>intro h))
  refine ag ?_;rw[l8,if_neg c1,if_neg c2,if_neg c3,if_neg c4,if_neg c5,if_neg c6,if_neg c7,if_pos c8]
 rw[l8,if_neg c1,if_neg c2,if_neg c3,if_neg c4,if_neg c5,if_neg c6,if_neg c7,if_neg c8]
 refine ab (F:=nB) rfl rfl (am 300 _ _ _ _ ?_)
 repeat' (first|refine ae ?_|(refine aa ?_ ?_<;>intro h))
 refine ah [54,55,56,1] [65] ?_
 rw[m3]
 exact xG q.redist q rfl hz hz.2.1 _ rfl q.redist [] _ _ _ 0 rfl rfl
def Iw:List Lnk→Bool
 | []=>true
 |x::r=>if 20<x.ends.length then false else Iw r
def qC (ls:List Lnk):List RConf→Bool
 | []=>Iw ls
 |x::r=>if l8 x then qC ls r else false
theorem xF (l:List Lnk) (t:Topo) (hl1:t.links=l) (hl:l.length<2^40) (ln:Int) (hln:ln=l.length): ∀(rest done:List Lnk)  (T:List (Nat×AV)) (H:ax) (c:Nat) (n:Int) (e:l=done++rest) (hn:n=done.length),Ev G ⟨Ud,⟨(54,.sl 2 (l.map Lnk.enc))::(55,.int .i64 ln)::(56,.int .i64 n)::(1,.ref 65 1 0)::T,(65,some (1,.cells t.enc))::H,c⟩,[.t 2],0⟩ (⟨.bool (Iw rest),[]⟩)
 | [],done,  T,H,c,n,e,hn=>by
  have hd:l.length=done.length:=by simp[e]
  have hll:(l.map Lnk.enc).length=l.length:=by simp
  refine evl ?_
  repeat' (first|refine ae ?_|(refine aa ?_ ?_<;>intro h))
  refine ag ?_;rfl
 |x::r,done,  T,H,c,n,e,hn=>by
  have hd:l.length=done.length+(r.length+1):=by simp[e]
  have hll:(l.map Lnk.enc).length=l.length:=by simp
  have hx:(l.map Lnk.enc)[n.toNat]? =some (Lnk.enc x):=by simp[e,hn]
  have hy:(t.links.map Lnk.enc)[n.toNat]? =some x.enc:=by rw[hl1];exact hx
  have hm:(t.links.map Lnk.enc).length=l.length:=by simp[hl1]
  have m1:(x.ends.map LEnd.enc).length=x.ends.length:=by simp
  by_cases h:20<x.ends.length
  ·refine evl ?_
   repeat' (first|refine ae ?_|(refine aa ?_ ?_<;>intro h))
   refine ag ?_;rw[Iw,if_pos h]
  ·rw[Iw,if_neg h]
   refine evl ?_
   repeat' (first|refine ae ?_|(refine aa ?_ ?_<;>intro h))
   refine ah [54,55,56,1] [65] ?_;exact xF l t hl1 hl ln hln r (done++[x])  _ _ _ (n+1) (by simp[e]) (by simp[hn]<;>omega)
theorem lL (l:List RConf) (t:Topo) (hl1:t.routers=l) (hf: ∀x∈l,x.fit) (hk:t.links.length<2^40) (hl:l.length<2^40) (ln:Int) (hln:ln=l.length): ∀(rest done:List RConf)  (T:List (Nat×AV)) (H:ax) (c:Nat) (n:Int) (e:l=done++rest) (hn:n=done.length),Ev G ⟨YV,⟨(40,.sl 25 (l.map RConf.enc))::(41,.int .i64 ln)::(42,.int .i64 n)::(1,.ref 65 1 0)::T,(65,some (1,.cells t.enc))::H,c⟩,[.t 2],0⟩ (⟨.bool (qC t.links rest),[]⟩)
 | [],done,  T,H,c,n,e,hn=>by
  have hd:l.length=done.length:=by simp[e]
  have hll:(l.map RConf.enc).length=l.length:=by simp
  have m1:(t.links.map Lnk.enc).length=t.links.length:=by simp
  refine evl ?_
  repeat' (first|refine ae ?_|(refine aa ?_ ?_<;>intro h))
  refine ah [54,55,56,1] [65] ?_
  rw[m1]
  exact xF t.links t rfl hk _ rfl t.links [] _ _ _ 0 rfl rfl
 |x::r,done,  T,H,c,n,e,hn=>by
  have hd:l.length=done.length+(r.length+1):=by simp[e]
  have hll:(l.map RConf.enc).length=l.length:=by simp
  have hx:(l.map RConf.enc)[n.toNat]? =some (RConf.enc x):=by simp[e,hn]
  have hy:(t.routers.map RConf.enc)[n.toNat]? =some x.enc:=by rw[hl1];exact hx
  have hm:(t.routers.map RConf.enc).length=l.length:=by simp[hl1]
  have h1:=Iv x (hf x (by simp[e]))
  by_cases h:l8 x=true
  ·rw[h] at h1
   rw[qC,if_pos h]
   refine evl ?_
   repeat' (first|refine ae ?_|(refine aa ?_ ?_<;>intro h))
   refine ah [40,41,42,1] [65] ?_;exact lL l t hl1 hf hk hl ln hln r (done++[x])  _ _ _ (n+1) (by simp[e]) (by simp[hn]<;>omega)
  ·rw[Bool.not_eq_true] at h
   rw[h] at h1
   refine evl ?_
   repeat' (first|refine ae ?_|(refine aa ?_ ?_<;>intro h))
   refine ag ?_;rw[qC,h];rfl
def Topo.fit (t:Topo):Prop:=t.routers.length<2^40∧t.links.length<2^40∧ ∀x∈t.routers,x.fit
theorem MQ (t:Topo) (ht:t.fit): ∃b,aq G 377 [.agg t.enc] [] ⟨.bool b,[]⟩∧(b=true→t.routers.length≤40∧qC t.links t.routers=true):=by
 have m1:(t.routers.map RConf.enc).length=t.routers.length:=by simp
 have m2:(t.links.map Lnk.enc).length=t.links.length:=by simp
 by_cases c1:12<t.routers.length
 ·by_cases c2:t.routers.length≤32
  ·refine ⟨false,?_,(fun h=>by cases h)⟩
   exact gvA (F:=kU)
  ·by_cases c3:24<t.links.length
   ·by_cases c4:t.links.length≤64
    ·refine ⟨false,?_,(fun h=>by cases h)⟩
     exact gvA (F:=kU)
    ·by_cases c5:40<t.routers.length
     ·refine ⟨false,?_,(fun h=>by cases h)⟩
      exact gvA (F:=kU)
     ·by_cases c6:80<t.links.length
      ·refine ⟨false,?_,(fun h=>by cases h)⟩
       exact gvA (F:=kU)
      ·refine ⟨qC t.links t.routers,?_,fun hb=>⟨by omega,hb⟩⟩
       refine ab (F:=kU) rfl rfl (am 300 _ _ _ _ ?_)
       repeat' (first|refine ae ?_|(refine aa ?_ ?_<;>intro h))
       refine ah [40,41,42,1] [65] ?_
       rw[m1]
       exact lL t.routers t rfl ht.2.2 ht.2.1 ht.1 _ rfl t.routers [] _ _ _ 0 rfl rfl
   ·by_cases c5:40<t.routers.length
    ·refine ⟨false,?_,(fun h=>by cases h)⟩
     exact gvA (F:=kU)
    ·refine ⟨qC t.links t.routers,?_,fun hb=>⟨by omega,hb⟩⟩
     refine ab (F:=kU) rfl rfl (am 300 _ _ _ _ ?_)
     repeat' (first|refine ae ?_|(refine aa ?_ ?_<;>intro h))
     refine ah [40,41,42,1] [65] ?_
     rw[m1]
     exact lL t.routers t rfl ht.2.2 ht.2.1 ht.1 _ rfl t.routers [] _ _ _ 0 rfl rfl
 ·by_cases c3:24<t.links.length
  ·by_cases c4:t.links.length≤64
   ·refine ⟨false,?_,(fun h=>by cases h)⟩
    exact gvA (F:=kU)
   ·by_cases c6:80<t.links.length
    ·refine ⟨false,?_,(fun h=>by cases h)⟩
     exact gvA (F:=kU)
    ·refine ⟨qC t.links t.routers,?_,fun hb=>⟨by omega,hb⟩⟩
     refine ab (F:=kU) rfl rfl (am 300 _ _ _ _ ?_)
     repeat' (first|refine ae ?_|(refine aa ?_ ?_<;>intro h))
     refine ah [40,41,42,1] [65] ?_
     rw[m1]
     exact lL t.routers t rfl ht.2.2 ht.2.1 ht.1 _ rfl t.routers [] _ _ _ 0 rfl rfl
  ·refine ⟨qC t.links t.routers,?_,fun hb=>⟨by omega,hb⟩⟩
   refine ab (F:=kU) rfl rfl (am 300 _ _ _ _ ?_)
   repeat' (first|refine ae ?_|(refine aa ?_ ?_<;>intro h))
   refine ah [40,41,42,1] [65] ?_
   rw[m1]
   exact lL t.routers t rfl ht.2.2 ht.2.1 ht.1 _ rfl t.routers [] _ _ _ 0 rfl rfl
end Go.AM.IR
namespace Go.AM.IR
theorem nW {α:Type} {f:α→Nat} {enc:α→List AV} (h: ∀x,f x+1≤bkL (enc x)): ∀l:List α,l.length+cY f l≤eF (l.map enc)
 | []=>by simp[cY]
 |x::r=>by
  have:=nW h r
  have:=h x
  rw[List.map_cons,eF,List.length_cons,cY];omega
theorem ca {α:Type} {enc:α→List AV} (h: ∀x,1≤bkL (enc x)) (l:List α):l.length≤eF (l.map enc):=by
 have:=nW (f:=fun _=>0) (enc:=enc) (fun x=>by have:=h x;omega) l
 omega
theorem iY {α:Type} {enc:α→List AV} {x:α}: ∀ {l:List α},x∈l→bkL (enc x)≤eF (l.map enc)
 |y::r,h=>by
  rw[List.map_cons,eF]
  rcases List.mem_cons.1 h with rfl|h
  ·omega
  ·have:=iY (enc:=enc) h;omega
theorem UZ (x:Mat):0+1≤bkL x.enc:=by simp only[Mat.enc,bkL,AV.bk];omega
theorem Pq (x:Actn):0+1≤bkL x.enc:=by simp only[Actn.enc,bkL,AV.bk];omega
theorem Ux (x:Trm):t6 x+1≤bkL x.enc:=by
 have h1:=ca (fun x=>by have:=UZ x;omega) x.mats
 have h2:=ca (fun x=>by have:=Pq x;omega) x.acts
 simp only[Trm.enc,bkL,AV.bk,t6];omega
theorem Uz (x:Pol):qg x+1≤bkL x.enc:=by
 have h1:=nW Ux x.terms
 simp only[Pol.enc,bkL,AV.bk,qg];omega
theorem KH (x:RuleP):1≤bkL x.enc:=by simp only[RuleP.enc,bkL,AV.bk];omega
theorem KL (x:PathR):1≤bkL x.enc:=by simp only[PathR.enc,bkL,AV.bk];omega
theorem Pj (x:ComR):1≤bkL x.enc:=by simp only[ComR.enc,bkL,AV.bk];omega
theorem KN (x:PList):x.rules.length+1≤bkL x.enc:=by
 have h1:=ca KH x.rules
 simp only[PList.enc,bkL,AV.bk];omega
theorem KM (x:PathL):x.rules.length+1≤bkL x.enc:=by
 have h1:=ca KL x.rules
 simp only[PathL.enc,bkL,AV.bk];omega
theorem Pm (x:ComL):x.rules.length+1≤bkL x.enc:=by
 have h1:=ca Pj x.rules
 simp only[ComL.enc,bkL,AV.bk];omega
theorem Ph (s:PSet):i8 s≤bkL s.enc:=by
 have h1:=nW KN s.prefixes
 have h2:=nW KM s.paths
 have h3:=nW Pm s.comms
 have h4:=nW Uz s.pols
 simp only[PSet.enc,bkL,AV.bk,i8];omega
theorem Uy (x:Red):1≤bkL x.enc:=by simp only[Red.enc,bkL,AV.bk];omega
theorem KJ (x:PeerC):1≤bkL x.enc:=by simp only[PeerC.enc,bkL,AV.bk];omega
theorem U5 (x:Lnk):1≤bkL x.enc:=by simp only[Lnk.enc,bkL,AV.bk];omega
theorem vK (c:RConf):i8 c.pv.pols+c.redist.length+c.pv.peers.length+1≤bkL c.enc:=by
 have h1:=Ph c.pv.pols
 have h2:=ca Uy c.redist
 have h3:=ca KJ c.pv.peers
 simp only[PSet.enc,bkL,AV.bk] at h1
 simp only[RConf.enc,bkL,AV.bk];omega
theorem W5 (t:Topo) (h:bkL t.enc≤1048576):t.fit:=by
 have h1:=ca (enc:=RConf.enc) (fun x=>by have:=vK x;omega) t.routers
 have h2:=ca U5 t.links
 simp only[Topo.enc,bkL,AV.bk] at h
 refine ⟨by omega,by omega,fun x hx=>?_⟩
 have h3:=iY (enc:=RConf.enc) hx
 have h4:=vK x
 exact ⟨by omega,by omega,by omega⟩
end Go.AM.IR
namespace Go.AM.IR
@[simp] theorem V7: ∀l:List Int,aG (l.map dK)=true
 | []=>rfl
 |x::r=>by simp only[List.map_cons,aG,V7 r];simp[dK,aW,AV.pure]
def jh:List Int→List Int→Bool
 |_,[]=>false
 |d,x::r=>if x∈d then true else jh (d++[x]) r
theorem ZK (l:List Int) (hl:l.length<2^40) (i:Nat) (x:Int) (hi:i<l.length) (hx:l[i]? =some x) (ln6:Int) (R:Ret)
  (go: ¬x∈l.take i→ ∀(T:List (Nat×AV)) (H:ax) (c:Nat),Ev G ⟨Ce,⟨(0,.sl 1 (l.map dK))::(6,.int .i64 ln6)::(7,.int .i64 ((i:Int)+1))::T,H,c⟩,[.t 2],0⟩ R)
  (hR:x∈l.take i→R=⟨.bool true,[]⟩): ∀(f k:Nat) (T:List (Nat×AV)) (H:ax) (c:Nat) (hk:k+f=i) (hd: ¬x∈l.take k),
  Ev G ⟨TK,⟨(11,.int .i64 (k:Int))::(0,.sl 1 (l.map dK))::(3,.int .i64 (i:Int))::(6,.int .i64 ln6)::(7,.int .i64 (i:Int))::(10,.int .i64 (i:Int))::T,H,c⟩,[.t 2],0⟩ R
 |0,k,T,H,c,hk,hd=>by
  obtain rfl:k=i:=by omega
  refine evl ?_
  repeat' (first|refine ae ?_|(refine aa ?_ ?_<;>intro h))
  refine ah [0,6,7] [] ?_
  exact go hd _ _ _
 |f+1,k,T,H,c,hk,hd=>by
  have hkl:k<l.length:=by omega
  obtain ⟨y,hy⟩: ∃y,l[k]? =some y:=⟨l[k],List.getElem?_eq_getElem hkl⟩
  have ht:l.take (k+1)=l.take k++[y]:=by rw[List.take_add_one,hy];rfl
  have hx1:(l.map dK)[((i:Nat):Int).toNat]? =some (dK x):=by simp[hx]
  have hy1:(l.map dK)[((k:Nat):Int).toNat]? =some (dK y):=by simp[hy]
  have hll:(l.map dK).length=l.length:=by simp
  by_cases h:x=y
  ·subst h
   rw[hR (by
    have:x∈l.take (k+1):=by rw[ht];simp
    exact List.mem_of_mem_take (i:=k+1) (by rw[List.take_take,Nat.min_eq_left (by omega)];exact this))]
   refine evl ?_
   repeat' (first|refine ae ?_|(refine aa ?_ ?_<;>intro h))
   refine ag ?_;rfl
  ·refine evl ?_
   repeat' (first|refine ae ?_|(refine aa ?_ ?_<;>intro h))
   refine ah [11,0,3,6,7,10] [] ?_
   exact ZK l hl i x hi hx ln6 R go hR f (k+1) _ _ _ (by omega) (by rw[ht];simp[hd,h])
theorem Nu (l:List Int)  (hl:l.length<2^40) (ln:Int) (hln:ln=l.length): ∀(rest done:List Int)  (T:List (Nat×AV)) (H:ax) (c:Nat) (n:Int) (e:l=done++rest) (hn:n=done.length),Ev G ⟨Ce,⟨(0,.sl 1 (l.map dK))::(6,.int .i64 ln)::(7,.int .i64 n)::T,H,c⟩,[.t 2],0⟩ (⟨.bool (jh done rest),[]⟩)
 | [],done,  T,H,c,n,e,hn=>by
  have hd:l.length=done.length:=by simp[e]
  have hll:(l.map dK).length=l.length:=by simp
  refine evl ?_
  repeat' (first|refine ae ?_|(refine aa ?_ ?_<;>intro h))
  refine ag ?_;rfl
 |x::r,done,  T,H,c,n,e,hn=>by
  have hd:l.length=done.length+(r.length+1):=by simp[e]
  have hll:(l.map dK).length=l.length:=by simp
  have hx:(l.map dK)[n.toNat]? =some (dK x):=by simp[e,hn]
  have hg:l[done.length]? =some x:=by simp[e]
  have ht:l.take done.length=done:=by simp[e]
  rw[hn]
  refine evl ?_
  repeat' (first|refine ae ?_|(refine aa ?_ ?_<;>intro h))
  refine ah [11,0,3,6,7,10] [] ?_
  refine ZK l hl done.length x (by omega) hg ln _ (fun h T H c=>?_) (fun h=>?_) done.length 0 _ _ _ (by omega) (by simp)
  ·rw[ht] at h
   rw[show jh done (x::r)=jh (done++[x]) r from by rw[jh,if_neg h]]
   exact Nu l hl ln hln r (done++[x]) T H c (done.length+1) (by simp[e]) (by simp)
  ·rw[ht] at h
   rw[jh,if_pos h]
theorem LC (l:List Int) (hl:l.length<2^40):aq G 399 [.sl 1 (l.map dK)] [] ⟨.bool (jh [] l),[]⟩:=by
 have hll:(l.map dK).length=l.length:=by simp
 refine ab (F:=YO) rfl rfl (am 300 _ _ _ _ ?_)
 repeat' (first|refine ae ?_|(refine aa ?_ ?_<;>intro h))
 refine ah [0,6,7] [] ?_
 rw[hll]
 exact Nu l hl _ rfl l [] _ _ _ 0 rfl rfl
def bA:List RConf→List Int
 | []=>[]
 |c::r=>c.ls.ifs.map Ifc.addr++bA r
theorem mw: ∀a b:List RConf,bA (a++b)=bA a++bA b
 | [],b=>rfl
 |c::r,b=>by simp[bA,mw r b]
theorem tW (l:List Ifc) (P7:AV) (t:Topo) (y:RConf) (hlx:y.ls.ifs=l) (i ln8:Int) (hi:0≤i∧i<t.routers.length) (hr:t.routers.length<2^40) (hy:(t.routers.map RConf.enc)[i.toNat]? =some y.enc) (o0:List Int) (ho0:o0.length+l.length<2^30) (R:Ret) (go: ∀(T:List (Nat×AV)) (H:ax) (c g:Nat),Ev G ⟨Cd,⟨(7,P7)::(8,.int .i64 ln8)::(9,.int .i64 (i+1))::(3,.vs 200 g (o0++l.map Ifc.addr).length)::(1,.ref 65 1 0)::T,(200,some (g,.vec 1 ((o0++l.map Ifc.addr).map dK)))::(65,some (1,.cells t.enc))::H,c⟩,[.t 2],0⟩ R) (hl:l.length<2^40) (ln:Int) (hln:ln=l.length): ∀(rest done:List Ifc) (out:List Int) (es:List (List AV)) (m g:Nat) (T:List (Nat×AV)) (H:ax) (c:Nat) (n:Int) (e:l=done++rest) (hn:n=done.length) (hes:es=out.map dK) (hm:m=out.length) (ho:out=o0++done.map Ifc.addr),Ev G ⟨TJ,⟨(18,.sl 9 (l.map Ifc.enc))::(19,.int .i64 ln)::(20,.int .i64 n)::(3,.vs 200 g m)::(1,.ref 65 1 0)::(4,.int .i64 i)::(8,.int .i64 ln8)::(9,.int .i64 i)::(7,P7)::T,(200,some (g,.vec 1 es))::(65,some (1,.cells t.enc))::H,c⟩,[.t 2],0⟩ R
 | [],done,out,es,m,g,T,H,c,n,e,hn,hes,hm,ho=>by
  have hd:l.length=done.length:=by simp[e]
  have hll:(l.map Ifc.enc).length=l.length:=by simp
  have hrl:(t.routers.map RConf.enc).length=t.routers.length:=by simp
  obtain rfl:l=done:=by simp[e]
  subst hes hm ho
  refine evl ?_
  repeat' (first|refine ae ?_|(refine aa ?_ ?_<;>intro h))
  refine ah [7,8,9,3,1] [200,65] ?_
  exact go _ _ _ _
 |x::r,done,out,es,m,g,T,H,c,n,e,hn,hes,hm,ho=>by
  have hd:l.length=done.length+(r.length+1):=by simp[e]
  have hll:(l.map Ifc.enc).length=l.length:=by simp
  have hx:(l.map Ifc.enc)[n.toNat]? =some (Ifc.enc x):=by simp[e,hn]
  have hrl:(t.routers.map RConf.enc).length=t.routers.length:=by simp
  have hz:(y.ls.ifs.map Ifc.enc)[n.toNat]? =some x.enc:=by rw[hlx];exact hx
  have hzl:(y.ls.ifs.map Ifc.enc).length=l.length:=by simp[hlx]
  have hol:out.length=o0.length+done.length:=by simp[ho]
  subst hes hm
  refine evl ?_
  repeat' (first|refine ae ?_|(refine aa ?_ ?_<;>intro h))
  refine ah [18,19,20,3,1,4,8,9,7] [200,65] ?_;exact tW l P7 t y hlx i ln8 hi hr hy o0 ho0 R go hl ln hln r (done++[x]) (out++[x.addr]) (out.map dK++[dK x.addr]) (out.length+1) _ _ _ _ (n+1) (by simp[e]) (by simp[hn]<;>omega) (by simp) (by simp) (by simp[ho])
theorem tV (l:List RConf) (t:Topo) (hl1:t.routers=l) (hb:(bA l).length<2^30) (hl:l.length<2^40) (ln:Int) (hln:ln=l.length): ∀(rest done:List RConf) (out:List Int) (es:List (List AV)) (m g:Nat) (T:List (Nat×AV)) (H:ax) (c:Nat) (n:Int) (e:l=done++rest) (hn:n=done.length) (hes:es=out.map dK) (hm:m=out.length) (ho:out=bA done),Ev G ⟨Cd,⟨(7,.sl 25 (l.map RConf.enc))::(8,.int .i64 ln)::(9,.int .i64 n)::(3,.vs 200 g m)::(1,.ref 65 1 0)::T,(200,some (g,.vec 1 es))::(65,some (1,.cells t.enc))::H,c⟩,[.t 2],0⟩ (⟨.vs 0 0 (bA l).length,[(false,.vec 1 ((bA l).map dK))]⟩)
 | [],done,out,es,m,g,T,H,c,n,e,hn,hes,hm,ho=>by
  have hd:l.length=done.length:=by simp[e]
  have hll:(l.map RConf.enc).length=l.length:=by simp
  have hrl:(t.routers.map RConf.enc).length=t.routers.length:=by simp
  obtain rfl:l=done:=by simp[e]
  subst hes hm ho
  refine evl ?_
  repeat' (first|refine ae ?_|(refine aa ?_ ?_<;>intro h))
  refine aaK 200 _ _ _ rfl rfl puL ?_
  rfl
 |x::r,done,out,es,m,g,T,H,c,n,e,hn,hes,hm,ho=>by
  have hd:l.length=done.length+(r.length+1):=by simp[e]
  have hll:(l.map RConf.enc).length=l.length:=by simp
  have hx:(l.map RConf.enc)[n.toNat]? =some (RConf.enc x):=by simp[e,hn]
  have hrl:(t.routers.map RConf.enc).length=t.routers.length:=by simp
  have hy:(t.routers.map RConf.enc)[n.toNat]? =some x.enc:=by rw[hl1];exact hx
  have hm':(t.routers.map RConf.enc).length=l.length:=by simp[hl1]
  have hrl2:t.routers.length=l.length:=by rw[hl1]
  have m1:(x.ls.ifs.map Ifc.enc).length=x.ls.ifs.length:=by simp
  have ha:bA l=bA done++(x.ls.ifs.map Ifc.addr++bA r):=by rw[e,mw];rfl
  have hal:(bA l).length=(bA done).length+(x.ls.ifs.length+(bA r).length):=by rw[ha];simp
  subst hes hm
  refine evl ?_
  repeat' (first|refine ae ?_|(refine aa ?_ ?_<;>intro h))
  refine ah [18,19,20,3,1,4,8,9,7] [200,65] ?_
  rw[m1]
  exact tW x.ls.ifs _ t x rfl n ln (by omega) (by rw[hl1];exact hl) hy out (by rw[ho];omega) _ (fun T H c g=>tV l t hl1 hb hl ln hln r (done++[x]) (out++x.ls.ifs.map Ifc.addr) _ _ g T H c (n+1) (by simp[e]) (by simp[hn]<;>omega) rfl rfl (by rw[ho,mw];simp[bA])) (by omega) _ rfl x.ls.ifs [] out _ _ _ _ _ _ 0 rfl rfl rfl rfl (by simp)
theorem z7 (t:Topo) (ht:t.routers.length<2^40) (hb:(bA t.routers).length<2^30):aq G 400 [.agg t.enc] [] ⟨.vs 0 0 (bA t.routers).length,[(false,.vec 1 ((bA t.routers).map dK))]⟩:=by
 have hll:(t.routers.map RConf.enc).length=t.routers.length:=by simp
 refine ab (F:=YN) rfl rfl (am 300 _ _ _ _ ?_)
 repeat' (first|refine ae ?_|(refine aa ?_ ?_<;>intro h))
 refine ka 200 1 [(3,.vs 200 _ 0)] [] ⟨LeP.nilV _ _ _,trivial⟩ trivial ?_
 refine ah [7,8,9,3,1] [200,65] ?_
 rw[hll]
 exact tV t.routers t rfl hb ht _ rfl t.routers [] [] [] 0 _ _ _ _ 0 rfl rfl rfl rfl rfl
end Go.AM.IR
namespace Go.AM.IR
def ifcZ:Ifc:=⟨0,⟨0,0⟩,0,0,0,0,0,0⟩
def dA (t:Topo) (e:LEnd):Option Ifc:=
 if e.router<0 then none else match t.routers[e.router.toNat]? with
 |none=>none
 |some c=>if e.ifc<0 then none else c.ls.ifs[e.ifc.toNat]?
def pc:Option Ifc→Ret
 |none=>⟨.tup [.agg ifcZ.enc,.bool false],[]⟩
 |some x=>⟨.tup [.agg x.enc,.bool true],[]⟩
theorem pb (t:Topo) (e:LEnd) (ht:t.routers.length<2^40) (hf: ∀c∈t.routers,c.ls.ifs.length<2^40):aq G 429 [.agg t.enc,.agg e.enc] [] (pc (dA t e)):=by
 have hll:(t.routers.map RConf.enc).length=t.routers.length:=by simp
 by_cases h1:e.router<0
 ·rw[dA,if_pos h1]
  refine ab (F:=vi) rfl rfl (am 300 _ _ _ _ ?_)
  repeat' (first|refine ae ?_|(refine aa ?_ ?_<;>intro h))
  refine ag ?_;(conv=>whnf);refine Go.AM.finC ?_;rfl
 rw[dA,if_neg h1]
 by_cases h2:t.routers.length≤e.router.toNat
 ·rw[List.getElem?_eq_none h2]
  refine ab (F:=vi) rfl rfl (am 300 _ _ _ _ ?_)
  repeat' (first|refine ae ?_|(refine aa ?_ ?_<;>intro h))
  refine ag ?_;(conv=>whnf);refine Go.AM.finC ?_;rfl
 obtain ⟨c,hc⟩: ∃c,t.routers[e.router.toNat]? =some c:=⟨_,List.getElem?_eq_getElem (by omega)⟩
 rw[hc]
 have hx:(t.routers.map RConf.enc)[e.router.toNat]? =some c.enc:=by simp[hc]
 have hcl:=hf c (List.mem_of_getElem? hc)
 have hl2:(c.ls.ifs.map Ifc.enc).length=c.ls.ifs.length:=by simp
 show aq G 429 [.agg t.enc,.agg e.enc] [] (pc (if e.ifc<0 then none else c.ls.ifs[e.ifc.toNat]?))
 by_cases h3:e.ifc<0
 ·rw[if_pos h3]
  refine ab (F:=vi) rfl rfl (am 300 _ _ _ _ ?_)
  repeat' (first|refine ae ?_|(refine aa ?_ ?_<;>intro h))
  refine ag ?_;(conv=>whnf);refine Go.AM.finC ?_;rfl
 rw[if_neg h3]
 by_cases h4:c.ls.ifs.length≤e.ifc.toNat
 ·rw[List.getElem?_eq_none h4]
  refine ab (F:=vi) rfl rfl (am 300 _ _ _ _ ?_)
  repeat' (first|refine ae ?_|(refine aa ?_ ?_<;>intro h))
  refine ag ?_;(conv=>whnf);refine Go.AM.finC ?_;rfl
 obtain ⟨f,hf'⟩: ∃f,c.ls.ifs[e.ifc.toNat]? =some f:=⟨_,List.getElem?_eq_getElem (by omega)⟩
 rw[hf']
 have hy:(c.ls.ifs.map Ifc.enc)[e.ifc.toNat]? =some f.enc:=by simp[hf']
 refine ab (F:=vi) rfl rfl (am 300 _ _ _ _ ?_)
 repeat' (first|refine ae ?_|(refine aa ?_ ?_<;>intro h))
 refine ag ?_;(conv=>whnf);refine Go.AM.finC ?_;rfl
end Go.AM.IR
namespace Go.AM.IR
section
variable {kv:AV→Prop}
theorem bp {q:IntKind} {a b:Int} (h:a=b) (k:kv (.bool true)): ∃v,bv .eql (.int q a) (.int q b)=some v∧kv v:=⟨.bool true,by simp[bv,h],k⟩
theorem aY {q:IntKind} {a b:Int} (h: ¬a=b) (k:kv (.bool false)): ∃v,bv .eql (.int q a) (.int q b)=some v∧kv v:=⟨.bool false,by simp[bv,h],k⟩
end
end Go.AM.IR
