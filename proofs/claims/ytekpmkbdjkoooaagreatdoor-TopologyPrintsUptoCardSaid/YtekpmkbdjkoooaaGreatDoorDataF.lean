/- What the functions of this program give, on the abstract machine. -/
import Derived.Test.YtekpmkbdjkoooaaGreatDoorDataB
import Derived.Test.YtekpmkbdjkoooaaGreatDoorMachineC
import Derived.Test.YtekpmkbdjkoooaaGreatDoorDataA
set_option linter.unusedVariables false
set_option linter.unusedSimpArgs false
set_option maxHeartbeats 4000000
set_option maxRecDepth 20000
namespace Go.AM.IR
section
variable {kv:AV→Prop}
theorem fb {a b:List UInt8}(n:a=b)(h:kv (.bool false)): ∃v,bv .neq (.str a) (.str b)=some v∧kv v:=⟨.bool false,by show some (AV.bool (!(a==b)))=_;simp[n],h⟩
theorem Bh {a b:List UInt8}(n: ¬a=b)(h:kv (.bool true)): ∃v,bv .neq (.str a) (.str b)=some v∧kv v:=⟨.bool true,by show some (AV.bool (!(a==b)))=_;simp[n],h⟩
theorem aaN {a b:List UInt8}{v:Bool}(hv:(Op.bytesLess a b||a==b)=v)(h:kv (.bool v)): ∃w,bv .leq (.str a) (.str b)=some w∧kv w:=⟨_,by show some (AV.bool (Op.bytesLess a b||a==b))=_;rw[hv],h⟩
end
theorem gvD {G:Nat→Fun}{f:Nat}{F:AFunc}{args:List AV}{bs:List Blk}{t:Ret}(hf:G f= .code F:=by rfl)(hl:args.length=F.np:=by rfl)(h:Ev G ⟨[.code F.body],⟨tms 0 args,jK 0 bs,1⟩,F.results,bs.length⟩ t:=by
 refine wk3 ?_
 repeat' ((conv=>whnf);first|refine fb (by assumption) ?_|refine Bh (by assumption) ?_|refine aaN (by assumption) ?_|refine au ?_|(refine ae ?_ ?_<;>intro h))
 all_goals exact dnA):ah G f args bs t:=kW hf hl h
end Go.AM.IR
namespace Go.AM.IR
def j5:List RConf→List UInt8→Bool
 | [],_=>false
 |c::r,k=>if c.name=k then true else j5 r k
def fx:List RConf→List UInt8→Int→Int
 | [],_,_=>0
 |c::r,k,n=>if c.name=k then n else fx r k (n+1)
section
variable {kv:AV→Prop}
end
theorem t6 (l:List RConf)(k:List UInt8)(t:Topo)(hl1:t.routers=l)(hl:l.length<2^40)(ln:Int)(hln:ln=l.length): ∀(rest done:List RConf)(T:TV)(H:aw)(c:Nat)(n:Int)(e:l=done++rest)(hn:n=done.length),Ev G ⟨adl,⟨(8,.sl 25 (l.map RConf.enc))::(9,.int .i64 ln)::(10,.int .i64 n)::(1,.str k)::(2,.ref 66 1 0)::T,(66,some (1,.cells t.enc))::H,c⟩,[.t 4,.t 5],0⟩ (⟨.tup [.int .i64 (fx rest k n),.bool (j5 rest k)],[]⟩)
 | [],done,  T,H,c,n,e,hn=>by
  have hd:=md0 e;have hll:=ml l RConf.enc;refine evA ?_;refine ag ?_;rfl
 |x::r,done,  T,H,c,n,e,hn=>by
  have hd:=md e;have hll:=ml l RConf.enc;have hx:=mx RConf.enc e hn;have hy:(t.routers.map RConf.enc)[n.toNat]? =some x.enc:=by rw[hl1];exact hx
  have hm:(t.routers.map RConf.enc).length=l.length:=by simp[hl1]
  by_cases hk:x.name=k
  ·refine evl ?_
   repeat' (first|refine cg ?_|(refine ae ?_ ?_<;>intro h))
   refine ag ?_;simp[fx,j5,hk]
  ·refine evl ?_
   repeat' (first|refine cg ?_|(refine ae ?_ ?_<;>intro h))
   rw[show fx (x::r) k n=fx r k (n+1) from by simp[fx,hk],show j5 (x::r) k=j5 r k from by simp[j5,hk]]
   refine ab [8,9,10,1,2] [66] ?_;exact t6 l k t hl1 hl ln hln r (done++[x])  _ _ _ (n+1) (by simp[e]) (by simp[hn]<;>omega)
theorem Jp (t:Topo)(ht:t.routers.length<2^40)(k:List UInt8):ah G 387 [.agg t.enc,.str k] [] ⟨.tup [.int .i64 (fx t.routers k 0),.bool (j5 t.routers k)],[]⟩:=by
 have hll:=ml t.routers RConf.enc;refine gvB (F:=Wq) ?_;refine ab [8,9,10,1,2] [66] ?_;rw[hll];exact t6 t.routers k t rfl ht _ rfl t.routers [] _ _ _ 0 rfl rfl
end Go.AM.IR
namespace Go.AM.IR
def dg {α:Type}(f:α→Nat):List α→Nat
 | []=>0
 |x::r=>f x+dg f r
def wc (t:Trm):Nat:=t.mats.length+t.acts.length
def rA (p:Pol):Nat:=p.terms.length+dg wc p.terms
def iY (s:PSet):Nat:=s.prefixes.length+s.paths.length+s.comms.length+s.pols.length+dg (fun p=>p.rules.length) s.prefixes+dg (fun p=>p.rules.length) s.paths+dg (fun p=>p.rules.length) s.comms+dg rA s.pols
theorem EF (l:List Trm)(P:List (List AV))(j ln2:Int)(tot:Int)(htot:tot<2^40)(hj:0≤j∧j<2^50)(R:Ret)(go: ∀(T:TV) (H:aw) (c:Nat),Ev G ⟨Gn,⟨(69,.sl 3 P)::(70,.int .i64 ln2)::(71,.int .i64 (j+1))::(3,.int .i64 tot)::T,H,c⟩,[.t 2],0⟩ R)(hl:l.length<2^40)(ln:Int)(hln:ln=l.length): ∀(rest done:List Trm)(a:Int)(T:TV)(H:aw)(c:Nat)(n:Int)(e:l=done++rest)(hn:n=done.length)(ha:a+((dg wc rest:Nat):Int)=tot)(h0:0≤a),Ev G ⟨Zo,⟨(81,.sl 4 (l.map Trm.enc))::(82,.int .i64 ln)::(83,.int .i64 n)::(3,.int .i64 a)::(69,.sl 3 P)::(70,.int .i64 ln2)::(71,.int .i64 j)::T,H,c⟩,[.t 2],0⟩ R
 | [],done,a,T,H,c,n,e,hn,ha,h0=>by
  have hd:=md0 e;have hll:=ml l Trm.enc;obtain rfl:a=tot:=by simp only[dg] at ha;omega
  refine evA ?_;refine ab [69,70,71,3] [] ?_;exact go _ _ _
 |x::r,done,a,T,H,c,n,e,hn,ha,h0=>by
  have hd:=md e;have hll:=ml l Trm.enc;have hx:=mx Trm.enc e hn;have m1:=ml x.mats Mat.enc;have m2:=ml x.acts Actn.enc;simp only[dg,wc] at ha;refine evA ?_;refine ab [81,82,83,3,69,70,71] [] ?_;exact EF l P j ln2 tot htot hj R go hl ln hln r (done++[x]) (a+(((x.mats.map Mat.enc).length:Int)+((x.acts.map Actn.enc).length:Int))) _ _ _ (n+1) (by simp[e]) (by simp[hn]<;>omega) (by rw[←ha,m1,m2];omega) (by omega)
theorem Ey (l:List Pol)(tot:Int)(htot:tot<2^40)(hl:l.length<2^40)(ln:Int)(hln:ln=l.length): ∀(rest done:List Pol)(a:Int)(T:TV)(H:aw)(c:Nat)(n:Int)(e:l=done++rest)(hn:n=done.length)(ha:a+((dg rA rest:Nat):Int)=tot)(h0:0≤a),Ev G ⟨Gn,⟨(69,.sl 3 (l.map Pol.enc))::(70,.int .i64 ln)::(71,.int .i64 n)::(3,.int .i64 a)::T,H,c⟩,[.t 2],0⟩ (⟨.int .i64 tot,[]⟩)
 | [],done,a,T,H,c,n,e,hn,ha,h0=>by
  have hd:=md0 e;have hll:=ml l Pol.enc;obtain rfl:a=tot:=by simp only[dg] at ha;omega
  refine evA ?_;refine ag ?_;rfl
 |x::r,done,a,T,H,c,n,e,hn,ha,h0=>by
  have hd:=md e;have hll:=ml l Pol.enc;have hx:=mx Pol.enc e hn;have m1:=ml x.terms Trm.enc;simp only[dg,rA] at ha;refine evA ?_;refine ab [81,82,83,3,69,70,71] [] ?_;rw[m1];exact EF x.terms (l.map Pol.enc) n ln (a+x.terms.length+((dg wc x.terms:Nat):Int)) (by omega) (by omega) _ (fun T H c=>Ey l tot htot hl ln hln r (done++[x]) (a+x.terms.length+((dg wc x.terms:Nat):Int)) T H c (n+1) (by simp[e]) (by simp[hn]<;>omega) (by omega) (by omega)) (by omega) _ rfl x.terms [] (a+x.terms.length) _ _ _ 0 rfl rfl rfl (by omega)
theorem yf (l:List ComL)(s:PSet)(hl1:s.comms=l)(tot:Int)(htot:tot<2^40)(hsz:s.pols.length<2^40∧s.comms.length<2^40∧s.paths.length<2^40)(hl:l.length<2^40)(ln:Int)(hln:ln=l.length): ∀(rest done:List ComL)(a:Int)(T:TV)(H:aw)(c:Nat)(n:Int)(e:l=done++rest)(hn:n=done.length)(ha:a+((dg (fun p=>p.rules.length) rest+(dg rA s.pols):Nat):Int)=tot)(h0:0≤a),Ev G ⟨Zp,⟨(56,.sl 2 (l.map ComL.enc))::(57,.int .i64 ln)::(58,.int .i64 n)::(3,.int .i64 a)::(1,.ref 65 1 0)::T,(65,some (1,.cells s.enc))::H,c⟩,[.t 2],0⟩ (⟨.int .i64 tot,[]⟩)
 | [],done,a,T,H,c,n,e,hn,ha,h0=>by
  have hd:=md0 e;have hll:=ml l ComL.enc;have m1:=ml s.pols Pol.enc;refine evA ?_;refine ab [69,70,71,3] [] ?_;rw[m1];exact Ey s.pols tot htot (by omega) _ rfl s.pols [] a _ _ _ 0 rfl rfl (by simp only[dg] at ha;omega) h0
 |x::r,done,a,T,H,c,n,e,hn,ha,h0=>by
  have hd:=md e;have hll:=ml l ComL.enc;have hx:=mx ComL.enc e hn;have m1:=ml x.rules ComR.enc;simp only[dg] at ha;refine evA ?_;refine ab [56,57,58,3,1] [65] ?_;exact yf l s hl1 tot htot hsz hl ln hln r (done++[x]) (a+((x.rules.map ComR.enc).length:Int)) _ _ _ (n+1) (by simp[e]) (by simp[hn]<;>omega) (by rw[←ha,m1];omega) (by omega)
theorem yg (l:List PathL)(s:PSet)(hl1:s.paths=l)(tot:Int)(htot:tot<2^40)(hsz:s.pols.length<2^40∧s.comms.length<2^40∧s.paths.length<2^40)(hl:l.length<2^40)(ln:Int)(hln:ln=l.length): ∀(rest done:List PathL)(a:Int)(T:TV)(H:aw)(c:Nat)(n:Int)(e:l=done++rest)(hn:n=done.length)(ha:a+((dg (fun p=>p.rules.length) rest+(dg (fun p=>p.rules.length) s.comms+dg rA s.pols):Nat):Int)=tot)(h0:0≤a),Ev G ⟨Zq,⟨(43,.sl 2 (l.map PathL.enc))::(44,.int .i64 ln)::(45,.int .i64 n)::(3,.int .i64 a)::(1,.ref 65 1 0)::T,(65,some (1,.cells s.enc))::H,c⟩,[.t 2],0⟩ (⟨.int .i64 tot,[]⟩)
 | [],done,a,T,H,c,n,e,hn,ha,h0=>by
  have hd:=md0 e;have hll:=ml l PathL.enc;have m1:=ml s.comms ComL.enc;refine evA ?_;refine ab [56,57,58,3,1] [65] ?_;rw[m1];exact yf s.comms s rfl tot htot hsz (by omega) _ rfl s.comms [] a _ _ _ 0 rfl rfl (by simp only[dg] at ha;omega) h0
 |x::r,done,a,T,H,c,n,e,hn,ha,h0=>by
  have hd:=md e;have hll:=ml l PathL.enc;have hx:=mx PathL.enc e hn;have m1:=ml x.rules PathR.enc;simp only[dg] at ha;refine evA ?_;refine ab [43,44,45,3,1] [65] ?_;exact yg l s hl1 tot htot hsz hl ln hln r (done++[x]) (a+((x.rules.map PathR.enc).length:Int)) _ _ _ (n+1) (by simp[e]) (by simp[hn]<;>omega) (by rw[←ha,m1];omega) (by omega)
theorem Ew (l:List PList)(s:PSet)(hl1:s.prefixes=l)(tot:Int)(htot:tot<2^40)(hsz:s.pols.length<2^40∧s.comms.length<2^40∧s.paths.length<2^40)(hl:l.length<2^40)(ln:Int)(hln:ln=l.length): ∀(rest done:List PList)(a:Int)(T:TV)(H:aw)(c:Nat)(n:Int)(e:l=done++rest)(hn:n=done.length)(ha:a+((dg (fun p=>p.rules.length) rest+(dg (fun p=>p.rules.length) s.paths+(dg (fun p=>p.rules.length) s.comms+dg rA s.pols)):Nat):Int)=tot)(h0:0≤a),Ev G ⟨ac7,⟨(30,.sl 2 (l.map PList.enc))::(31,.int .i64 ln)::(32,.int .i64 n)::(3,.int .i64 a)::(1,.ref 65 1 0)::T,(65,some (1,.cells s.enc))::H,c⟩,[.t 2],0⟩ (⟨.int .i64 tot,[]⟩)
 | [],done,a,T,H,c,n,e,hn,ha,h0=>by
  have hd:=md0 e;have hll:=ml l PList.enc;have m1:=ml s.paths PathL.enc;refine evA ?_;refine ab [43,44,45,3,1] [65] ?_;rw[m1];exact yg s.paths s rfl tot htot hsz (by omega) _ rfl s.paths [] a _ _ _ 0 rfl rfl (by simp only[dg] at ha;omega) h0
 |x::r,done,a,T,H,c,n,e,hn,ha,h0=>by
  have hd:=md e;have hll:=ml l PList.enc;have hx:=mx PList.enc e hn;have m1:=ml x.rules RuleP.enc;simp only[dg] at ha;refine evA ?_;refine ab [30,31,32,3,1] [65] ?_;exact Ew l s hl1 tot htot hsz hl ln hln r (done++[x]) (a+((x.rules.map RuleP.enc).length:Int)) _ _ _ (n+1) (by simp[e]) (by simp[hn]<;>omega) (by rw[←ha,m1];omega) (by omega)
theorem IG (s:PSet)(hs:iY s<2^40):ah G 435 [.agg s.enc] [] ⟨.int .i64 (iY s:Nat),[]⟩:=by
 have m1:=ml s.prefixes PList.enc;have m2:=ml s.paths PathL.enc;have m3:=ml s.comms ComL.enc;have m4:=ml s.pols Pol.enc;have hz:iY s=s.prefixes.length+s.paths.length+s.comms.length+s.pols.length+dg (fun p=>p.rules.length) s.prefixes+dg (fun p=>p.rules.length) s.paths+dg (fun p=>p.rules.length) s.comms+dg rA s.pols:=rfl
 refine gvB (F:=ue) ?_;refine ab [30,31,32,3,1] [65] ?_;rw[m1,m2,m3,m4];exact Ew s.prefixes s rfl (iY s:Nat) (by omega) (by omega) (by omega) _ rfl s.prefixes [] _ _ _ _ 0 rfl rfl (by rw[hz];omega) (by omega)
end Go.AM.IR
namespace Go.AM.IR
def r8 (c:RConf):List PeerC→Bool
 | []=>decide (((iY c.pv.pols:Nat):Int)≤400)
 |x::r=>if 100<x.imp.length then false else if 100<x.exp.length then false else r8 c r
def r9 (c:RConf):List Red→Bool
 | []=>r8 c c.pv.peers
 |x::r=>if 100<x.pol.length then false else r9 c r
def nq (c:RConf):Bool:=
 if 100<c.name.length then false else if 24<c.ls.ifs.length then false else if 24<c.ls.ranges.length then false else
 if 24<c.redist.length then false else if 24<c.stat.length then false else if 24<c.dists.length then false else
 if 24<c.pv.peers.length then false else if 40<c.pv.nets.length then false else r9 c c.redist
def RConf.fit (c:RConf):Prop:=iY c.pv.pols<2^40∧c.redist.length<2^40∧c.pv.peers.length<2^40
theorem zW (l:List PeerC)(q:RConf)(hl1:q.pv.peers=l)(hz:iY q.pv.pols<2^40)(hl:l.length<2^40)(ln:Int)(hln:ln=l.length): ∀(rest done:List PeerC)(T:TV)(H:aw)(c:Nat)(n:Int)(e:l=done++rest)(hn:n=done.length),Ev G ⟨aac,⟨(70,.sl 11 (l.map PeerC.enc))::(71,.int .i64 ln)::(72,.int .i64 n)::(1,.ref 65 1 0)::T,(65,some (1,.cells q.enc))::H,c⟩,[.t 2],0⟩ (⟨.bool (r8 q rest),[]⟩)
 | [],done,  T,H,c,n,e,hn=>by
  have hd:=md0 e;have hll:=ml l PeerC.enc;have hs:ah G 435 [.agg [.sl 2 (q.pv.pols.prefixes.map PList.enc),.sl 2 (q.pv.pols.paths.map PathL.enc),.sl 2 (q.pv.pols.comms.map ComL.enc),.sl 3 (q.pv.pols.pols.map Pol.enc)]] [] ⟨.int .i64 (iY q.pv.pols:Nat),[]⟩:=IG q.pv.pols hz;refine evl ?_
  repeat' (first|refine bc ?_|(refine ae ?_ ?_<;>intro h))
  refine ag ?_;rfl
 |x::r,done,  T,H,c,n,e,hn=>by
  have hd:=md e;have hll:=ml l PeerC.enc;have hx:=mx PeerC.enc e hn;have hy:(q.pv.peers.map PeerC.enc)[n.toNat]? =some x.enc:=by rw[hl1];exact hx
  have hm:(q.pv.peers.map PeerC.enc).length=l.length:=by simp[hl1]
  refine evl ?_
  repeat' (first|refine bc ?_|(refine ae ?_ ?_<;>intro h))
  all_goals try (refine ag ?_;first|rfl|(simp[r8,Bool.cond_eq_ite, *];done)|(simp[r8,Bool.cond_eq_ite, *];omega)|(unfold r8;repeat' split;all_goals first|rfl|(exfalso;omega)|(simp_all;done)|(simp_all;omega)))
  rw[show r8 q (x::r)=r8 q r from by rw[r8,Ac (by omega),Ac (by omega)]]
  refine ab [70,71,72,1] [65] ?_;exact zW l q hl1 hz hl ln hln r (done++[x])  _ _ _ (n+1) (by simp[e]) (by simp[hn]<;>omega)
theorem zY (l:List Red)(q:RConf)(hl1:q.redist=l)(hz:q.fit)(hl:l.length<2^40)(ln:Int)(hln:ln=l.length): ∀(rest done:List Red)(T:TV)(H:aw)(c:Nat)(n:Int)(e:l=done++rest)(hn:n=done.length),Ev G ⟨aad,⟨(54,.sl 5 (l.map Red.enc))::(55,.int .i64 ln)::(56,.int .i64 n)::(1,.ref 65 1 0)::T,(65,some (1,.cells q.enc))::H,c⟩,[.t 2],0⟩ (⟨.bool (r9 q rest),[]⟩)
 | [],done,  T,H,c,n,e,hn=>by
  have hd:=md0 e;have hll:=ml l Red.enc;have m1:=ml q.pv.peers PeerC.enc;refine evl ?_
  repeat' (first|refine bc ?_|(refine ae ?_ ?_<;>intro h))
  refine ab [70,71,72,1] [65] ?_;rw[m1];exact zW q.pv.peers q rfl hz.1 hz.2.2 _ rfl q.pv.peers [] _ _ _ 0 rfl rfl
 |x::r,done,  T,H,c,n,e,hn=>by
  have hd:=md e;have hll:=ml l Red.enc;have hx:=mx Red.enc e hn;have hy:(q.redist.map Red.enc)[n.toNat]? =some x.enc:=by rw[hl1];exact hx
  have hm:(q.redist.map Red.enc).length=l.length:=by simp[hl1]
  refine evl ?_
  repeat' (first|refine bc ?_|(refine ae ?_ ?_<;>intro h))
  all_goals try (refine ag ?_;first|rfl|(simp[r9,Bool.cond_eq_ite, *];done)|(simp[r9,Bool.cond_eq_ite, *];omega)|(unfold r9;repeat' split;all_goals first|rfl|(exfalso;omega)|(simp_all;done)|(simp_all;omega)))
  rw[show r9 q (x::r)=r9 q r from by rw[r9,Ac (by omega)]]
  refine ab [54,55,56,1] [65] ?_;exact zY l q hl1 hz hl ln hln r (done++[x])  _ _ _ (n+1) (by simp[e]) (by simp[hn]<;>omega)
theorem Ng (q:RConf)(hz:q.fit):ah G 395 [.agg q.enc] [] ⟨.bool (nq q),[]⟩:=by
 have m1:=ml q.ls.ifs Ifc.enc;have m2:=ml q.ls.ranges ARange.enc;have m3:=ml q.redist Red.enc;have m4:=ml q.stat Stat.enc;have m5:=ml q.dists bT;have m6:=ml q.pv.peers PeerC.enc;have m7:=ml q.pv.nets Pfx.enc
 by_cases c1:100<q.name.length
 ·refine gvB (F:=mf) ?_
  refine ag ?_;rw[nq,Ad c1]
 by_cases c2:24<q.ls.ifs.length
 ·refine gvB (F:=mf) ?_
  refine ag ?_;rw[nq,Ac c1,Ad c2]
 by_cases c3:24<q.ls.ranges.length
 ·refine gvB (F:=mf) ?_
  refine ag ?_;rw[nq,Ac c1,Ac c2,Ad c3]
 by_cases c4:24<q.redist.length
 ·refine gvB (F:=mf) ?_
  refine ag ?_;rw[nq,Ac c1,Ac c2,Ac c3,Ad c4]
 by_cases c5:24<q.stat.length
 ·refine gvB (F:=mf) ?_
  refine ag ?_;rw[nq,Ac c1,Ac c2,Ac c3,Ac c4,Ad c5]
 by_cases c6:24<q.dists.length
 ·refine gvB (F:=mf) ?_
  refine ag ?_;rw[nq,Ac c1,Ac c2,Ac c3,Ac c4,Ac c5,Ad c6]
 by_cases c7:24<q.pv.peers.length
 ·refine gvB (F:=mf) ?_
  refine ag ?_;rw[nq,Ac c1,Ac c2,Ac c3,Ac c4,Ac c5,Ac c6,Ad c7]
 by_cases c8:40<q.pv.nets.length
 ·refine gvB (F:=mf) ?_
  refine ag ?_;rw[nq,Ac c1,Ac c2,Ac c3,Ac c4,Ac c5,Ac c6,Ac c7,Ad c8]
 rw[nq,Ac c1,Ac c2,Ac c3,Ac c4,Ac c5,Ac c6,Ac c7,Ac c8];refine gvB (F:=mf) ?_;refine ab [54,55,56,1] [65] ?_;rw[m3];exact zY q.redist q rfl hz hz.2.1 _ rfl q.redist [] _ _ _ 0 rfl rfl
def Nh:List Lnk→Bool
 | []=>true
 |x::r=>if 20<x.ends.length then false else Nh r
def sa (ls:List Lnk):List RConf→Bool
 | []=>Nh ls
 |x::r=>if nq x then sa ls r else false
theorem zX (l:List Lnk)(t:Topo)(hl1:t.links=l)(hl:l.length<2^40)(ln:Int)(hln:ln=l.length): ∀(rest done:List Lnk)(T:TV)(H:aw)(c:Nat)(n:Int)(e:l=done++rest)(hn:n=done.length),Ev G ⟨aam,⟨(54,.sl 2 (l.map Lnk.enc))::(55,.int .i64 ln)::(56,.int .i64 n)::(1,.ref 65 1 0)::T,(65,some (1,.cells t.enc))::H,c⟩,[.t 2],0⟩ (⟨.bool (Nh rest),[]⟩)
 | [],done,  T,H,c,n,e,hn=>by
  have hd:=md0 e;have hll:=ml l Lnk.enc;refine evA ?_;refine ag ?_;rfl
 |x::r,done,  T,H,c,n,e,hn=>by
  have hd:=md e;have hll:=ml l Lnk.enc;have hx:=mx Lnk.enc e hn;have hy:(t.links.map Lnk.enc)[n.toNat]? =some x.enc:=by rw[hl1];exact hx
  have hm:(t.links.map Lnk.enc).length=l.length:=by simp[hl1]
  have m1:=ml x.ends LEnd.enc
  by_cases h:20<x.ends.length
  ·refine evA ?_
   refine ag ?_;rw[Nh,Ad h]
  ·rw[Nh,Ac h]
   refine evA ?_;refine ab [54,55,56,1] [65] ?_;exact zX l t hl1 hl ln hln r (done++[x])  _ _ _ (n+1) (by simp[e]) (by simp[hn]<;>omega)
theorem na (l:List RConf)(t:Topo)(hl1:t.routers=l)(hf: ∀x∈l,x.fit)(hk:t.links.length<2^40)(hl:l.length<2^40)(ln:Int)(hln:ln=l.length): ∀(rest done:List RConf)(T:TV)(H:aw)(c:Nat)(n:Int)(e:l=done++rest)(hn:n=done.length),Ev G ⟨adp,⟨(40,.sl 25 (l.map RConf.enc))::(41,.int .i64 ln)::(42,.int .i64 n)::(1,.ref 65 1 0)::T,(65,some (1,.cells t.enc))::H,c⟩,[.t 2],0⟩ (⟨.bool (sa t.links rest),[]⟩)
 | [],done,  T,H,c,n,e,hn=>by
  have hd:=md0 e;have hll:=ml l RConf.enc;have m1:=ml t.links Lnk.enc;refine evA ?_;refine ab [54,55,56,1] [65] ?_;rw[m1];exact zX t.links t rfl hk _ rfl t.links [] _ _ _ 0 rfl rfl
 |x::r,done,  T,H,c,n,e,hn=>by
  have hd:=md e;have hll:=ml l RConf.enc;have hx:=mx RConf.enc e hn;have hy:(t.routers.map RConf.enc)[n.toNat]? =some x.enc:=by rw[hl1];exact hx
  have hm:(t.routers.map RConf.enc).length=l.length:=by simp[hl1]
  have h1:=Ng x (hf x (by simp[e]))
  by_cases h:nq x=true
  ·rw[h] at h1
   rw[sa,Ad h];refine evA ?_;refine ab [40,41,42,1] [65] ?_;exact na l t hl1 hf hk hl ln hln r (done++[x])  _ _ _ (n+1) (by simp[e]) (by simp[hn]<;>omega)
  ·rw[AR] at h
   rw[h] at h1;refine evA ?_;refine ag ?_;rw[sa,h];rfl
def Topo.fit (t:Topo):Prop:=t.routers.length<2^40∧t.links.length<2^40∧ ∀x∈t.routers,x.fit
theorem Rm (t:Topo)(ht:t.fit): ∃b,ah G 377 [.agg t.enc] [] ⟨.bool b,[]⟩∧(b=true→t.routers.length≤40∧sa t.links t.routers=true):=by
 have m1:=ml t.routers RConf.enc;have m2:=ml t.links Lnk.enc
 by_cases c1:12<t.routers.length
 ·by_cases c2:t.routers.length≤32
  ·refine ⟨false,?_,(fun h=>by cases h)⟩
   exact gvA (F:=kh)
  ·by_cases c3:24<t.links.length
   ·by_cases c4:t.links.length≤64
    ·refine ⟨false,?_,(fun h=>by cases h)⟩
     exact gvA (F:=kh)
    ·by_cases c5:40<t.routers.length
     ·refine ⟨false,?_,(fun h=>by cases h)⟩
      exact gvA (F:=kh)
     ·by_cases c6:80<t.links.length
      ·refine ⟨false,?_,(fun h=>by cases h)⟩
       exact gvA (F:=kh)
      ·refine ⟨sa t.links t.routers,?_,fun hb=>⟨by omega,hb⟩⟩
       refine gvB (F:=kh) ?_;refine ab [40,41,42,1] [65] ?_;rw[m1];exact na t.routers t rfl ht.2.2 ht.2.1 ht.1 _ rfl t.routers [] _ _ _ 0 rfl rfl
   ·by_cases c5:40<t.routers.length
    ·refine ⟨false,?_,(fun h=>by cases h)⟩
     exact gvA (F:=kh)
    ·refine ⟨sa t.links t.routers,?_,fun hb=>⟨by omega,hb⟩⟩
     refine gvB (F:=kh) ?_;refine ab [40,41,42,1] [65] ?_;rw[m1];exact na t.routers t rfl ht.2.2 ht.2.1 ht.1 _ rfl t.routers [] _ _ _ 0 rfl rfl
 ·by_cases c3:24<t.links.length
  ·by_cases c4:t.links.length≤64
   ·refine ⟨false,?_,(fun h=>by cases h)⟩
    exact gvA (F:=kh)
   ·by_cases c6:80<t.links.length
    ·refine ⟨false,?_,(fun h=>by cases h)⟩
     exact gvA (F:=kh)
    ·refine ⟨sa t.links t.routers,?_,fun hb=>⟨by omega,hb⟩⟩
     refine gvB (F:=kh) ?_;refine ab [40,41,42,1] [65] ?_;rw[m1];exact na t.routers t rfl ht.2.2 ht.2.1 ht.1 _ rfl t.routers [] _ _ _ 0 rfl rfl
  ·refine ⟨sa t.links t.routers,?_,fun hb=>⟨by omega,hb⟩⟩
   refine gvB (F:=kh) ?_;refine ab [40,41,42,1] [65] ?_;rw[m1];exact na t.routers t rfl ht.2.2 ht.2.1 ht.1 _ rfl t.routers [] _ _ _ 0 rfl rfl
end Go.AM.IR
namespace Go.AM.IR
theorem pD {α:Type}{f:α→Nat}{enc:α→List AV}(h: ∀x,f x+1≤bkL (enc x)): ∀l:List α,l.length+dg f l≤bC (l.map enc)
 | []=>by simp[dg]
 |x::r=>by
  have:=pD h r;have:=h x;rw[Ao,bC,As,dg];omega
theorem bB {α:Type}{enc:α→List AV}(h: ∀x,1≤bkL (enc x))(l:List α):l.length≤bC (l.map enc):=by
 have:=pD (f:=fun _=>0) (enc:=enc) (fun x=>by have:=h x;omega) l
 omega
theorem ef {α:Type}{enc:α→List AV}{x:α}: ∀{l:List α},x∈l→bkL (enc x)≤bC (l.map enc)
 |y::r,h=>by
  rw[Ao,bC];rcases AK.1 h with rfl|h
  ·omega
  ·have:=ef (enc:=enc) h;omega
theorem Pb (x:Mat):0+1≤bkL x.enc:=by simp only[Mat.enc,bkL,AV.bk];omega
theorem DZ (x:Actn):0+1≤bkL x.enc:=by simp only[Actn.enc,bkL,AV.bk];omega
theorem OY (x:Trm):wc x+1≤bkL x.enc:=by
 have h1:=bB (fun x=>by have:=Pb x;omega) x.mats
 have h2:=bB (fun x=>by have:=DZ x;omega) x.acts
 simp only[Trm.enc,bkL,AV.bk,wc];omega
theorem aaD (x:Pol):rA x+1≤bkL x.enc:=by
 have h1:=pD OY x.terms;simp only[Pol.enc,bkL,AV.bk,rA];omega
theorem OZ (x:RuleP):1≤bkL x.enc:=by simp only[RuleP.enc,bkL,AV.bk];omega
theorem O9 (x:PathR):1≤bkL x.enc:=by simp only[PathR.enc,bkL,AV.bk];omega
theorem Tf (x:ComR):1≤bkL x.enc:=by simp only[ComR.enc,bkL,AV.bk];omega
theorem xM (x:PList):x.rules.length+1≤bkL x.enc:=by
 have h1:=bB OZ x.rules;simp only[PList.enc,bkL,AV.bk];omega
theorem xL (x:PathL):x.rules.length+1≤bkL x.enc:=by
 have h1:=bB O9 x.rules;simp only[PathL.enc,bkL,AV.bk];omega
theorem DY (x:ComL):x.rules.length+1≤bkL x.enc:=by
 have h1:=bB Tf x.rules;simp only[ComL.enc,bkL,AV.bk];omega
theorem DX (s:PSet):iY s≤bkL s.enc:=by
 have h1:=pD xM s.prefixes;have h2:=pD xL s.paths;have h3:=pD DY s.comms;have h4:=pD aaD s.pols;simp only[PSet.enc,bkL,AV.bk,iY];omega
theorem O8 (x:Red):1≤bkL x.enc:=by simp only[Red.enc,bkL,AV.bk];omega
theorem xK (x:PeerC):1≤bkL x.enc:=by simp only[PeerC.enc,bkL,AV.bk];omega
theorem Pc (x:Lnk):1≤bkL x.enc:=by simp only[Lnk.enc,bkL,AV.bk];omega
theorem su (c:RConf):iY c.pv.pols+c.redist.length+c.pv.peers.length+1≤bkL c.enc:=by
 have h1:=DX c.pv.pols;have h2:=bB O8 c.redist;have h3:=bB xK c.pv.peers;simp only[PSet.enc,bkL,AV.bk] at h1;simp only[RConf.enc,bkL,AV.bk];omega
theorem ab6 (t:Topo)(h:bkL t.enc≤1048576):t.fit:=by
 have h1:=bB (enc:=RConf.enc) (fun x=>by have:=su x;omega) t.routers
 have h2:=bB Pc t.links;simp only[Topo.enc,bkL,AV.bk] at h;refine ⟨by omega,by omega,fun x hx=>?_⟩
 have h3:=ef (enc:=RConf.enc) hx;have h4:=su x;exact ⟨by omega,by omega,by omega⟩
end Go.AM.IR
namespace Go.AM.IR
@[simp] theorem abj: ∀l:List Int,aG (l.map ew)=true
 | []=>rfl
 |x::r=>by simp only[Ao,aG,abj r];simp[ew,aU,AV.pure]
def jt:List Int→List Int→Bool
 |_,[]=>false
 |d,x::r=>if x∈d then true else jt (d++[x]) r
theorem aec (l:List Int)(hl:l.length<2^40)(i:Nat)(x:Int)(hi:i<l.length)(hx:l[i]? =some x)(ln6:Int)(R:Ret)
  (go: ¬x∈l.take i→ ∀(T:TV)(H:aw)(c:Nat),Ev G ⟨GB,⟨(0,.sl 1 (l.map ew))::(6,.int .i64 ln6)::(7,.int .i64 ((i:Int)+1))::T,H,c⟩,[.t 2],0⟩ R)
  (hR:x∈l.take i→R=⟨.bool true,[]⟩): ∀(f k:Nat)(T:TV)(H:aw)(c:Nat)(hk:k+f=i)(hd: ¬x∈l.take k),
  Ev G ⟨ZY,⟨(11,.int .i64 (k:Int))::(0,.sl 1 (l.map ew))::(3,.int .i64 (i:Int))::(6,.int .i64 ln6)::(7,.int .i64 (i:Int))::(10,.int .i64 (i:Int))::T,H,c⟩,[.t 2],0⟩ R
 |0,k,T,H,c,hk,hd=>by
  obtain rfl:k=i:=by omega
  refine evA ?_;refine ab [0,6,7] [] ?_;exact go hd _ _ _
 |f+1,k,T,H,c,hk,hd=>by
  have hkl:k<l.length:=by omega
  obtain ⟨y,hy⟩: ∃y,l[k]? =some y:=⟨l[k],AJ hkl⟩
  have ht:l.take (k+1)=l.take k++[y]:=by rw[List.take_add_one,hy];rfl
  have hx1:(l.map ew)[((i:Nat):Int).toNat]? =some (ew x):=by simp[hx]
  have hy1:(l.map ew)[((k:Nat):Int).toNat]? =some (ew y):=by simp[hy]
  have hll:=ml l ew
  by_cases h:x=y
  ·subst h
   rw[hR (by
    have:x∈l.take (k+1):=by rw[ht];simp
    exact List.mem_of_mem_take (i:=k+1) (by rw[List.take_take,Nat.min_eq_left (by omega)];exact this))]
   refine evA ?_;refine ag ?_;rfl
  ·refine evA ?_
   refine ab [11,0,3,6,7,10] [] ?_;exact aec l hl i x hi hx ln6 R go hR f (k+1) _ _ _ (by omega) (by rw[ht];simp[hd,h])
theorem R4 (l:List Int)(hl:l.length<2^40)(ln:Int)(hln:ln=l.length): ∀(rest done:List Int)(T:TV)(H:aw)(c:Nat)(n:Int)(e:l=done++rest)(hn:n=done.length),Ev G ⟨GB,⟨(0,.sl 1 (l.map ew))::(6,.int .i64 ln)::(7,.int .i64 n)::T,H,c⟩,[.t 2],0⟩ (⟨.bool (jt done rest),[]⟩)
 | [],done,  T,H,c,n,e,hn=>by
  have hd:=md0 e;have hll:=ml l ew;refine evA ?_;refine ag ?_;rfl
 |x::r,done,  T,H,c,n,e,hn=>by
  have hd:=md e;have hll:=ml l ew;have hx:=mx ew e hn;have hg:l[done.length]? =some x:=by simp[e]
  have ht:l.take done.length=done:=by simp[e]
  rw[hn];refine evA ?_;refine ab [11,0,3,6,7,10] [] ?_;refine aec l hl done.length x (by omega) hg ln _ (fun h T H c=>?_) (fun h=>?_) done.length 0 _ _ _ (by omega) (by simp)
  ·rw[ht] at h
   rw[show jt done (x::r)=jt (done++[x]) r from by rw[jt,Ac h]]
   exact R4 l hl ln hln r (done++[x]) T H c (done.length+1) (by simp[e]) (by simp)
  ·rw[ht] at h
   rw[jt,Ad h]
theorem Qh (l:List Int)(hl:l.length<2^40):ah G 399 [.sl 1 (l.map ew)] [] ⟨.bool (jt [] l),[]⟩:=by
 have hll:=ml l ew;refine gvB (F:=NU) ?_;refine ab [0,6,7] [] ?_;rw[hll];exact R4 l hl _ rfl l [] _ _ _ 0 rfl rfl
def bI:List RConf→List Int
 | []=>[]
 |c::r=>c.ls.ifs.map Ifc.addr++bI r
theorem n6: ∀a b:List RConf,bI (a++b)=bI a++bI b
 | [],b=>rfl
 |c::r,b=>by simp[bI,n6 r b]
theorem v6 (l:List Ifc)(P7:AV)(t:Topo)(y:RConf)(hlx:y.ls.ifs=l)(i ln8:Int)(hi:0≤i∧i<t.routers.length)(hr:t.routers.length<2^40)(hy:(t.routers.map RConf.enc)[i.toNat]? =some y.enc)(o0:List Int)(ho0:o0.length+l.length<2^30)(R:Ret)(go: ∀(T:TV) (H:aw) (c g:Nat),Ev G ⟨Gz,⟨(7,P7)::(8,.int .i64 ln8)::(9,.int .i64 (i+1))::(3,.vs 200 g (o0++l.map Ifc.addr).length)::(1,.ref 65 1 0)::T,(200,some (g,.vec 1 ((o0++l.map Ifc.addr).map ew)))::(65,some (1,.cells t.enc))::H,c⟩,[.t 2],0⟩ R)(hl:l.length<2^40)(ln:Int)(hln:ln=l.length): ∀(rest done:List Ifc)(out:List Int)(es:List (List AV))(m g:Nat)(T:TV)(H:aw)(c:Nat)(n:Int)(e:l=done++rest)(hn:n=done.length)(hes:es=out.map ew)(hm:m=out.length)(ho:out=o0++done.map Ifc.addr),Ev G ⟨ZX,⟨(18,.sl 9 (l.map Ifc.enc))::(19,.int .i64 ln)::(20,.int .i64 n)::(3,.vs 200 g m)::(1,.ref 65 1 0)::(4,.int .i64 i)::(8,.int .i64 ln8)::(9,.int .i64 i)::(7,P7)::T,(200,some (g,.vec 1 es))::(65,some (1,.cells t.enc))::H,c⟩,[.t 2],0⟩ R
 | [],done,out,es,m,g,T,H,c,n,e,hn,hes,hm,ho=>by
  have hd:=md0 e;have hll:=ml l Ifc.enc;have hrl:=ml t.routers RConf.enc;obtain rfl:l=done:=by simp[e]
  subst hes hm ho;refine evA ?_;refine ab [7,8,9,3,1] [200,65] ?_;exact go _ _ _ _
 |x::r,done,out,es,m,g,T,H,c,n,e,hn,hes,hm,ho=>by
  have hd:=md e;have hll:=ml l Ifc.enc;have hx:=mx Ifc.enc e hn;have hrl:=ml t.routers RConf.enc;have hz:(y.ls.ifs.map Ifc.enc)[n.toNat]? =some x.enc:=by rw[hlx];exact hx
  have hzl:(y.ls.ifs.map Ifc.enc).length=l.length:=by simp[hlx]
  have hol:out.length=o0.length+done.length:=by simp[ho]
  subst hes hm;refine evA ?_;refine ab [18,19,20,3,1,4,8,9,7] [200,65] ?_;exact v6 l P7 t y hlx i ln8 hi hr hy o0 ho0 R go hl ln hln r (done++[x]) (out++[x.addr]) (out.map ew++[ew x.addr]) (out.length+1) _ _ _ _ (n+1) (by simp[e]) (by simp[hn]<;>omega) (by simp) (by simp) (by simp[ho])
theorem vZ (l:List RConf)(t:Topo)(hl1:t.routers=l)(hb:(bI l).length<2^30)(hl:l.length<2^40)(ln:Int)(hln:ln=l.length): ∀(rest done:List RConf)(out:List Int)(es:List (List AV))(m g:Nat)(T:TV)(H:aw)(c:Nat)(n:Int)(e:l=done++rest)(hn:n=done.length)(hes:es=out.map ew)(hm:m=out.length)(ho:out=bI done),Ev G ⟨Gz,⟨(7,.sl 25 (l.map RConf.enc))::(8,.int .i64 ln)::(9,.int .i64 n)::(3,.vs 200 g m)::(1,.ref 65 1 0)::T,(200,some (g,.vec 1 es))::(65,some (1,.cells t.enc))::H,c⟩,[.t 2],0⟩ (⟨.vs 0 0 (bI l).length,[(false,.vec 1 ((bI l).map ew))]⟩)
 | [],done,out,es,m,g,T,H,c,n,e,hn,hes,hm,ho=>by
  have hd:=md0 e;have hll:=ml l RConf.enc;have hrl:=ml t.routers RConf.enc;obtain rfl:l=done:=by simp[e]
  subst hes hm ho;refine evA ?_;refine afe 200 _ _ _ rfl rfl puL ?_;rfl
 |x::r,done,out,es,m,g,T,H,c,n,e,hn,hes,hm,ho=>by
  have hd:=md e;have hll:=ml l RConf.enc;have hx:=mx RConf.enc e hn;have hrl:=ml t.routers RConf.enc;have hy:(t.routers.map RConf.enc)[n.toNat]? =some x.enc:=by rw[hl1];exact hx
  have hm':(t.routers.map RConf.enc).length=l.length:=by simp[hl1]
  have hrl2:t.routers.length=l.length:=by rw[hl1]
  have m1:=ml x.ls.ifs Ifc.enc;have ha:bI l=bI done++(x.ls.ifs.map Ifc.addr++bI r):=by rw[e,n6];rfl
  have hal:(bI l).length=(bI done).length+(x.ls.ifs.length+(bI r).length):=by rw[ha];simp
  subst hes hm;refine evA ?_;refine ab [18,19,20,3,1,4,8,9,7] [200,65] ?_;rw[m1];exact v6 x.ls.ifs _ t x rfl n ln (by omega) (by rw[hl1];exact hl) hy out (by rw[ho];omega) _ (fun T H c g=>vZ l t hl1 hb hl ln hln r (done++[x]) (out++x.ls.ifs.map Ifc.addr) _ _ g T H c (n+1) (by simp[e]) (by simp[hn]<;>omega) rfl rfl (by rw[ho,n6];simp[bI])) (by omega) _ rfl x.ls.ifs [] out _ _ _ _ _ _ 0 rfl rfl rfl rfl (by simp)
theorem Ef (t:Topo)(ht:t.routers.length<2^40)(hb:(bI t.routers).length<2^30):ah G 400 [.agg t.enc] [] ⟨.vs 0 0 (bI t.routers).length,[(false,.vec 1 ((bI t.routers).map ew))]⟩:=by
 have hll:=ml t.routers RConf.enc;refine gvB (F:=NT) ?_;refine lf 200 1 [(3,.vs 200 _ 0)] [] ⟨LeP.nilV _ _ _,trivial⟩ trivial ?_;refine ab [7,8,9,3,1] [200,65] ?_;rw[hll];exact vZ t.routers t rfl hb ht _ rfl t.routers [] [] [] 0 _ _ _ _ 0 rfl rfl rfl rfl rfl
end Go.AM.IR
namespace Go.AM.IR
def ifcZ:Ifc:=⟨0,⟨0,0⟩,0,0,0,0,0,0⟩
def dc (t:Topo)(e:LEnd):Option Ifc:=
 if e.router<0 then none else match t.routers[e.router.toNat]? with
 |none=>none
 |some c=>if e.ifc<0 then none else c.ls.ifs[e.ifc.toNat]?
def qW:Option Ifc→Ret
 |none=>⟨.tup [.agg ifcZ.enc,.bool false],[]⟩
 |some x=>⟨.tup [.agg x.enc,.bool true],[]⟩
theorem qV (t:Topo)(e:LEnd)(ht:t.routers.length<2^40)(hf: ∀c∈t.routers,c.ls.ifs.length<2^40):ah G 429 [.agg t.enc,.agg e.enc] [] (qW (dc t e)):=by
 have hll:=ml t.routers RConf.enc
 by_cases h1:e.router<0
 ·rw[dc,Ad h1]
  refine gvB (F:=xp) ?_;refine ag ?_;(conv=>whnf);refine Go.AM.finC ?_;rfl
 rw[dc,Ac h1]
 by_cases h2:t.routers.length≤e.router.toNat
 ·rw[AC h2]
  refine gvB (F:=xp) ?_;refine ag ?_;(conv=>whnf);refine Go.AM.finC ?_;rfl
 obtain ⟨c,hc⟩: ∃c,t.routers[e.router.toNat]? =some c:=⟨_,AJ (by omega)⟩
 rw[hc];have hx:(t.routers.map RConf.enc)[e.router.toNat]? =some c.enc:=by simp[hc]
 have hcl:=hf c (A3 hc);have hl2:=ml c.ls.ifs Ifc.enc;show ah G 429 [.agg t.enc,.agg e.enc] [] (qW (if e.ifc<0 then none else c.ls.ifs[e.ifc.toNat]?))
 by_cases h3:e.ifc<0
 ·rw[Ad h3]
  refine gvB (F:=xp) ?_;refine ag ?_;(conv=>whnf);refine Go.AM.finC ?_;rfl
 rw[Ac h3]
 by_cases h4:c.ls.ifs.length≤e.ifc.toNat
 ·rw[AC h4]
  refine gvB (F:=xp) ?_;refine ag ?_;(conv=>whnf);refine Go.AM.finC ?_;rfl
 obtain ⟨f,hf'⟩: ∃f,c.ls.ifs[e.ifc.toNat]? =some f:=⟨_,AJ (by omega)⟩
 rw[hf'];have hy:(c.ls.ifs.map Ifc.enc)[e.ifc.toNat]? =some f.enc:=by simp[hf']
 refine gvB (F:=xp) ?_;refine ag ?_;(conv=>whnf);refine Go.AM.finC ?_;rfl
end Go.AM.IR
namespace Go.AM.IR
deriving instance DecidableEq for LEnd
def iB (t:Topo)(prev:List Lnk):List LEnd→List LEnd→Int
 |_,[]=>0
 |d,x::r=>if dc t x=none then 5 else if∃y∈prev,x∈y.ends then 7 else if x∈d then 7 else if∃y∈d,y.router=x.router then 1 else iB t prev (d++[x]) r
theorem en33 (t:Topo)(l:List LEnd)(hl:l.length<2^40)(i:Nat)(hi:i<2^40)(ln:Int)(d:Nat)(x:LEnd)(hd:d<l.length)(hx:l[d]? =some x)(R:Ret)
  (go: ¬(∃y∈l.take d,y.router=x.router)→ ∀(T:TV)(H:aw)(c:Nat),Ev G ⟨F7,⟨(21,.int .i64 ((d:Int)+1))::(5,.sl 2 (l.map LEnd.enc))::(2,.ref 66 1 0)::(1,.int .i64 (i:Int))::(20,.int .i64 ln)::T,(66,some (1,.cells t.enc))::H,c⟩,[.t 4],0⟩ R)
  (hR:(∃y∈l.take d,y.router=x.router)→R=⟨.int .i64 1,[]⟩): ∀(f k:Nat)(T:TV)(H:aw)(c:Nat)(hk:k+f=d)(hP: ¬(∃y∈l.take k,y.router=x.router)),
  Ev G ⟨F8,⟨(80,.int .i64 (k:Int))::(79,.int .i64 (d:Int))::(5,.sl 2 (l.map LEnd.enc))::(2,.ref 66 1 0)::(1,.int .i64 (i:Int))::(20,.int .i64 ln)::(21,.int .i64 (d:Int))::(6,.int .i64 (d:Int))::T,(66,some (1,.cells t.enc))::H,c⟩,[.t 4],0⟩ R
 |0,k,T,H,c,hk,hP=>by
  obtain rfl:k=d:=by omega
  refine evA ?_;refine ab [21,5,2,1,20] [66] ?_;exact go hP _ _ _
 |f+1,k,T,H,c,hk,hP=>by
  have hkl:k<l.length:=by omega
  obtain ⟨y,hy⟩: ∃y,l[k]? =some y:=⟨l[k],AJ hkl⟩
  have ht:l.take (k+1)=l.take k++[y]:=by rw[List.take_add_one,hy];rfl
  have hsub: ∀z,z∈l.take (k+1)→z∈l.take d:=fun z hz=>List.mem_of_mem_take (i:=k+1) (by rw[List.take_take,Nat.min_eq_left (by omega)];exact hz)
  have hx1:(l.map LEnd.enc)[((d:Nat):Int).toNat]? =some x.enc:=by simp[hx]
  have hy1:(l.map LEnd.enc)[((k:Nat):Int).toNat]? =some y.enc:=by simp[hy]
  have hll:=ml l LEnd.enc
  by_cases h:y.router=x.router
  ·rw[hR ⟨y,hsub y (by rw[ht];simp),h⟩]
   refine evA ?_;refine ag ?_;rfl
  ·refine evA ?_
   refine ab [80,79,5,2,1,20,21,6] [66] ?_
   exact en33 t l hl i hi ln d x hd hx R go hR f (k+1) _ _ _ (by omega) (by
    rw[ht];rintro ⟨z,hz,e⟩
    rcases B4.1 hz with hz|hz
    ·exact hP ⟨z,hz,e⟩
    ·simp only[B5] at hz;subst hz;exact h e)
theorem adE (t:Topo)(l:List LEnd)(hl:l.length<2^40)(i:Nat)(hi:i<2^40)(ln:Int)(d:Nat)(x:LEnd)(hd:d<l.length)(hx:l[d]? =some x)(R:Ret)
  (go: ¬(x∈l.take d)→ ∀(T:TV)(H:aw)(c:Nat),Ev G ⟨F8,⟨(80,.int .i64 0)::(79,.int .i64 (d:Int))::(5,.sl 2 (l.map LEnd.enc))::(2,.ref 66 1 0)::(1,.int .i64 (i:Int))::(20,.int .i64 ln)::(21,.int .i64 (d:Int))::(6,.int .i64 (d:Int))::T,(66,some (1,.cells t.enc))::H,c⟩,[.t 4],0⟩ R)
  (hR:(x∈l.take d)→R=⟨.int .i64 7,[]⟩): ∀(f k:Nat)(T:TV)(H:aw)(c:Nat)(hk:k+f=d)(hP: ¬(x∈l.take k)),
  Ev G ⟨F9,⟨(66,.int .i64 (k:Int))::(65,.int .i64 (d:Int))::(5,.sl 2 (l.map LEnd.enc))::(2,.ref 66 1 0)::(1,.int .i64 (i:Int))::(20,.int .i64 ln)::(21,.int .i64 (d:Int))::(6,.int .i64 (d:Int))::T,(66,some (1,.cells t.enc))::H,c⟩,[.t 4],0⟩ R
 |0,k,T,H,c,hk,hP=>by
  obtain rfl:k=d:=by omega
  refine evA ?_;refine ab [80,79,5,2,1,20,21,6] [66] ?_;exact go hP _ _ _
 |f+1,k,T,H,c,hk,hP=>by
  have hkl:k<l.length:=by omega
  obtain ⟨y,hy⟩: ∃y,l[k]? =some y:=⟨l[k],AJ hkl⟩
  have ht:l.take (k+1)=l.take k++[y]:=by rw[List.take_add_one,hy];rfl
  have hsub: ∀z,z∈l.take (k+1)→z∈l.take d:=fun z hz=>List.mem_of_mem_take (i:=k+1) (by rw[List.take_take,Nat.min_eq_left (by omega)];exact hz)
  have hx1:(l.map LEnd.enc)[((d:Nat):Int).toNat]? =some x.enc:=by simp[hx]
  have hy1:(l.map LEnd.enc)[((k:Nat):Int).toNat]? =some y.enc:=by simp[hy]
  have hll:=ml l LEnd.enc
  by_cases h:y=x
  ·subst h
   rw[hR (hsub y (by rw[ht];simp))]
   refine evA ?_;refine ag ?_;rfl
  ·have hP': ¬x∈l.take (k+1):=by
    rw[ht];intro hz
    rcases B4.1 hz with hz|hz
    ·exact hP hz
    ·simp only[B5] at hz;exact h hz.symm
   have h': ¬(y.router=x.router∧y.ifc=x.ifc):=by
    rintro ⟨e1,e2⟩;apply h;cases y;cases x;simp_all
   by_cases h1:y.router=x.router
   ·have h2: ¬y.ifc=x.ifc:=fun e=>h' ⟨h1,e⟩
    refine evA ?_;refine ab [66,65,5,2,1,20,21,6] [66] ?_;exact adE t l hl i hi ln d x hd hx R go hR f (k+1) _ _ _ (by omega) hP'
   ·refine evA ?_
    refine ab [66,65,5,2,1,20,21,6] [66] ?_;exact adE t l hl i hi ln d x hd hx R go hR f (k+1) _ _ _ (by omega) hP'
theorem adF (l2:List LEnd)(t:Topo)(htl:t.links.length<2^40)(l:List LEnd)(hl0:l.length<2^40)(i:Nat)(hi:i<t.links.length)(ln0:Int)(d:Nat)(w:LEnd)(hd0:d<l.length)(hx0:l[d]? =some w)(R:Ret)(j:Nat)(hj:j<i)(lk:Lnk)(hlk:t.links[j]? =some lk)(hl2:lk.ends=l2)(go: ¬w∈l2→ ∀(T:TV) (H:aw) (c:Nat),Ev G ⟨Gb,⟨(36,.int .i64 ((j:Int)+1))::(35,.int .i64 (i:Int))::(5,.sl 2 (l.map LEnd.enc))::(2,.ref 66 1 0)::(1,.int .i64 (i:Int))::(20,.int .i64 ln0)::(21,.int .i64 (d:Int))::(6,.int .i64 (d:Int))::T,(66,some (1,.cells t.enc))::H,c⟩,[.t 4],0⟩ R)(hR:w∈l2→R=⟨.int .i64 7,[]⟩)(hl:l2.length<2^40)(ln:Int)(hln:ln=l2.length): ∀(rest done:List LEnd)(T:TV)(H:aw)(c:Nat)(n:Int)(e:l2=done++rest)(hn:n=done.length)(hP: ¬w∈done),Ev G ⟨Y6,⟨(44,.sl 2 (l2.map LEnd.enc))::(45,.int .i64 ln)::(46,.int .i64 n)::(36,.int .i64 (j:Int))::(35,.int .i64 (i:Int))::(9,.int .i64 (j:Int))::(5,.sl 2 (l.map LEnd.enc))::(2,.ref 66 1 0)::(1,.int .i64 (i:Int))::(20,.int .i64 ln0)::(21,.int .i64 (d:Int))::(6,.int .i64 (d:Int))::T,(66,some (1,.cells t.enc))::H,c⟩,[.t 4],0⟩ R
 | [],done,  T,H,c,n,e,hn,hP=>by
  have hd:=md0 e;have hll:=ml l2 LEnd.enc;obtain rfl:l2=done:=by simp[e]
  refine evA ?_;refine ab [36,35,5,2,1,20,21,6] [66] ?_;exact go hP _ _ _
 |x::r,done,  T,H,c,n,e,hn,hP=>by
  have hd:=md e;have hll:=ml l2 LEnd.enc;have hx:=mx LEnd.enc e hn;have hx1:(l.map LEnd.enc)[((d:Nat):Int).toNat]? =some w.enc:=by simp[hx0]
  have hl1:=ml l LEnd.enc;have hy1:(t.links.map Lnk.enc)[((j:Nat):Int).toNat]? =some lk.enc:=by simp[hlk]
  have hy2:=ml t.links Lnk.enc;have hz1:(lk.ends.map LEnd.enc)[n.toNat]? =some x.enc:=by rw[hl2];exact hx
  have hz2:(lk.ends.map LEnd.enc).length=l2.length:=by simp[hl2]
  by_cases h:x=w
  ·subst h
   rw[hR (by rw[e];simp)]
   refine evA ?_;refine ag ?_;rfl
  ·have hP': ¬w∈done++[x]:=by
    intro hz;rcases B4.1 hz with hz|hz
    ·exact hP hz
    ·simp only[B5] at hz;exact h hz.symm
   have h': ¬(x.router=w.router∧x.ifc=w.ifc):=by
    rintro ⟨e1,e2⟩;apply h;cases x;cases w;simp_all
   by_cases h1:x.router=w.router
   ·have h2: ¬x.ifc=w.ifc:=fun e=>h' ⟨h1,e⟩
    refine evA ?_;refine ab [44,45,46,36,35,9,5,2,1,20,21,6] [66] ?_;exact adF l2 t htl l hl0 i hi ln0 d w hd0 hx0 R j hj lk hlk hl2 go hR hl ln hln r (done++[x])  _ _ _ (n+1) (by simp[e]) (by simp[hn]<;>omega) hP'
   ·refine evA ?_
    refine ab [44,45,46,36,35,9,5,2,1,20,21,6] [66] ?_;exact adF l2 t htl l hl0 i hi ln0 d w hd0 hx0 R j hj lk hlk hl2 go hR hl ln hln r (done++[x])  _ _ _ (n+1) (by simp[e]) (by simp[hn]<;>omega) hP'
theorem en19 (t:Topo)(htl:t.links.length<2^40)(l:List LEnd)(hl0:l.length<2^40)(i:Nat)(hi:i<t.links.length)(ln0:Int)(d:Nat)(w:LEnd)(hd0:d<l.length)(hx0:l[d]? =some w)(R:Ret)
  (go: ¬(∃y∈t.links.take i,w∈y.ends)→ ∀(T:TV)(H:aw)(c:Nat),Ev G ⟨F9,⟨(66,.int .i64 0)::(65,.int .i64 (d:Int))::(5,.sl 2 (l.map LEnd.enc))::(2,.ref 66 1 0)::(1,.int .i64 (i:Int))::(20,.int .i64 ln0)::(21,.int .i64 (d:Int))::(6,.int .i64 (d:Int))::T,(66,some (1,.cells t.enc))::H,c⟩,[.t 4],0⟩ R)
  (hR:(∃y∈t.links.take i,w∈y.ends)→R=⟨.int .i64 7,[]⟩) (hel: ∀y∈t.links,y.ends.length<2^40): ∀(f k:Nat)(T:TV)(H:aw)(c:Nat)(hk:k+f=i)(hP: ¬(∃y∈t.links.take k,w∈y.ends)),
  Ev G ⟨Gb,⟨(36,.int .i64 (k:Int))::(35,.int .i64 (i:Int))::(5,.sl 2 (l.map LEnd.enc))::(2,.ref 66 1 0)::(1,.int .i64 (i:Int))::(20,.int .i64 ln0)::(21,.int .i64 (d:Int))::(6,.int .i64 (d:Int))::T,(66,some (1,.cells t.enc))::H,c⟩,[.t 4],0⟩ R
 |0,k,T,H,c,hk,hP=>by
  obtain rfl:k=i:=by omega
  refine evA ?_;refine ab [66,65,5,2,1,20,21,6] [66] ?_;exact go hP _ _ _
 |f+1,k,T,H,c,hk,hP=>by
  have hkl:k<t.links.length:=by omega
  obtain ⟨y,hy⟩: ∃y,t.links[k]? =some y:=⟨t.links[k],AJ hkl⟩
  have ht:t.links.take (k+1)=t.links.take k++[y]:=by rw[List.take_add_one,hy];rfl
  have hsub: ∀z,z∈t.links.take (k+1)→z∈t.links.take i:=fun z hz=>List.mem_of_mem_take (i:=k+1) (by rw[List.take_take,Nat.min_eq_left (by omega)];exact hz)
  have hy1:(t.links.map Lnk.enc)[((k:Nat):Int).toNat]? =some y.enc:=by simp[hy]
  have hy2:=ml t.links Lnk.enc;have hy3:=ml y.ends LEnd.enc;refine evA ?_;refine ab [44,45,46,36,35,9,5,2,1,20,21,6] [66] ?_;rw[hy3]
  exact adF y.ends t htl l hl0 i hi ln0 d w hd0 hx0 R k (by omega) y hy rfl (fun h T H c=>en19 t htl l hl0 i hi ln0 d w hd0 hx0 R go hR hel f (k+1) T H c (by omega) (by
   rw[ht];rintro ⟨z,hz,hw⟩
   rcases B4.1 hz with hz|hz
   ·exact hP ⟨z,hz,hw⟩
   ·simp only[B5] at hz;subst hz;exact h hw)) (fun h=>hR ⟨y,hsub y (by rw[ht];simp),h⟩) (hel y (A3 hy)) _ rfl y.ends [] _ _ _ 0 rfl rfl (by simp)
theorem en35 (l:List LEnd)(t:Topo)(hrl:t.routers.length<2^40)(hif: ∀c∈t.routers,c.ls.ifs.length<2^40)(htl:t.links.length<2^40)(hel: ∀y∈t.links,y.ends.length<2^40)(i:Nat)(hi:i<t.links.length)(hl:l.length<2^40)(ln:Int)(hln:ln=l.length): ∀(rest done:List LEnd)(T:TV)(H:aw)(c:Nat)(n:Int)(e:l=done++rest)(hn:n=done.length),Ev G ⟨F7,⟨(5,.sl 2 (l.map LEnd.enc))::(20,.int .i64 ln)::(21,.int .i64 n)::(2,.ref 66 1 0)::(1,.int .i64 (i:Int))::T,(66,some (1,.cells t.enc))::H,c⟩,[.t 4],0⟩ (⟨.int .i64 (iB t (t.links.take i) done rest),[]⟩)
 | [],done,  T,H,c,n,e,hn=>by
  have hd:=md0 e;have hll:=ml l LEnd.enc;refine evA ?_;refine ag ?_;rfl
 |x::r,done,  T,H,c,n,e,hn=>by
  have hd:=md e;have hll:=ml l LEnd.enc;have hx:=mx LEnd.enc e hn;have h1:=qV t x hrl hif;have hg:l[done.length]? =some x:=by simp[e]
  have ht:l.take done.length=done:=by simp[e]
  rw[hn];rw[hn] at hx;rcases ho:dc t x with _|f
  ·rw[ho] at h1
   rw[iB,Ad ho];simp only[qW] at h1;refine evA ?_;refine ag ?_;rfl
  ·rw[ho] at h1
   simp only[qW] at h1;rw[iB,Ac (by simp[ho])]
   refine evA ?_;refine ab [36,35,5,2,1,20,21,6] [66] ?_;refine en19 t htl l hl i hi ln done.length x (by omega) hg _ (fun g1 T H c=>?_) (fun g1=>by rw[Ad g1]) hel i 0 _ _ _ (by omega) (by simp)
   refine adE t l hl i (by omega) ln done.length x (by omega) hg _ (fun g2 T H c=>?_) (fun g2=>by rw[Ac g1,Ad (by rw[←ht];exact g2)]) done.length 0 _ _ _ (by omega) (by simp)
   refine en33 t l hl i (by omega) ln done.length x (by omega) hg _ (fun g3 T H c=>?_) (fun g3=>by rw[Ac g1,Ac (by rw[←ht];exact g2),Ad (by rw[←ht];exact g3)]) done.length 0 _ _ _ (by omega) (by simp)
   rw[ht] at g2 g3;rw[Ac g1,Ac g2,Ac g3];refine ab [5,20,21,2,1] [66] ?_;exact en35 l t hrl hif htl hel i hi hl ln hln r (done++[x]) _ _ _ (done.length+1) (by simp[e]) (by simp)
theorem Js (t:Topo)(hrl:t.routers.length<2^40)(hif: ∀c∈t.routers,c.ls.ifs.length<2^40)(htl:t.links.length<2^40)(hel: ∀y∈t.links,y.ends.length<2^40)(i:Nat)(y:Lnk)(hy:t.links[i]? =some y):ah G 447 [.agg t.enc,.int .i64 (i:Int)] [] ⟨.int .i64 (iB t (t.links.take i) [] y.ends),[]⟩:=by
 have hi:i<t.links.length:=(Az.1 hy).1;have hy1:(t.links.map Lnk.enc)[((i:Nat):Int).toNat]? =some y.enc:=by simp[hy]
 have hy2:=ml t.links Lnk.enc;have hy3:=ml y.ends LEnd.enc;refine gvB (F:=ud) ?_;refine ab [5,20,21,2,1] [66] ?_;rw[hy3];exact en35 y.ends t hrl hif htl hel i hi (hel y (A3 hy)) _ rfl y.ends [] _ _ _ 0 rfl rfl
end Go.AM.IR
namespace Go.AM.IR
def bM (t:Topo)(e:LEnd):Ifc:=(dc t e).getD ifcZ
theorem kU (t:Topo)(e:LEnd)(ht:t.routers.length<2^40)(hf: ∀c∈t.routers,c.ls.ifs.length<2^40):ah G 429 [.agg t.enc,.agg e.enc] [] ⟨.tup [.agg (bM t e).enc,.bool (dc t e).isSome],[]⟩:=by
 have h:=qV t e ht hf;unfold bM;cases ho:dc t e<;>rw[ho] at h<;>exact h
def qd (t:Topo)(a:Ifc):List LEnd→Int
 | []=>0
 |x::r=>if a.kind≠(bM t x).kind then 14 else if¬(a.pfx.addr=(bM t x).pfx.addr∧a.pfx.len=(bM t x).pfx.len) then 14 else if a.area≠(bM t x).area then 14 else if a.hello≠(bM t x).hello then 14 else if a.dead≠(bM t x).dead then 14 else qd t a r
def kO (t:Topo)(y:Lnk)(a:Ifc):List LEnd→Int
 | []=>qd t a y.ends
 |x::r=>if (bM t x).kind≠2∧2<y.ends.length then 15 else kO t y a r
def jB (t:Topo)(i:Nat)(y:Lnk):Int:=
 if y.ends.length<2 then 1 else if y.delay<1 then 5 else if 60<y.delay then 5 else if iB t (t.links.take i) [] y.ends≠0 then iB t (t.links.take i) [] y.ends else
 match y.ends with
 | []=>0
 |x::_=>kO t y (bM t x) y.ends
theorem lk25 (l:List LEnd)(t:Topo)(hrl:t.routers.length<2^40)(hif: ∀c∈t.routers,c.ls.ifs.length<2^40)(y:Lnk)(hy:y.ends=l)(a:Ifc)(g5 g7:Nat)(hl:l.length<2^40)(ln:Int)(hln:ln=l.length): ∀(rest done:List LEnd)(T:TV)(H:aw)(c:Nat)(n:Int)(e:l=done++rest)(hn:n=done.length),Ev G ⟨ZU,⟨(74,.sl 2 (l.map LEnd.enc))::(75,.int .i64 ln)::(76,.int .i64 n)::(5,.ref 69 g5 0)::(2,.ref 66 1 0)::(7,.ref 71 g7 0)::T,(66,some (1,.cells t.enc))::(69,some (g5,.cells y.enc))::(71,some (g7,.cells a.enc))::H,c⟩,[.t 4],0⟩ (⟨.int .i64 (qd t a rest),[]⟩)
 | [],done,  T,H,c,n,e,hn=>by
  have hd:=md0 e;have hll:=ml l LEnd.enc;refine evA ?_;refine ag ?_;rfl
 |x::r,done,  T,H,c,n,e,hn=>by
  have hd:=md e;have hll:=ml l LEnd.enc;have hx:=mx LEnd.enc e hn;have h1:=kU t x hrl hif;have hz1:(y.ends.map LEnd.enc)[n.toNat]? =some x.enc:=by rw[hy];exact hx
  have hz2:(y.ends.map LEnd.enc).length=l.length:=by simp[hy]
  rw[qd];generalize bM t x=b at*;generalize (dc t x).isSome=s at*
  by_cases c1:a.kind=b.kind
  ·by_cases c2:a.pfx.addr=b.pfx.addr
   ·by_cases c3:a.pfx.len=b.pfx.len
    ·by_cases c4:a.area=b.area
     ·by_cases c5:a.hello=b.hello
      ·by_cases c6:a.dead=b.dead
       ·rw[Ac (by simp[c1]),Ac (by simp[c2,c3]),Ac (by simp[c4]),Ac (by simp[c5]),Ac (by simp[c6])]
        refine evA ?_;refine ab [74,75,76,5,2,7] [66,69,71] ?_;exact lk25 l t hrl hif y hy a g5 g7 hl ln hln r (done++[x])  _ _ _ (n+1) (by simp[e]) (by simp[hn]<;>omega)
       ·rw[Ac (by simp[c1]),Ac (by simp[c2,c3]),Ac (by simp[c4]),Ac (by simp[c5]),Ad c6]
        refine evA ?_;refine ag ?_;rfl
      ·rw[Ac (by simp[c1]),Ac (by simp[c2,c3]),Ac (by simp[c4]),Ad c5]
       refine evA ?_;refine ag ?_;rfl
     ·rw[Ac (by simp[c1]),Ac (by simp[c2,c3]),Ad c4]
      refine evA ?_;refine ag ?_;rfl
    ·rw[Ac (by simp[c1]),Ad (by simp[c3])]
     refine evA ?_;refine ag ?_;rfl
   ·rw[Ac (by simp[c1]),Ad (by simp[c2])]
    refine evA ?_;refine ag ?_;rfl
  ·rw[Ad c1]
   refine evA ?_;refine ag ?_;rfl
theorem abO (l:List LEnd)(t:Topo)(hrl:t.routers.length<2^40)(hif: ∀c∈t.routers,c.ls.ifs.length<2^40)(y:Lnk)(hy:y.ends=l)(a:Ifc)(g5 g7:Nat)(hl:l.length<2^40)(ln:Int)(hln:ln=l.length): ∀(rest done:List LEnd)(T:TV)(H:aw)(c:Nat)(n:Int)(e:l=done++rest)(hn:n=done.length),Ev G ⟨ZW,⟨(48,.sl 2 (l.map LEnd.enc))::(49,.int .i64 ln)::(50,.int .i64 n)::(5,.ref 69 g5 0)::(2,.ref 66 1 0)::(7,.ref 71 g7 0)::T,(66,some (1,.cells t.enc))::(69,some (g5,.cells y.enc))::(71,some (g7,.cells a.enc))::H,c⟩,[.t 4],0⟩ (⟨.int .i64 (kO t y a rest),[]⟩)
 | [],done,  T,H,c,n,e,hn=>by
  have hd:=md0 e;have hll:=ml l LEnd.enc;have hz2:(y.ends.map LEnd.enc).length=l.length:=by simp[hy]
  have hy':y.ends.map LEnd.enc=l.map LEnd.enc:=by rw[hy]
  rw[kO,hy];refine evA ?_;refine ab [74,75,76,5,2,7] [66,69,71] ?_;rw[hy'];exact lk25 l t hrl hif y hy a g5 g7 hl _ (by simp) l [] _ _ _ 0 rfl rfl
 |x::r,done,  T,H,c,n,e,hn=>by
  have hd:=md e;have hll:=ml l LEnd.enc;have hx:=mx LEnd.enc e hn;have h1:=kU t x hrl hif;have hz1:(y.ends.map LEnd.enc)[n.toNat]? =some x.enc:=by rw[hy];exact hx
  have hz2:(y.ends.map LEnd.enc).length=l.length:=by simp[hy]
  have hz3:y.ends.length=l.length:=by simp[hy]
  rw[kO];generalize bM t x=b at*;generalize (dc t x).isSome=s at*
  by_cases c1:b.kind=2
  ·rw[Ac (by simp[c1])]
   refine evA ?_;refine ab [48,49,50,5,2,7] [66,69,71] ?_;exact abO l t hrl hif y hy a g5 g7 hl ln hln r (done++[x])  _ _ _ (n+1) (by simp[e]) (by simp[hn]<;>omega)
  ·by_cases c2:2<y.ends.length
   ·rw[Ad ⟨c1,c2⟩]
    refine evA ?_;refine ag ?_;rfl
   ·rw[Ac (fun h=>c2 h.2)]
    refine evA ?_;refine ab [48,49,50,5,2,7] [66,69,71] ?_;exact abO l t hrl hif y hy a g5 g7 hl ln hln r (done++[x])  _ _ _ (n+1) (by simp[e]) (by simp[hn]<;>omega)
theorem Jg (t:Topo)(hrl:t.routers.length<2^40)(hif: ∀c∈t.routers,c.ls.ifs.length<2^40)(htl:t.links.length<2^40)(hel: ∀y∈t.links,y.ends.length<2^40)(i:Nat)(y:Lnk)(hy:t.links[i]? =some y):ah G 401 [.agg t.enc,.int .i64 (i:Int)] [] ⟨.int .i64 (jB t i y),[]⟩:=by
 have hi:i<t.links.length:=(Az.1 hy).1;have hy1:(t.links.map Lnk.enc)[((i:Nat):Int).toNat]? =some y.enc:=by simp[hy]
 have hy2:=ml t.links Lnk.enc;have hy3:=ml y.ends LEnd.enc;have h0:=Js t hrl hif htl hel i y hy;have hye:=hel y (A3 hy);rw[jB];generalize hE:iB t (t.links.take i) [] y.ends=E at*
 by_cases c1:y.ends.length<2
 ·rw[Ad c1]
  exact gvA (F:=sg)
 rw[Ac c1]
 by_cases c2:y.delay<1
 ·rw[Ad c2]
  exact gvA (F:=sg)
 rw[Ac c2]
 by_cases c3:60<y.delay
 ·rw[Ad c3]
  exact gvA (F:=sg)
 rw[Ac c3]
 by_cases c4:E=0
 ·rw[Ac (by simp[c4])]
  rcases hq:y.ends with _|⟨x,q⟩
  ·rw[hq] at c1;simp at c1
  ·have h1:=kU t x hrl hif
   have hx0:(y.ends.map LEnd.enc)[(0:Int).toNat]? =some x.enc:=by rw[hq];rfl
   show ah G 401 [.agg t.enc,.int .i64 (i:Int)] [] ⟨.int .i64 (kO t y (bM t x) (x::q)),[]⟩
   rw[←hq];subst c4;refine gvB (F:=sg) ?_;refine ab [48,49,50,5,2,7] [66,69,71] ?_;rw[hy3];exact abO y.ends t hrl hif y rfl (bM t x) _ _ hye _ rfl y.ends [] _ _ _ 0 rfl rfl
 ·rw[Ad c4]
  exact gvA (F:=sg)
end Go.AM.IR
namespace Go.AM.IR
section
variable {k:Eff→Prop} {x y:Opd} {g key:Nat} {hg:Nat→Option (Nat×Blk)}
end
def dX (b:UInt8):Bool:=b.toNat==45||(decide (48≤b.toNat)&&decide (b.toNat≤57))||(decide (97≤b.toNat)&&decide (b.toNat≤122))
def tw (s:List UInt8):Bool:=s.all dX&&(decide (1≤s.length)&&decide ((s.length:Int)≤32))
theorem idx_at {s done rest:List UInt8}{x:UInt8}{n:Int}(e:s=done++x::rest)(hn:n=done.length):s[n.toNat]? =some x:=by
 rw[e,hn];simp
theorem mB (s:List UInt8)(hs:s.length<2^40): ∀(rest done:List UInt8)(T:TV)(H:aw)(c:Nat)(n:Int)(e:s=done++rest)(hn:n=done.length),
  Ev G ⟨ac4,⟨(6,.int .i64 n)::(0,.str s)::(5,.int .i64 s.length)::T,H,c⟩,[.t 2],0⟩ ⟨.bool (rest.all dX&&(decide (1≤s.length)&&decide ((s.length:Int)≤32))),[]⟩
 | [],done,T,H,c,n,e,hn=>by
  have hd:=md0 e
  by_cases h1:1≤s.length
  ·rw[Al h1]
   refine evA ?_;refine ag ?_;rfl
  ·rw[An h1]
   refine evA ?_;refine ag ?_;rfl
 |x::rest,done,T,H,c,n,e,hn=>by
  have hd:=md e;have hb:=idx_at e hn;rw[List.all_cons]
  by_cases h0:x.toNat<45
  ·have hc:dX x=false:=by unfold dX;simp;omega
   rw[hc,BF,BF];refine evl ?_
   repeat' (first|refine cg ?_|(refine ae ?_ ?_<;>intro h))
   refine ag ?_;rfl
  by_cases h1:x.toNat=45
  ·have hc:dX x=true:=by unfold dX;simp;omega
   rw[hc,BK];refine evl ?_
   repeat' (first|refine cg ?_|(refine ae ?_ ?_<;>intro h))
   refine ab [6,0,5] [] ?_;exact mB s hs rest (done++[x]) _ _ _ (n+1) (by simp[e]) (by simp[hn])
  by_cases h2:x.toNat<48
  ·have hc:dX x=false:=by unfold dX;simp;omega
   rw[hc,BF,BF];refine evl ?_
   repeat' (first|refine cg ?_|(refine ae ?_ ?_<;>intro h))
   refine ag ?_;rfl
  by_cases h3:x.toNat≤57
  ·have hc:dX x=true:=by unfold dX;simp;omega
   rw[hc,BK];refine evl ?_
   repeat' (first|refine cg ?_|(refine ae ?_ ?_<;>intro h))
   refine ab [6,0,5] [] ?_;exact mB s hs rest (done++[x]) _ _ _ (n+1) (by simp[e]) (by simp[hn])
  by_cases h4:x.toNat<97
  ·have hc:dX x=false:=by unfold dX;simp;omega
   rw[hc,BF,BF];refine evl ?_
   repeat' (first|refine cg ?_|(refine ae ?_ ?_<;>intro h))
   refine ag ?_;rfl
  by_cases h5:x.toNat≤122
  ·have hc:dX x=true:=by unfold dX;simp;omega
   rw[hc,BK];refine evl ?_
   repeat' (first|refine cg ?_|(refine ae ?_ ?_<;>intro h))
   refine ab [6,0,5] [] ?_;exact mB s hs rest (done++[x]) _ _ _ (n+1) (by simp[e]) (by simp[hn])
  have hc:dX x=false:=by unfold dX;simp;omega
  rw[hc,BF,BF];refine evl ?_
  repeat' (first|refine cg ?_|(refine ae ?_ ?_<;>intro h))
  refine ag ?_;rfl
theorem Mg (s:List UInt8)(hs:s.length<2^40):ah G 442 [.str s] [] ⟨.bool (tw s),[]⟩:=by
 refine gvB (F:=Wg) ?_;refine ab [6,0,5] [] ?_;exact mB s hs s [] _ _ _ 0 rfl rfl
end Go.AM.IR
namespace Go.AM.IR
def gz:List Pol→List UInt8→Option Pol
 | [],_=>none
 |x::r,k=>if x.name=k then some x else gz r k
def iQ:Option Pol→Ret
 |none=>⟨.tup [.agg [.str [],.con (.slice none 0 0),.int .i64 0],.bool false],[]⟩
 |some x=>⟨.tup [.agg x.enc,.bool true],[]⟩
theorem vv (l:List Pol)(k:List UInt8)(g:Nat)(hl:l.length<2^40)(ln:Int)(hln:ln=l.length): ∀(rest done:List Pol)(T:TV)(H:aw)(c:Nat)(n:Int)(e:l=done++rest)(hn:n=done.length),Ev G ⟨acU,⟨(9,.sl 3 (l.map Pol.enc))::(10,.int .i64 ln)::(11,.int .i64 n)::(4,.ref 68 g 0)::(1,.str k)::T,(68,some (g,.cells [.str [],.con (.slice none 0 0),.int .i64 0]))::H,c⟩,[.cell 4 (some 3),.t 5],0⟩ (iQ (gz rest k))
 | [],done,  T,H,c,n,e,hn=>by
  have hd:=md0 e;have hll:=ml l Pol.enc;refine evA ?_;refine ag ?_;(conv=>whnf);refine Go.AM.finC ?_;rfl
 |x::r,done,  T,H,c,n,e,hn=>by
  have hd:=md e;have hll:=ml l Pol.enc;have hx:=mx Pol.enc e hn
  by_cases hk:x.name=k
  ·rw[gz,Ad hk]
   refine evl ?_
   repeat' (first|refine cg ?_|(refine ae ?_ ?_<;>intro h))
   refine ag ?_;(conv=>whnf);refine Go.AM.finC ?_;rfl
  ·rw[gz,Ac hk]
   refine evl ?_
   repeat' (first|refine cg ?_|(refine ae ?_ ?_<;>intro h))
   refine ab [9,10,11,4,1] [68] ?_;exact vv l k g hl ln hln r (done++[x])  _ _ _ (n+1) (by simp[e]) (by simp[hn]<;>omega)
theorem oy (s:PSet)(hs:s.pols.length<2^40)(k:List UInt8):ah G 506 [.agg s.enc,.str k] [] (iQ (gz s.pols k)):=by
 have hll:=ml s.pols Pol.enc;refine gvB (F:=VY) ?_;refine ab [9,10,11,4,1] [68] ?_;rw[hll];exact vv s.pols k _ hs _ rfl s.pols [] _ _ _ 0 rfl rfl
def ni:List PList→List UInt8→Option PList
 | [],_=>none
 |x::r,k=>if x.name=k then some x else ni r k
def Uk:Option PList→Ret
 |none=>⟨.tup [.agg [.str [],.con (.slice none 0 0)],.bool false],[]⟩
 |some x=>⟨.tup [.agg x.enc,.bool true],[]⟩
theorem vy (l:List PList)(k:List UInt8)(g:Nat)(hl:l.length<2^40)(ln:Int)(hln:ln=l.length): ∀(rest done:List PList)(T:TV)(H:aw)(c:Nat)(n:Int)(e:l=done++rest)(hn:n=done.length),Ev G ⟨ach,⟨(9,.sl 2 (l.map PList.enc))::(10,.int .i64 ln)::(11,.int .i64 n)::(4,.ref 68 g 0)::(1,.str k)::T,(68,some (g,.cells [.str [],.con (.slice none 0 0)]))::H,c⟩,[.cell 4 (some 2),.t 5],0⟩ (Uk (ni rest k))
 | [],done,  T,H,c,n,e,hn=>by
  have hd:=md0 e;have hll:=ml l PList.enc;refine evA ?_;refine ag ?_;(conv=>whnf);refine Go.AM.finC ?_;rfl
 |x::r,done,  T,H,c,n,e,hn=>by
  have hd:=md e;have hll:=ml l PList.enc;have hx:=mx PList.enc e hn
  by_cases hk:x.name=k
  ·rw[ni,Ad hk]
   refine evl ?_
   repeat' (first|refine cg ?_|(refine ae ?_ ?_<;>intro h))
   refine ag ?_;(conv=>whnf);refine Go.AM.finC ?_;rfl
  ·rw[ni,Ac hk]
   refine evl ?_
   repeat' (first|refine cg ?_|(refine ae ?_ ?_<;>intro h))
   refine ab [9,10,11,4,1] [68] ?_;exact vy l k g hl ln hln r (done++[x])  _ _ _ (n+1) (by simp[e]) (by simp[hn]<;>omega)
theorem Lj (s:PSet)(hs:s.prefixes.length<2^40)(k:List UInt8):ah G 620 [.agg s.enc,.str k] [] (Uk (ni s.prefixes k)):=by
 have hll:=ml s.prefixes PList.enc;refine gvB (F:=Vv) ?_;refine ab [9,10,11,4,1] [68] ?_;rw[hll];exact vy s.prefixes k _ hs _ rfl s.prefixes [] _ _ _ 0 rfl rfl
def nj:List PathL→List UInt8→Option PathL
 | [],_=>none
 |x::r,k=>if x.name=k then some x else nj r k
def Um:Option PathL→Ret
 |none=>⟨.tup [.agg [.str [],.con (.slice none 0 0)],.bool false],[]⟩
 |some x=>⟨.tup [.agg x.enc,.bool true],[]⟩
theorem vC (l:List PathL)(k:List UInt8)(g:Nat)(hl:l.length<2^40)(ln:Int)(hln:ln=l.length): ∀(rest done:List PathL)(T:TV)(H:aw)(c:Nat)(n:Int)(e:l=done++rest)(hn:n=done.length),Ev G ⟨acg,⟨(9,.sl 2 (l.map PathL.enc))::(10,.int .i64 ln)::(11,.int .i64 n)::(4,.ref 68 g 0)::(1,.str k)::T,(68,some (g,.cells [.str [],.con (.slice none 0 0)]))::H,c⟩,[.cell 4 (some 2),.t 5],0⟩ (Um (nj rest k))
 | [],done,  T,H,c,n,e,hn=>by
  have hd:=md0 e;have hll:=ml l PathL.enc;refine evA ?_;refine ag ?_;(conv=>whnf);refine Go.AM.finC ?_;rfl
 |x::r,done,  T,H,c,n,e,hn=>by
  have hd:=md e;have hll:=ml l PathL.enc;have hx:=mx PathL.enc e hn
  by_cases hk:x.name=k
  ·rw[nj,Ad hk]
   refine evl ?_
   repeat' (first|refine cg ?_|(refine ae ?_ ?_<;>intro h))
   refine ag ?_;(conv=>whnf);refine Go.AM.finC ?_;rfl
  ·rw[nj,Ac hk]
   refine evl ?_
   repeat' (first|refine cg ?_|(refine ae ?_ ?_<;>intro h))
   refine ab [9,10,11,4,1] [68] ?_;exact vC l k g hl ln hln r (done++[x])  _ _ _ (n+1) (by simp[e]) (by simp[hn]<;>omega)
theorem Lx (s:PSet)(hs:s.paths.length<2^40)(k:List UInt8):ah G 621 [.agg s.enc,.str k] [] (Um (nj s.paths k)):=by
 have hll:=ml s.paths PathL.enc;refine gvB (F:=Vu) ?_;refine ab [9,10,11,4,1] [68] ?_;rw[hll];exact vC s.paths k _ hs _ rfl s.paths [] _ _ _ 0 rfl rfl
def nv:List ComL→List UInt8→Option ComL
 | [],_=>none
 |x::r,k=>if x.name=k then some x else nv r k
def WH:Option ComL→Ret
 |none=>⟨.tup [.agg [.str [],.con (.slice none 0 0)],.bool false],[]⟩
 |some x=>⟨.tup [.agg x.enc,.bool true],[]⟩
theorem vR (l:List ComL)(k:List UInt8)(g:Nat)(hl:l.length<2^40)(ln:Int)(hln:ln=l.length): ∀(rest done:List ComL)(T:TV)(H:aw)(c:Nat)(n:Int)(e:l=done++rest)(hn:n=done.length),Ev G ⟨acf,⟨(9,.sl 2 (l.map ComL.enc))::(10,.int .i64 ln)::(11,.int .i64 n)::(4,.ref 68 g 0)::(1,.str k)::T,(68,some (g,.cells [.str [],.con (.slice none 0 0)]))::H,c⟩,[.cell 4 (some 2),.t 5],0⟩ (WH (nv rest k))
 | [],done,  T,H,c,n,e,hn=>by
  have hd:=md0 e;have hll:=ml l ComL.enc;refine evA ?_;refine ag ?_;(conv=>whnf);refine Go.AM.finC ?_;rfl
 |x::r,done,  T,H,c,n,e,hn=>by
  have hd:=md e;have hll:=ml l ComL.enc;have hx:=mx ComL.enc e hn
  by_cases hk:x.name=k
  ·rw[nv,Ad hk]
   refine evl ?_
   repeat' (first|refine cg ?_|(refine ae ?_ ?_<;>intro h))
   refine ag ?_;(conv=>whnf);refine Go.AM.finC ?_;rfl
  ·rw[nv,Ac hk]
   refine evl ?_
   repeat' (first|refine cg ?_|(refine ae ?_ ?_<;>intro h))
   refine ab [9,10,11,4,1] [68] ?_;exact vR l k g hl ln hln r (done++[x])  _ _ _ (n+1) (by simp[e]) (by simp[hn]<;>omega)
theorem Ov (s:PSet)(hs:s.comms.length<2^40)(k:List UInt8):ah G 622 [.agg s.enc,.str k] [] (WH (nv s.comms k)):=by
 have hll:=ml s.comms ComL.enc;refine gvB (F:=Vr) ?_;refine ab [9,10,11,4,1] [68] ?_;rw[hll];exact vR s.comms k _ hs _ rfl s.comms [] _ _ _ 0 rfl rfl
def fe (k:Int):Ret:=
 if k=4 then ⟨.tup [.int .i64 1,.int .i64 7,.bool true],[]⟩ else if k=5 then ⟨.tup [.int .i64 0,.int .i64 4294967295,.bool true],[]⟩ else
 if k=6 then ⟨.tup [.int .i64 0,.int .i64 16777216,.bool true],[]⟩ else if k=8 then ⟨.tup [.int .i64 0,.int .i64 2000,.bool true],[]⟩ else ⟨.tup [.int .i64 0,.int .i64 0,.bool false],[]⟩
theorem e9 (k:Int):ah G 619 [.int .i64 k] [] (fe k):=by
 by_cases h4:k=4
 ·subst h4
  exact gvA (F:=xd)
 by_cases h5:k=5
 ·subst h5
  exact gvA (F:=xd)
 by_cases h6:k=6
 ·subst h6
  exact gvA (F:=xd)
 by_cases h8:k=8
 ·subst h8
  exact gvA (F:=xd)
 rw[fe,Ac h4,Ac h5,Ac h6,Ac h8];exact gvA (F:=xd)
theorem Mu (k:Int):ah G 504 [.int .i64 k] [] ⟨.bool (decide (3≤k∧k≤5)),[]⟩:=by
 by_cases h:3≤k
 ·by_cases h2:k≤5
  ·rw[Al ⟨h,h2⟩]
   refine gvB (F:=Ny) ?_;refine ag ?_;simp[h,h2]
  ·rw[An (fun x=>h2 x.2)]
   refine gvB (F:=Ny) ?_;refine ag ?_;simp[h,h2]
 ·rw[An (fun x=>h x.1)]
  refine gvB (F:=Ny) ?_;refine ag ?_;simp[h]
theorem JZ (k:Int):ah G 505 [.int .i64 k] [] ⟨.bool (decide (k=6∨k=7)),[]⟩:=by
 by_cases h:k=6
 ·subst h
  exact gvA (F:=Nx)
 ·by_cases h2:k=7
  ·subst h2
   exact gvA (F:=Nx)
  ·rw[An (by omega)]
   refine gvB (F:=Nx) ?_;refine ag ?_;simp[h,h2]
theorem jb (n a b:Int):ah G 567 [.int .i64 n,.int .i64 a,.int .i64 b] [] ⟨.bool (decide (a≤n∧n≤b)),[]⟩:=by
 by_cases h:a≤n
 ·by_cases h2:n≤b
  ·rw[Al ⟨h,h2⟩]
   refine gvB (F:=Nt) ?_;refine ag ?_;simp[h,h2]
  ·rw[An (fun x=>h2 x.2)]
   refine gvB (F:=Nt) ?_;refine ag ?_;simp[h,h2]
 ·rw[An (fun x=>h x.1)]
  refine gvB (F:=Nt) ?_;refine ag ?_;simp[h]
def fd (c:DampC):Int:=if c.half<1 then 5 else if 86400<c.half then 5 else if c.reuse<1 then 5 else if 20000<c.reuse then 5 else
 if c.suppress≤c.reuse then 5 else if 20000<c.suppress then 5 else if c.maxTime<c.half then 5 else if 16*c.half<c.maxTime then 5 else 0
theorem uk (c:DampC):ah G 502 [.agg c.enc] [] ⟨.int .i64 (fd c),[]⟩:=by
 by_cases c0:c.half<1
 ·rw[fd,Ad c0]
  exact gvA (F:=oY)
 by_cases c1:86400<c.half
 ·rw[fd,Ac c0,Ad c1]
  exact gvA (F:=oY)
 by_cases c2:c.reuse<1
 ·rw[fd,Ac c0,Ac c1,Ad c2]
  exact gvA (F:=oY)
 by_cases c3:20000<c.reuse
 ·rw[fd,Ac c0,Ac c1,Ac c2,Ad c3]
  exact gvA (F:=oY)
 by_cases c4:c.suppress≤c.reuse
 ·rw[fd,Ac c0,Ac c1,Ac c2,Ac c3,Ad c4]
  exact gvA (F:=oY)
 by_cases c5:20000<c.suppress
 ·rw[fd,Ac c0,Ac c1,Ac c2,Ac c3,Ac c4,Ad c5]
  exact gvA (F:=oY)
 by_cases c6:c.maxTime<c.half
 ·rw[fd,Ac c0,Ac c1,Ac c2,Ac c3,Ac c4,Ac c5,Ad c6]
  exact gvA (F:=oY)
 by_cases c7:16*c.half<c.maxTime
 ·rw[fd,Ac c0,Ac c1,Ac c2,Ac c3,Ac c4,Ac c5,Ac c6,Ad c7]
  exact gvA (F:=oY)
 rw[fd,Ac c0,Ac c1,Ac c2,Ac c3,Ac c4,Ac c5,Ac c6,Ac c7];exact gvA (F:=oY)
end Go.AM.IR
namespace Go.AM.IR
def nmC (b:UInt8):Bool:=b.toNat==45||(decide (48≤b.toNat)&&decide (b.toNat≤57))||(decide (65≤b.toNat)&&decide (b.toNat≤90))||(decide (97≤b.toNat)&&decide (b.toNat≤122))
def nmB (s:List UInt8):Bool:=s.all nmC&&(decide (1≤s.length)&&decide ((s.length:Int)≤32))
theorem kJ (s:List UInt8)(hs:s.length<2^40): ∀(rest done:List UInt8)(T:TV)(H:aw)(c:Nat)(n:Int)(e:s=done++rest)(hn:n=done.length),
  Ev G ⟨aco,⟨(3,.int .i64 n)::(0,.str s)::T,H,c⟩,[.t 2],0⟩ ⟨.bool (rest.all nmC&&(decide (1≤s.length)&&decide ((s.length:Int)≤32))),[]⟩
 | [],done,T,H,c,n,e,hn=>by
  have hd:=md0 e
  by_cases h1:1≤s.length
  ·rw[Al h1]
   refine evA ?_;refine ag ?_;rfl
  ·rw[An h1]
   refine evA ?_;refine ag ?_;rfl
 |x::rest,done,T,H,c,n,e,hn=>by
  have hd:=md e;have hb:=idx_at e hn;rw[List.all_cons]
  by_cases h0:x.toNat<45
  ·have hc:nmC x=false:=by unfold nmC;simp;omega
   rw[hc,BF,BF];refine evl ?_
   repeat' (first|refine cg ?_|(refine ae ?_ ?_<;>intro h))
   refine ag ?_;rfl
  by_cases h1:x.toNat=45
  ·have hc:nmC x=true:=by unfold nmC;simp;omega
   rw[hc,BK];refine evl ?_
   repeat' (first|refine cg ?_|(refine ae ?_ ?_<;>intro h))
   refine ab [3,0] [] ?_;exact kJ s hs rest (done++[x]) _ _ _ (n+1) (by simp[e]) (by simp[hn])
  by_cases h2:x.toNat<48
  ·have hc:nmC x=false:=by unfold nmC;simp;omega
   rw[hc,BF,BF];refine evl ?_
   repeat' (first|refine cg ?_|(refine ae ?_ ?_<;>intro h))
   refine ag ?_;rfl
  by_cases h3:x.toNat≤57
  ·have hc:nmC x=true:=by unfold nmC;simp;omega
   rw[hc,BK];refine evl ?_
   repeat' (first|refine cg ?_|(refine ae ?_ ?_<;>intro h))
   refine ab [3,0] [] ?_;exact kJ s hs rest (done++[x]) _ _ _ (n+1) (by simp[e]) (by simp[hn])
  by_cases h4:x.toNat<65
  ·have hc:nmC x=false:=by unfold nmC;simp;omega
   rw[hc,BF,BF];refine evl ?_
   repeat' (first|refine cg ?_|(refine ae ?_ ?_<;>intro h))
   refine ag ?_;rfl
  by_cases h5:x.toNat≤90
  ·have hc:nmC x=true:=by unfold nmC;simp;omega
   rw[hc,BK];refine evl ?_
   repeat' (first|refine cg ?_|(refine ae ?_ ?_<;>intro h))
   refine ab [3,0] [] ?_;exact kJ s hs rest (done++[x]) _ _ _ (n+1) (by simp[e]) (by simp[hn])
  by_cases h6:x.toNat<97
  ·have hc:nmC x=false:=by unfold nmC;simp;omega
   rw[hc,BF,BF];refine evl ?_
   repeat' (first|refine cg ?_|(refine ae ?_ ?_<;>intro h))
   refine ag ?_;rfl
  by_cases h7:x.toNat≤122
  ·have hc:nmC x=true:=by unfold nmC;simp;omega
   rw[hc,BK];refine evl ?_
   repeat' (first|refine cg ?_|(refine ae ?_ ?_<;>intro h))
   refine ab [3,0] [] ?_;exact kJ s hs rest (done++[x]) _ _ _ (n+1) (by simp[e]) (by simp[hn])
  have hc:nmC x=false:=by unfold nmC;simp;omega
  rw[hc,BF,BF];refine evl ?_
  repeat' (first|refine cg ?_|(refine ae ?_ ?_<;>intro h))
  refine ag ?_;rfl
theorem vI (s:List UInt8)(hs:s.length<2^40):ah G 573 [.str s] [] ⟨.bool (nmB s),[]⟩:=by
 refine gvB (F:=VN) ?_;refine ab [3,0] [] ?_;exact kJ s hs s [] _ _ _ 0 rfl rfl
def cy (r:ComR):Int:=if r.high< -1 then 5 else if 65535<r.high then 5 else if r.low< -1 then 5 else if 65535<r.low then 5 else 0
theorem Ot (r:ComR):ah G 572 [.agg r.enc] [] ⟨.int .i64 (cy r),[]⟩:=by
 by_cases c0:r.high< -1
 ·rw[cy,Ad c0]
  exact gvA (F:=xg)
 by_cases c1:65535<r.high
 ·rw[cy,Ac c0,Ad c1]
  exact gvA (F:=xg)
 by_cases c2:r.low< -1
 ·rw[cy,Ac c0,Ac c1,Ad c2]
  exact gvA (F:=xg)
 by_cases c3:65535<r.low
 ·rw[cy,Ac c0,Ac c1,Ac c2,Ad c3]
  exact gvA (F:=xg)
 rw[cy,Ac c0,Ac c1,Ac c2,Ac c3];exact gvA (F:=xg)
end Go.AM.IR
namespace Go.AM.IR
def fw (name before:List UInt8)(any:Bool)(n:Int):Int:=if nmB name=false then 1 else if any=false∧(Op.bytesLess name before||name==before)=true then 16 else if 64<n then 4 else 0
theorem j3 (name before:List UInt8)(hn:name.length<2^40)(any:Bool)(n:Int):ah G 500 [.str name,.str before,.bool any,.int .i64 n] [] ⟨.int .i64 (fw name before any n),[]⟩:=by
 have h1:=vI name hn;unfold fw;rcases hb:nmB name with _|_<;>cases any<;>rcases hl:(Op.bytesLess name before||name==before) with _|_<;>rw[hb] at h1<;>exact gvD (F:=acV)
def xP (a:Actn):Int:=if a.asn≠0 then 1 else if a.com≠0 then 1 else if a.addr≠0 then 1 else if a.n<0 then 5 else if 4294967295<a.n then 5 else 0
def ad5 (a:Actn):Int:=if a.asn≠0 then 1 else if a.com≠0 then 1 else if a.addr≠0 then 1 else if a.n<0 then 5 else if 16777216<a.n then 5 else 0
def ad4 (a:Actn):Int:=if a.n≠0 then 1 else if a.asn≠0 then 1 else if a.com≠0 then 1 else if a.addr=0 then 5 else 0
def PQ (a:Actn):Int:=if a.n≠0 then 1 else if a.asn≠0 then 1 else if a.addr≠0 then 1 else 0
def ad3 (a:Actn):Int:=if a.com≠0 then 1 else if a.addr≠0 then 1 else if a.n<0 then 5 else if 16<a.n then 5 else if a.n<1 then 5 else if a.asn<1 then 5 else if 4294967295<a.asn then 5 else 0
def nx (a:Actn):Int:=if a.kind=1 then xP a else if a.kind=2 then xP a else if a.kind=4 then xP a else if a.kind=3 then ad5 a else if a.kind=5 then ad4 a else if a.kind=6 then PQ a else if a.kind=7 then PQ a else if a.kind=8 then ad3 a else 15
theorem PH (a:Actn):ah G 575 [.agg a.enc] [] ⟨.int .i64 (nx a),[]⟩:=by
 unfold nx xP ad5 ad4 PQ ad3;exact gvD (F:=acn)
end Go.AM.IR
namespace Go.AM.IR
def bx (x n:Nat):Nat:=x/ 2^ (32-n)*2^ (32-n)
def jA (n:Nat):Nat:=4294967296-2^ (32-n)
theorem tK (x n j:Nat)(hn:n≤32):(bx x n).testBit j=(decide (32-n≤j)&&x.testBit j):=by
 unfold bx;rw[Nat.testBit_mul_two_pow]
 by_cases h:32-n≤j
 ·simp only[h,decide_true,BK]
  rw[Nat.testBit_div_two_pow];congr 1;omega
 ·simp[h]
theorem abM (n:Nat)(hn:n≤32):jA n=(2^n-1)*2^ (32-n):=by
 unfold jA;rw[Nat.sub_mul,←Nat.pow_add,show n+(32-n)=32 by omega];omega
theorem Yi (n j:Nat)(hn:n≤32):(jA n).testBit j=(decide (32-n≤j)&&decide (j<32)):=by
 rw[abM n hn,Nat.testBit_mul_two_pow,Nat.testBit_two_pow_sub_one]
 by_cases h:32-n≤j
 ·simp only[h,decide_true,BK]
  congr 1;simp;omega
 ·simp[h]
theorem adZ (x n:Nat)(hx:x<4294967296)(hn:n≤32):x&&&jA n=bx x n:=by
 apply Nat.eq_of_testBit_eq;intro j;rw[Nat.testBit_and,tK x n j hn,Yi n j hn]
 by_cases hj:j<32
 ·simp[hj,Bool.and_comm]
 ·have:x.testBit j=false:=Nat.testBit_lt_two_pow (B6 hx (by rw[show 4294967296=2^32 from rfl];exact Nat.pow_le_pow_right (by omega) (by omega)))
  simp[this]
theorem wH (x n:Nat):bx x n≤x:=Nat.div_mul_le_self _ _
theorem U7 (x n:Nat)(hn:n<32):bx x n|||(x/ 2^ (31-n) % 2*2^ (31-n))=bx x (n+1):=by
 apply Nat.eq_of_testBit_eq;intro j;rw[Nat.testBit_or,tK x n j (by omega),tK x (n+1) j (by omega),Nat.testBit_mul_two_pow]
 have e1: ∀q:Nat,(x/ 2^ (31-n) % 2).testBit q=(decide (q<1)&&(x/ 2^ (31-n)).testBit q):=fun q=>by
  have:=Nat.testBit_mod_two_pow (x/ 2^ (31-n)) 1 q;simpa using this
 rw[e1,Nat.testBit_div_two_pow]
 by_cases h1:32-n≤j
 ·have h2:32- (n+1)≤j:=by omega
  have h3: ¬(j- (31-n)<1):=by omega
  simp[h1,h2,h3];intro _;omega
 ·by_cases h2:j=31-n
  ·subst h2
   have h3:32- (n+1)≤31-n:=by omega
   simp[h1,h3]
  ·have h3: ¬32- (n+1)≤j:=by omega
   have h4: ¬31-n≤j:=by omega
   simp[h1,h3,h4]
theorem U6 (x:Nat)(hx:x<4294967296):bx x 0=0:=by
 unfold bx;rw[Nat.div_eq_of_lt (by simpa using hx),Nat.zero_mul]
def bR (n:Int):Nat:=if n≤0 then 0 else if n≤32 then n.toNat else 32
theorem ut (n:Int):bR n≤32:=by
 unfold bR
 repeat' split
 all_goals omega
section
variable {k:AV→Prop}
theorem uH (r:Nat)(hr:r<4294967296):IntKind.wrap .u32 (r:Int)=(r:Int):=by
 simp[IntKind.wrap,IntKind.signed,IntKind.bits];omega
theorem uX (a:Nat)(ha:a<4294967296):(BitVec.ofInt 32 (a:Int)).toNat=a:=by
 rw[BitVec.toNat_ofInt];omega
theorem u9 (a b:Nat)(ha:a<4294967296)(hb:b<4294967296):intBits .and .u32 (a:Int) (b:Int)=((a&&&b:Nat):Int):=by
 have hl:a&&&b<4294967296:=Nat.lt_of_le_of_lt Nat.and_le_left ha;show IntKind.wrap .u32 (((BitVec.ofInt 32 (a:Int)&&&BitVec.ofInt 32 (b:Int)).toNat:Nat):Int)=_
 rw[BitVec.toNat_and,uX a ha,uX b hb];exact uH _ hl
theorem af0 (a b:Nat)(ha:a<4294967296)(hb:b<4294967296):intBits .or .u32 (a:Int) (b:Int)=((a|||b:Nat):Int):=by
 have hl:a|||b<4294967296:=Nat.or_lt_two_pow (n:=32) ha hb;show IntKind.wrap .u32 (((BitVec.ofInt 32 (a:Int)|||BitVec.ofInt 32 (b:Int)).toNat:Nat):Int)=_
 rw[BitVec.toNat_or,uX a ha,uX b hb];exact uH _ hl
theorem xT {a b:Nat}(h:k (.int .u32 ((a&&&b:Nat):Int)))(ha:a<4294967296:=by omega)(hb:b<4294967296:=by omega): ∃v,bv .and (.int .u32 (a:Int)) (.int .u32 (b:Int))=some v∧k v:=⟨_,by show some (AV.int .u32 (intBits .and .u32 _ _))=_;rw[u9 a b ha hb],h⟩
theorem ahx {a b:Nat}(h:k (.int .u32 ((a|||b:Nat):Int)))(ha:a<4294967296)(hb:b<4294967296): ∃v,bv .or (.int .u32 (a:Int)) (.int .u32 (b:Int))=some v∧k v:=⟨_,by show some (AV.int .u32 (intBits .or .u32 _ _))=_;rw[af0 a b ha hb],h⟩
theorem ahD {n:Nat}{j:Int}(h:k (.int .u32 ((jA n:Nat):Int)))(hj:j=32- (n:Int))(hn:n≤32): ∃v,bv .shl (.int .u32 4294967295) (.int .i64 j)=some v∧k v:=by
 refine ⟨_,?_,h⟩;show (if j<0 then none else some (AV.int .u32 (IntKind.wrap .u32 (4294967295*2^ (min j.toNat 32)))))=_
 rw[Ac (by omega),show min j.toNat 32=32-n by omega]
 have h1:(2:Nat)^ (32-n)≤2^32:=Nat.pow_le_pow_right (by omega) (by omega)
 have h2:0<(2:Nat)^ (32-n):=Nat.pow_pos (by omega)
 have e:(4294967295*2^ (32-n):Int)=((jA n:Nat):Int)+4294967296* ((2^ (32-n)-1:Nat):Int):=by
  unfold jA;have:((2^ (32-n):Nat):Int)=(2:Int)^ (32-n):=by simp
  rw[←this];omega
 congr 2
 rw[e];have h3:jA n<4294967296:=by unfold jA;omega
 simp[IntKind.wrap,IntKind.signed,IntKind.bits];omega
theorem afJ {x:Nat}{j:Int}(h:k (.int .u32 ((x/ 2^j.toNat:Nat):Int)))(h0:0≤j)(h1:j≤32): ∃v,bv .shr (.int .u32 (x:Int)) (.int .u64 j)=some v∧k v:=by
 refine ⟨_,?_,h⟩;show (if j<0 then none else some (AV.int .u32 ((x:Int).fdiv (2^ (min j.toNat 32)))))=_
 rw[Ac (by omega),show min j.toNat 32=j.toNat by omega]
 congr 2
 rw[Int.fdiv_eq_ediv_of_nonneg _ (by exact Int.le_of_lt (Int.pow_pos (by omega)))]
 simp
theorem ahu {b m:Nat}{j:Int}(h:k (.int .u32 ((b*2^m:Nat):Int)))(hj:j=m)(hm:m<32)(hb:b<2): ∃v,bv .shl (.int .u32 (b:Int)) (.int .u64 j)=some v∧k v:=by
 refine ⟨_,?_,h⟩;show (if j<0 then none else some (AV.int .u32 (IntKind.wrap .u32 ((b:Int)*2^ (min j.toNat 32)))))=_
 rw[Ac (by omega),show min j.toNat 32=m by omega]
 have h1:(2:Nat)^m≤2^31:=Nat.pow_le_pow_right (by omega) (by omega)
 have e:((b:Int)*2^m:Int)=((b*2^m:Nat):Int):=by simp
 rw[e]
 have h3:b*2^m<4294967296:=by
  have:b*2^m≤1*2^m:=A6 _ (by omega)
  omega
 congr 2
 simp only[IntKind.wrap,IntKind.signed,IntKind.bits];simp;omega
theorem ahF {x:Nat}(hx:x<4294967296)(h:k (.int .u32 ((x % 2:Nat):Int))): ∃v,bv .and (.int .u32 (x:Int)) (.int .u32 1)=some v∧k v:=
 ⟨_,by
  show some (AV.int .u32 (intBits .and .u32 (x:Int) ((1:Nat):Int)))=_
  rw[u9 x 1 hx (by omega),Nat.and_one_is_mod],h⟩
end
end Go.AM.IR
namespace Go.AM.IR
theorem DP (n:Int):ah G 186 [.int .i64 n,.int .i64 32] [] ⟨.int .i64 (bR n:Nat),[]⟩:=by
 by_cases h0:n≤0
 ·rw[show bR n=0 from by simp[bR,h0]]
  by_cases h1:n=0
  ·subst h1
   exact gvA (F:=Dq)
  ·have h2:n<0:=by omega
   refine gvB (F:=Dq) ?_;refine ag ?_;first|rfl|(simp[h2])
 ·by_cases h1:n≤32
  ·rw[show ((bR n:Nat):Int)=n from by simp[bR,h0,h1];omega]
   exact gvA (F:=Dq)
  ·rw[show bR n=32 from by simp[bR,h0,h1]]
   exact gvA (F:=Dq)
theorem MC (n:Int):ah G 184 [.int .i64 n,.int .i64 32] [] ⟨.int .i64 (bR n:Nat),[]⟩:=by
 by_cases h0:n≤0
 ·rw[show bR n=0 from by simp[bR,h0]]
  by_cases h1:n=0
  ·subst h1
   exact gvA (F:=Du)
  ·have h2:n<0:=by omega
   refine gvB (F:=Du) ?_;refine ag ?_;first|rfl|(simp[h2])
 ·by_cases h1:n≤32
  ·rw[show ((bR n:Nat):Int)=n from by simp[bR,h0,h1];omega]
   exact gvA (F:=Du)
  ·rw[show bR n=32 from by simp[bR,h0,h1]]
   exact gvA (F:=Du)
theorem Jf (n:Int):ah G 183 [.int .i64 n] [] ⟨.int .u32 (jA (bR n):Nat),[]⟩:=by
 have hc:=DP n;have hl:=ut n;generalize bR n=c at*;refine gvC (F:=ady) ?_
 repeat' ((conv=>whnf);first|refine ahD (n:=c) ?_ (by omega) (by omega)|refine au ?_|(refine ae ?_ ?_<;>intro h))
 refine ag ?_;rfl
theorem sx (x:Nat)(n:Int)(hx:x<4294967296):ah G 181 [.int .u32 (x:Int),.int .i64 n] [] ⟨.int .u32 (bx x (bR n):Nat),[]⟩:=by
 have hm:=Jf n;have hl:=ut n;rw[←adZ x (bR n) hx hl];have hb:jA (bR n)<4294967296:=by unfold jA;have:=Nat.pow_pos (n:=32-bR n) (show 0<2 by omega);omega
 generalize jA (bR n)=mk at*;refine gvC (F:=adA) ?_
 repeat' ((conv=>whnf);first|refine xT ?_ hx hb|refine au ?_|(refine ae ?_ ?_<;>intro h))
 refine ag ?_;rfl
theorem RY (x i:Nat)(hx:x<4294967296)(hi:i<32):ah G 185 [.int .u32 (x:Int),.int .i64 (i:Int)] [] ⟨.int .i64 (x/ 2^ (31-i) % 2:Nat),[]⟩:=by
 have he:(31- (i:Int)).toNat=31-i:=by omega
 have hd:x/ 2^ (31-i)<4294967296:=Nat.lt_of_le_of_lt (Nat.div_le_self _ _) hx;have hm:x/ 2^ (31-i) % 2<2:=Nat.mod_lt _ (by omega)
 rw[←he] at hd hm⊢;refine gvC (F:=adx) ?_
 repeat' ((conv=>whnf);first|refine afJ ?_ (by omega) (by omega)|refine ahF hd ?_|refine au ?_|(refine ae ?_ ?_<;>intro h))
 refine ag ?_;rfl
theorem tJ (x c:Nat)(hx:x<4294967296)(hc:c≤32): ∀(d i:Nat)(T:TV)(H:aw)(ct:Nat)(hd:d+i=c),
  Ev G ⟨adz,⟨(9,.int .i64 (i:Int))::(0,.int .u32 (x:Int))::(5,.int .u32 (bx x i:Nat))::(8,.int .i64 (c:Int))::T,H,ct⟩,[.t 4],0⟩ ⟨.int .u32 (bx x c:Nat),[]⟩
 |0,i,T,H,ct,hd=>by
  obtain rfl:i=c:=by omega
  refine evA ?_;refine ag ?_;rfl
 |d+1,i,T,H,ct,hd=>by
  have ha:=RY x i hx (by omega)
  have hb:x/ 2^ (31-i) % 2<2:=Nat.mod_lt _ (by omega)
  have hk:=U7 x i (by omega)
  have hl:=wH x i
  have hs:x/ 2^ (31-i) % 2*2^ (31-i)<4294967296:=by
   have h1:(2:Nat)^ (31-i)≤2^31:=Nat.pow_le_pow_right (by omega) (by omega)
   have h2:=A6 (2^ (31-i)) (show x/ 2^ (31-i) % 2≤1 by omega)
   omega
  generalize x/ 2^ (31-i) % 2=b at*;generalize hki:bx x i=ki at*;refine evl ?_
  repeat' ((conv=>whnf);first|refine ahu (m:=31-i) ?_ (by omega) (by omega) hb|refine ahx ?_ (by omega) hs|refine au ?_|(refine ae ?_ ?_<;>intro h))
  rw[hk];refine ab [9,0,5,8] [] ?_;exact tJ x c hx hc d (i+1) _ _ _ (by omega)
theorem Jk (x:Nat)(n:Int)(hx:x<4294967296):ah G 182 [.int .u32 (x:Int),.int .i64 n] [] ⟨.int .u32 (bx x (bR n):Nat),[]⟩:=by
 have hm:=MC n;have hl:=ut n;have h0:=U6 x hx;generalize bR n=c at*;refine gvB (F:=WD) ?_;refine ab [9,0,5,8] [] ?_;have:=tJ x c hx hl c 0;rw[h0] at this;exact this _ _ _ rfl
def aW (p:Pfx):Bool:=decide (0≤p.len∧p.len≤32∧(bx p.addr.toNat p.len.toNat:Int)=p.addr)
theorem dZ (p:Pfx)(h:p.ok):ah G 178 [.agg p.enc] [] ⟨.bool (aW p),[]⟩:=by
 obtain ⟨a,n⟩:=p;obtain ⟨x,rfl⟩: ∃x:Nat,a=x:=⟨a.toNat,by have:=h.addr;unfold okU at this;simp only at this;omega⟩
 have hx:x<4294967296:=by have:=h.addr;unfold okU at this;simp only at this;omega
 have hk:=sx x n hx;have hkl:=wH x (bR n)
 by_cases hn:0≤n∧n≤32
 ·obtain ⟨n0,n1⟩:=hn
  have hc:bR n=n.toNat:=by unfold bR;repeat' split<;>omega
  rw[hc] at hk hkl
  by_cases hq:bx x n.toNat=x
  ·rw[show aW ⟨x,n⟩=true from by simp[aW,n0,n1,hq]]
   rw[hq] at hk;refine gvB (F:=Dw) ?_;refine ag ?_;simp
  ·rw[show aW ⟨x,n⟩=false from by simp only[aW,AP];intro hh;exact hq (by have:=hh.2.2;simp only[Int.toNat_natCast] at this;omega)]
   have hq2: ¬((bx x n.toNat:Nat):Int)=(x:Int):=by omega
   generalize bx x n.toNat=kq at*;refine gvB (F:=Dw) ?_;refine ag ?_;simp[hq2]
 ·rw[show aW ⟨x,n⟩=false from by simp[aW];omega]
  by_cases n0:0≤n
  ·have n1: ¬n≤32:=by omega
   exact gvA (F:=Dw)
  ·exact gvA (F:=Dw)
end Go.AM.IR
namespace Go.AM.IR
theorem co (p:Pfx)(h:p.ok):ah G 179 [.agg p.enc] [] ⟨.bool (aW p),[]⟩:=by
 obtain ⟨a,n⟩:=p;obtain ⟨x,rfl⟩: ∃x:Nat,a=x:=⟨a.toNat,by have:=h.addr;unfold okU at this;simp only at this;omega⟩
 have hx:x<4294967296:=by have:=h.addr;unfold okU at this;simp only at this;omega
 have hk:=Jk x n hx;have hkl:=wH x (bR n)
 by_cases hn:0≤n∧n≤32
 ·obtain ⟨n0,n1⟩:=hn
  have hc:bR n=n.toNat:=by unfold bR;repeat' split<;>omega
  rw[hc] at hk hkl
  by_cases hq:bx x n.toNat=x
  ·rw[show aW ⟨x,n⟩=true from by simp[aW,n0,n1,hq]]
   rw[hq] at hk;refine gvB (F:=Dv) ?_;refine ag ?_;simp
  ·rw[show aW ⟨x,n⟩=false from by simp only[aW,AP];intro hh;exact hq (by have:=hh.2.2;simp only[Int.toNat_natCast] at this;omega)]
   have hq2: ¬((bx x n.toNat:Nat):Int)=(x:Int):=by omega
   generalize bx x n.toNat=kq at*;refine gvB (F:=Dv) ?_;refine ag ?_;simp[hq2]
 ·rw[show aW ⟨x,n⟩=false from by simp[aW];omega]
  by_cases n0:0≤n
  ·have n1: ¬n≤32:=by omega
   exact gvA (F:=Dv)
  ·exact gvA (F:=Dv)
def cX (p q:Pfx):Int:=if p.addr<q.addr∨(p.addr=q.addr∧p.len<q.len) then-1 else if p=q then 0 else 1
end Go.AM.IR
namespace Go.AM.IR
section
variable {kv:AV→Prop}
theorem bj {q:IntKind}{a b:Int}(h:a=b)(k:kv (.bool true)): ∃v,bv .eql (.int q a) (.int q b)=some v∧kv v:=⟨.bool true,by simp[bv,h],k⟩
theorem aY {q:IntKind}{a b:Int}(h: ¬a=b)(k:kv (.bool false)): ∃v,bv .eql (.int q a) (.int q b)=some v∧kv v:=⟨.bool false,by simp[bv,h],k⟩
end
end Go.AM.IR
