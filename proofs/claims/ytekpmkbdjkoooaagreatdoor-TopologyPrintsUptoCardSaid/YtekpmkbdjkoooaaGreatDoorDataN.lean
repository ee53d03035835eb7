/- What the functions of this program give, on the abstract machine. -/
import Derived.Test.YtekpmkbdjkoooaaGreatDoorDataF
import Derived.Test.YtekpmkbdjkoooaaGreatDoorDataM
import Derived.Test.YtekpmkbdjkoooaaGreatDoorDataL
import Derived.Test.YtekpmkbdjkoooaaGreatDoorDataK
import Derived.Test.YtekpmkbdjkoooaaGreatDoorDataH
set_option linter.unusedVariables false
set_option linter.unusedSimpArgs false
set_option maxHeartbeats 4000000
set_option maxRecDepth 20000
namespace Go.AM.IR
theorem Cw (t:Topo)(e:LEnd)(ht:t.routers.length<2^40)(hf: ∀c∈t.routers,c.ls.ifs.length<2^40):ah G 426 [.agg t.enc,.agg e.enc] [] (qW (dc t e)):=by
 have hll:=ml t.routers RConf.enc
 by_cases h1:e.router<0
 ·rw[dc,Ad h1]
  refine gvB (F:=xq) ?_;refine ag ?_;(conv=>whnf);refine Go.AM.finC ?_;rfl
 rw[dc,Ac h1]
 by_cases h2:t.routers.length≤e.router.toNat
 ·rw[AC h2]
  refine gvB (F:=xq) ?_;refine ag ?_;(conv=>whnf);refine Go.AM.finC ?_;rfl
 obtain ⟨c,hc⟩: ∃c,t.routers[e.router.toNat]? =some c:=⟨_,AJ (by omega)⟩
 rw[hc];have hx:(t.routers.map RConf.enc)[e.router.toNat]? =some c.enc:=by simp[hc]
 have hcl:=hf c (A3 hc);have hl2:=ml c.ls.ifs Ifc.enc;show ah G 426 [.agg t.enc,.agg e.enc] [] (qW (if e.ifc<0 then none else c.ls.ifs[e.ifc.toNat]?))
 by_cases h3:e.ifc<0
 ·rw[Ad h3]
  refine gvB (F:=xq) ?_;refine ag ?_;(conv=>whnf);refine Go.AM.finC ?_;rfl
 rw[Ac h3]
 by_cases h4:c.ls.ifs.length≤e.ifc.toNat
 ·rw[AC h4]
  refine gvB (F:=xq) ?_;refine ag ?_;(conv=>whnf);refine Go.AM.finC ?_;rfl
 obtain ⟨f,hf'⟩: ∃f,c.ls.ifs[e.ifc.toNat]? =some f:=⟨_,AJ (by omega)⟩
 rw[hf'];have hy:(c.ls.ifs.map Ifc.enc)[e.ifc.toNat]? =some f.enc:=by simp[hf']
 refine gvB (F:=xq) ?_;refine ag ?_;(conv=>whnf);refine Go.AM.finC ?_;rfl
end Go.AM.IR
namespace Go.AM.IR
section
variable {kv:AV→Prop} {a b:List UInt8}
theorem ahv (n:a=b)(h:kv (.bool true)): ∃v,bv .eql (.str a) (.str b)=some v∧kv v:=⟨.bool true,by show some (AV.bool (a==b))=_;simp[n],h⟩
theorem ahw (n: ¬a=b)(h:kv (.bool false)): ∃v,bv .eql (.str a) (.str b)=some v∧kv v:=⟨.bool false,by show some (AV.bool (a==b))=_;simp[n],h⟩
end
theorem abJ (q:RConf):tz q=if wg q=0 then m1E q else wg q:=by
 rw[tz,wg]
 by_cases a:q.hasPV=false
 ·rw[Ad a,Ad a]
  by_cases b:ca q.pv.pols=0
  ·simp[b]
  ·simp[b]
 ·rw[Ac a,Ac a]
  by_cases b:pvE q.pv=0
  ·by_cases c:q.pv.router=q.ls.router
   ·simp[b,c]
   ·simp[b,c]
  ·simp[b]
structure RConf.lim (q:RConf):Prop where
 k0:q.pv.pols.prefixes.length<2^30
 k1:q.pv.pols.paths.length<2^30
 k2:q.pv.pols.comms.length<2^30
 k3:q.pv.pols.pols.length<2^30
theorem yx (q:RConf)(g:q.good)(lm:q.lim)(l:List RConf)(hl:l.length<2^40): ∀(rest done:List RConf)(T:TV)(H:aw)(c:Nat)(n:Int)(e:l=done++rest)(hn:n=done.length),
  Ev G ⟨aab,⟨(36,.int .i64 n)::(3,.ref 67 1 0)::(34,.sl 25 (l.map RConf.enc))::(35,.int .i64 l.length)::T,(67,some (1,.cells q.enc))::H,c⟩,[.t 4],0⟩ ⟨.int .i64 (if rest.any (fun y=>decide (y.ls.router=q.ls.router)) then 7 else tz q),[]⟩
 | [],done,T,H,c,n,e,hn=>by
  have hd:=md0 e;have h1:=Kl q g.pv lm.k0 lm.k1 lm.k2 lm.k3;have h2:ah G 439 [.agg [.sl 2 (q.pv.pols.prefixes.map PList.enc),.sl 2 (q.pv.pols.paths.map PathL.enc),.sl 2 (q.pv.pols.comms.map ComL.enc),.sl 3 (q.pv.pols.pols.map Pol.enc)],.sl 5 (q.redist.map Red.enc)] [] ⟨.int .i64 (lW q.pv.pols q.redist),[]⟩:=KA q.pv.pols g.pv.pols lm.k0 lm.k1 lm.k2 lm.k3 q.redist g.red;have h3:=Qt q g.dists g.stat g.sto;simp only[List.any_nil,A4,if_false];rw[abJ,m1E]
  by_cases a:wg q=0
  ·rw[Ad a]
   rw[a] at h1
   by_cases b:lW q.pv.pols q.redist=0
   ·rw[Ad b]
    rw[b] at h2;refine evl ?_
    repeat' ((conv=>whnf);first|refine bb rfl ?_|refine au ?_|(refine ae ?_ ?_<;>intro h))
    refine ag ?_;rfl
   ·rw[Ac b]
    generalize lW q.pv.pols q.redist=E at*;refine evl ?_
    repeat' ((conv=>whnf);first|refine bh b ?_|refine bb rfl ?_|refine au ?_|(refine ae ?_ ?_<;>intro h))
    refine ag ?_;rfl
  ·rw[Ac a]
   generalize wg q=E at*;refine evl ?_
   repeat' ((conv=>whnf);first|refine bh a ?_|refine au ?_|(refine ae ?_ ?_<;>intro h))
   refine ag ?_;rfl
 |x::r,done,T,H,c,n,e,hn=>by
  have hd:=md e;have m1:=ml l RConf.enc;have hx:=mx RConf.enc e hn
  by_cases h:x.ls.router=q.ls.router
  ·rw[Ad (by simp[h])]
   refine evl ?_
   repeat' ((conv=>whnf);first|refine bj h ?_|refine au ?_|(refine ae ?_ ?_<;>intro h))
   refine ag ?_;rfl
  ·rw[show ((x::r).any fun y=>decide (y.ls.router=q.ls.router))=r.any fun y=>decide (y.ls.router=q.ls.router) from by simp[h]]
   refine evl ?_
   repeat' ((conv=>whnf);first|refine aY h ?_|refine au ?_|(refine ae ?_ ?_<;>intro h))
   refine ab [36,3,34,35] [67] ?_;exact yx q g lm l hl r (done++[x]) _ _ _ (n+1) (by simp[e]) (by simp[hn])
def rtT (d:List RConf)(q:RConf):Int:=if lsE q.ls=0 then (if d.any (fun y=>decide (y.ls.router=q.ls.router)) then 7 else tz q) else lsE q.ls
theorem EO (q:RConf)(g:q.good)(lm:q.lim)(l:List RConf)(hl:l.length<2^40)(hls:ah G 437 [.agg [.int .u32 q.ls.router,.sl 9 (q.ls.ifs.map Ifc.enc),.sl 4 (q.ls.ranges.map ARange.enc)]] [] ⟨.int .i64 (lsE q.ls),[]⟩): ∀(rest done:List RConf)(T:TV)(H:aw)(c:Nat)(n:Int)(e:l=done++rest)(hn:n=done.length),
  Ev G ⟨adk,⟨(18,.int .i64 n)::(3,.ref 67 1 0)::(16,.sl 25 (l.map RConf.enc))::(0,.sl 25 (l.map RConf.enc))::(17,.int .i64 l.length)::T,(67,some (1,.cells q.enc))::H,c⟩,[.t 4],0⟩ ⟨.int .i64 (if rest.any (fun y=>decide (y.name=q.name)) then 7 else rtT l q),[]⟩
 | [],done,T,H,c,n,e,hn=>by
  have hd:=md0 e;have m1:=ml l RConf.enc;simp only[List.any_nil,A4,if_false];rw[rtT]
  by_cases a:lsE q.ls=0
  ·rw[Ad a]
   rw[a] at hls;refine evl ?_
   repeat' ((conv=>whnf);first|refine bb rfl ?_|refine au ?_|(refine ae ?_ ?_<;>intro h))
   refine ab [36,3,34,35] [67] ?_;rw[m1];exact yx q g lm l hl l [] _ _ _ 0 rfl rfl
  ·rw[Ac a]
   generalize lsE q.ls=E at*;refine evl ?_
   repeat' ((conv=>whnf);first|refine bh a ?_|refine au ?_|(refine ae ?_ ?_<;>intro h))
   refine ag ?_;rfl
 |x::r,done,T,H,c,n,e,hn=>by
  have hd:=md e;have m1:=ml l RConf.enc;have hx:=mx RConf.enc e hn
  by_cases h:x.name=q.name
  ·rw[Ad (by simp[h])]
   refine evl ?_
   repeat' ((conv=>whnf);first|refine ahv h ?_|refine au ?_|(refine ae ?_ ?_<;>intro h))
   refine ag ?_;rfl
  ·rw[show ((x::r).any fun y=>decide (y.name=q.name))=r.any fun y=>decide (y.name=q.name) from by simp[h]]
   refine evl ?_
   repeat' ((conv=>whnf);first|refine ahw h ?_|refine au ?_|(refine ae ?_ ?_<;>intro h))
   refine ab [18,3,16,0,17] [67] ?_;exact EO q g lm l hl hls r (done++[x]) _ _ _ (n+1) (by simp[e]) (by simp[hn])
def rtP (d:List RConf)(q:RConf):Int:=if tw q.name=true then (if d.any (fun y=>decide (y.name=q.name)) then 7 else rtT d q) else 1
theorem Qx (q:RConf)(g:q.good)(lm:q.lim)(l:List RConf)(hl:l.length<2^40)(hls:ah G 437 [.agg [.int .u32 q.ls.router,.sl 9 (q.ls.ifs.map Ifc.enc),.sl 4 (q.ls.ranges.map ARange.enc)]] [] ⟨.int .i64 (lsE q.ls),[]⟩):ah G 396 [.sl 25 (l.map RConf.enc),.agg q.enc] [] ⟨.int .i64 (rtP l q),[]⟩:=by
 have h1:=Mh q.name g.name;have m1:=ml l RConf.enc;rw[rtP]
 by_cases a:tw q.name=true
 ·rw[Ad a]
  rw[a] at h1;refine gvB (F:=Dp) ?_;refine ab [18,3,16,0,17] [67] ?_;rw[m1];exact EO q g lm l hl hls l [] _ _ _ 0 rfl rfl
 ·rw[Ac a]
  rw[AR] at a;rw[a] at h1;exact gvA (F:=Dp)
end Go.AM.IR
namespace Go.AM.IR
def ib (a:Int):AV:=.int .u32 a
theorem kp (a b:Int):eqK false [.int] (ib a) (ib b)=some (decide (a=b)):=by
 show some ((a==b)&&true)=_
 by_cases h:a=b<;>simp[h]
structure AddOf (es:List (AV×AV))(o:List Int):Prop where
 e: ∀x∈es,∃a:Int,x.1=ib a
 m: ∀u:Int,cu false [.int] (.bool false) (ib u) es= .bool (decide (u∈o))
theorem AddOf.nil:AddOf [] []:=⟨by simp,fun u=>by simp[cu]⟩
theorem Mt (a:Int): ∀es:List (AV×AV),(∀x∈es,∃a:Int,x.1=ib a)→jF false [.int] (ib a) es=true
 | [],_=>by rw[jF,kp];rfl
 |e::es,he=>by
  obtain ⟨u,q⟩:=he e (by simp)
  rw[jF,q,kp,Mt a es (fun x hx=>he x (by simp[hx]))];rfl
theorem Mi (r u:Int): ∀es:List (AV×AV),(∀x∈es,∃a:Int,x.1=ib a)→cu false [.int] (.bool false) (ib r) (dm false [.int] (ib u) (.bool true) es)=if r=u then .bool true else cu false [.int] (.bool false) (ib r) es
 | [],_=>by
  show (bif eqK false [.int] (ib r) (ib u)==some true then AV.bool true else AV.bool false)=_
  rw[kp]
  by_cases w:r=u
  ·rw[Al w,Ad w];rfl
  ·rw[An w,Ac w];rfl
 |e::es,he=>by
  obtain ⟨a,q⟩:=he e (by simp)
  have ih:=Mi r u es (fun x hx=>he x (by simp[hx]))
  rw[dm,q,kp]
  by_cases x:u=a
  ·rw[Al x]
   show (bif eqK false [.int] (ib r) (ib u)==some true then AV.bool true else cu false [.int] (.bool false) (ib r) es)=_
   rw[cu,q,kp,kp]
   by_cases w:r=u
   ·rw[Al w,Ad w];rfl
   ·rw[An w,Ac w,An (by rw[←x];exact w)];rfl
  ·rw[An x]
   show cu false [.int] (.bool false) (ib r) (e::dm false [.int] (ib u) (.bool true) es)=_
   rw[cu,cu,q,kp,ih]
   by_cases w:r=u
   ·rw[Ad w,Ad w,An (by rw[w];exact x)];rfl
   ·rw[Ac w,Ac w]
theorem Tk (u:Int): ∀es:List (AV×AV),(∀x∈es,∃a:Int,x.1=ib a)→ ∀x∈dm false [.int] (ib u) (.bool true) es,∃a:Int,x.1=ib a
 | [],_=>by intro e he;simp only[dm,B5] at he;exact ⟨u,by rw[he]⟩
 |e::es,he=>by
  obtain ⟨a,q⟩:=he e (by simp)
  have ih:=Tk u es (fun x hx=>he x (by simp[hx]))
  rw[dm,q,kp]
  by_cases x:u=a
  ·rw[Al x]
   intro y hy;rcases AK.1 hy with w|w
   ·exact ⟨u,by rw[w]⟩
   ·exact he y (by simp[w])
  ·rw[An x]
   intro y hy;rcases AK.1 hy with w|w
   ·exact he y (by simp[w])
   ·exact ih y w
theorem AddOf.put {es:List (AV×AV)}{o:List Int}(h:AddOf es o)(a:Int):AddOf (dm false [.int] (ib a) (.bool true) es) (o++[a]):=by
 refine ⟨Tk a es h.e,fun u=>?_⟩
 rw[Mi u a es h.e,h.m u]
 by_cases w:u=a
 ·rw[Ad w,Al (by simp[w])]
 ·rw[Ac w]
  by_cases v:u∈o
  ·rw[Al v,Al (by simp[v])]
  ·rw[An v,An (by simp[v,w])]
theorem Nf (q:RConf)(r:List RConf): ∀(d:List RConf)(n:Int),(fx (d++q::r) q.name n<n+d.length)↔d.any (fun y=>decide (y.name=q.name))=true
 | [],n=>by simp[fx]
 |x::d,n=>by
  rw[BY,fx]
  by_cases h:x.name=q.name
  ·rw[Ad h]
   simp[h];omega
  ·rw[Ac h]
   have ih:=Nf q r d (n+1);have e:n+((x::d).length:Int)=n+1+d.length:=by simp;omega
   rw[e,ih];simp[h]
end Go.AM.IR
namespace Go.AM.IR
theorem Iw (t:Topo)(q:RConf)(hl:q.ls.ifs.length<2^40)(gm:Nat)(A M:List Int)(k ln:Int)(R:Ret)(Z:Bool)(hR:Z=true→R=⟨.int .i64 7,[]⟩)
  (go: ∀(es:List (AV×AV))(hE:AddOf es (A++q.ls.ifs.map Ifc.addr))(hZ:jt (A++q.ls.ifs.map Ifc.addr) M=Z)(T:TV)(H:aw)(c:Nat),Ev G ⟨ug,⟨(6,.mp 107 gm)::(47,.int .i64 (k+1))::(45,.sl 25 (t.routers.map RConf.enc))::(1,.ref 65 1 0)::(46,.int .i64 ln)::T,(107,some (gm,.mp es))::(65,some (1,.cells t.enc))::H,c⟩,[.t 2],0⟩ R)
  (hk0:0≤k) (hk:k<2^40):
  ∀(rest done:List Ifc)(es:List (AV×AV))(T:TV)(H:aw)(c:Nat)(n:Int)(e:q.ls.ifs=done++rest)(hn:n=done.length)(hE:AddOf es (A++done.map Ifc.addr))(hZ:jt (A++done.map Ifc.addr) (rest.map Ifc.addr++M)=Z),
  Ev G ⟨aak,⟨(55,.int .i64 n)::(6,.mp 107 gm)::(53,.sl 9 (q.ls.ifs.map Ifc.enc))::(45,.sl 25 (t.routers.map RConf.enc))::(1,.ref 65 1 0)::(46,.int .i64 ln)::(47,.int .i64 k)::(54,.int .i64 q.ls.ifs.length)::T,(107,some (gm,.mp es))::(65,some (1,.cells t.enc))::H,c⟩,[.t 2],0⟩ R
 | [],done,es,T,H,c,n,e,hn,hE,hZ=>by
  have hd:=md0 e;obtain rfl:done=q.ls.ifs:=by simp[e]
  refine evA ?_;refine ab [6,47,45,1,46] [107,65] ?_;exact go es hE hZ _ _ _
 |x::r,done,es,T,H,c,n,e,hn,hE,hZ=>by
  have hd:=md e;have m2:=ml q.ls.ifs Ifc.enc;have hz1:=mx Ifc.enc e hn;have ih:=fun es' hE' hZ' T H c=>Iw t q hl gm A M k ln R Z hR go hk0 hk r (done++[x]) es' T H c (n+1) (by simp[e]) (by simp[hn]) hE' hZ'
  have k1:=Mt x.addr es hE.e;have v1:=hE.m x.addr;rw[Ao,BY,jt] at hZ
  by_cases d:x.addr∈A++done.map Ifc.addr
  ·rw[Ad d] at hZ
   rw[Al d] at v1;rw[hR hZ.symm];refine evA ?_;dsimp only;erw[v1]
   repeat' (first|refine bc ?_|(refine ae ?_ ?_<;>intro h))
   refine ag ?_;rfl
  ·rw[Ac d] at hZ
   rw[An d] at v1;refine evA ?_;dsimp only;erw[v1]
   repeat' (first|refine bc ?_|(refine ae ?_ ?_<;>intro h))
   refine ab [55,6,53,45,1,46,47,54] [107,65] ?_;exact ih _ (by rw[List.map_append,←AF];exact hE.put x.addr) (by rw[List.map_append,←AF];exact hZ) _ _ _
theorem Iv (t:Topo)(ht:t.routers.length<2^40)(hif: ∀q∈t.routers,q.ls.ifs.length<2^40)(gm:Nat)(R:Ret)(Z:Bool)(hR:Z=true→R=⟨.int .i64 7,[]⟩)
  (go:Z=false→ ∀(gl:Nat)(T:TV)(H:aw)(c:Nat),Ev G ⟨GH,⟨(72,.int .i64 0)::(11,.mp 132 gl)::(1,.ref 65 1 0)::(70,.sl 2 (t.links.map Lnk.enc))::(71,.int .i64 (t.links.map Lnk.enc).length)::T,(132,some (gl,.mp []))::(65,some (1,.cells t.enc))::H,c⟩,[.t 2],0⟩ R):
  ∀(rest done:List RConf)(es:List (AV×AV))(T:TV)(H:aw)(c:Nat)(n:Int)(e:t.routers=done++rest)(hn:n=done.length)(hE:AddOf es (bI done))(hZ:jt (bI done) (bI rest)=Z),
  Ev G ⟨ug,⟨(6,.mp 107 gm)::(47,.int .i64 n)::(45,.sl 25 (t.routers.map RConf.enc))::(1,.ref 65 1 0)::(46,.int .i64 t.routers.length)::T,(107,some (gm,.mp es))::(65,some (1,.cells t.enc))::H,c⟩,[.t 2],0⟩ R
 | [],done,es,T,H,c,n,e,hn,hE,hZ=>by
  have hd:=md0 e;refine evA ?_;refine ab [72,11,1,70,71] [132,65] ?_;exact go hZ.symm _ _ _ _
 |x::r,done,es,T,H,c,n,e,hn,hE,hZ=>by
  have hd:=md e;have m2:=ml t.routers RConf.enc;have hz1:=mx RConf.enc e hn;have m3:=ml x.ls.ifs Ifc.enc;have ap:bI (done++[x])=bI done++x.ls.ifs.map Ifc.addr:=by rw[n6];simp[bI]
  have ih:=fun es' hE' hZ' T H c=>Iv t ht hif gm R Z hR go r (done++[x]) es' T H c (n+1) (by simp[e]) (by simp[hn]) hE' hZ'
  refine evA ?_;refine ab [55,6,53,45,1,46,47,54] [107,65] ?_;rw[m3];exact Iw t x (hif x (by simp[e])) gm (bI done) (bI r) n _ R Z hR (fun es' hE' hZ' T H c=>ih es' (by rw[ap];exact hE') (by rw[ap];exact hZ') T H c) (by omega) (by omega) x.ls.ifs [] es _ _ _ 0 rfl rfl (by simpa using hE) (by simpa[bI] using hZ)
end Go.AM.IR
namespace Go.AM.IR
def isT:AV→Bool
 | .bool b=>b
 |_=>false
def ceM (t:Topo):List (AV×AV)→List LEnd→List LEnd→Int×List (AV×AV)
 |es,_,[]=>(0,es)
 |es,d,x::r=>if (dc t x).isSome=false then (5,es) else if isT (cu true [.int,.int] (.bool false) (dG x.router x.ifc) es)=true then (7,es) else if d.any (fun y=>decide (y.router=x.router))=true then (1,es) else ceM t (dm true [.int,.int] (dG x.router x.ifc) (.bool true) es) (d++[x]) r
def ceR (p:Int×List (AV×AV)):Ret:=⟨.int .i64 p.1,[(true,.mp p.2)]⟩
theorem Ip (t:Topo)(y:Lnk)(x:LEnd)(l:List LEnd)(hl:l.length<2^40)(es:List (AV×AV))(hE:iG es)(g8:Nat)(d:Int)(hd0:0≤d)(hd1:d<2^40)(ln:Int)(R:Ret)
  (go: ¬l.any (fun y=>decide (y.router=x.router))=true→ ∀(T:TV)(H:aw)(c:Nat),Ev G ⟨Gj,⟨(16,.int .i64 (d+1))::(2,.mp 0 0)::(4,.ref 68 2 0)::(3,.ref 67 1 0)::(14,.sl 2 (y.ends.map LEnd.enc))::(15,.int .i64 ln)::T,(0,some (0,.mp (dm true [.int,.int] (dG x.router x.ifc) (.bool true) es)))::(68,some (2,.cells y.enc))::(67,some (1,.cells t.enc))::H,c⟩,[.t 6],1⟩ R)
  (hR:l.any (fun y=>decide (y.router=x.router))=true→R=ceR (1,es)): ∀(rest done:List LEnd)(T:TV)(H:aw)(c:Nat)(n:Int)(e:l=done++rest)(hn:n=done.length)(hP:done.any (fun y=>decide (y.router=x.router))=false),
  Ev G ⟨Zk,⟨(37,.int .i64 n)::(8,.ref 72 g8 0)::(35,.sl 2 (l.map LEnd.enc))::(2,.mp 0 0)::(4,.ref 68 2 0)::(3,.ref 67 1 0)::(14,.sl 2 (y.ends.map LEnd.enc))::(15,.int .i64 ln)::(16,.int .i64 d)::(36,.int .i64 l.length)::T,(72,some (g8,.cells x.enc))::(0,some (0,.mp es))::(68,some (2,.cells y.enc))::(67,some (1,.cells t.enc))::H,c⟩,[.t 6],1⟩ R
 | [],done,T,H,c,n,e,hn,hP=>by
  obtain rfl:done=l:=by simp[e]
  have k1:=wD fp x.router x.ifc es hE;refine evA ?_;refine ab [16,2,4,3,14,15] [0,68,67] ?_;exact go (by rw[hP];simp) _ _ _
 |z::r,done,T,H,c,n,e,hn,hP=>by
  have hd:=md e;have m1:=ml l LEnd.enc;have hx:(l.map LEnd.enc)[n.toNat]? =some z.enc:=by simp[e,hn]
  by_cases h:z.router=x.router
  ·rw[hR (by rw[e];simp[h]),ceR]
   refine evl ?_
   repeat' ((conv=>whnf);first|refine bj h ?_|refine au ?_|(refine ae ?_ ?_<;>intro h))
   refine fX1 ?_;rfl
  ·refine evl ?_
   repeat' ((conv=>whnf);first|refine aY h ?_|refine au ?_|(refine ae ?_ ?_<;>intro h))
   refine ab [37,8,35,2,4,3,14,15,16,36] [72,0,68,67] ?_;exact Ip t y x l hl es hE g8 d hd0 hd1 ln R go hR r (done++[z]) _ _ _ (n+1) (by simp[e]) (by simp[hn]) (by simp[hP,h])
theorem pB (t:Topo)(e:LEnd)(ht:t.routers.length<2^40)(hf: ∀c∈t.routers,c.ls.ifs.length<2^40):ah G 426 [.agg t.enc,.agg e.enc] [] ⟨.tup [.agg (bM t e).enc,.bool (dc t e).isSome],[]⟩:=by
 have h:=Cw t e ht hf;unfold bM;cases ho:dc t e<;>rw[ho] at h<;>exact h
theorem Io (t:Topo)(ht:t.routers.length<2^40)(hf: ∀c∈t.routers,c.ls.ifs.length<2^40)(y:Lnk)(hl:y.ends.length<2^40): ∀(rest done:List LEnd)(es:List (AV×AV))(hE:iG es)(hB: ∀u v,∃b:Bool,cu true [.int,.int] (.bool false) (dG u v) es= .bool b)(T:TV)(H:aw)(c:Nat)(n:Int)(e:y.ends=done++rest)(hn:n=done.length),
  Ev G ⟨Gj,⟨(16,.int .i64 n)::(2,.mp 0 0)::(4,.ref 68 2 0)::(3,.ref 67 1 0)::(14,.sl 2 (y.ends.map LEnd.enc))::(15,.int .i64 y.ends.length)::T,(0,some (0,.mp es))::(68,some (2,.cells y.enc))::(67,some (1,.cells t.enc))::H,c⟩,[.t 6],1⟩ (ceR (ceM t es done rest))
 | [],done,es,hE,hB,T,H,c,n,e,hn=>by
  have hd:=md0 e;rw[ceM,ceR];refine evA ?_;refine fX1 ?_;rfl
 |x::r,done,es,hE,hB,T,H,c,n,e,hn=>by
  have hd:=md e;have m1:=ml y.ends LEnd.enc;have hx:=mx LEnd.enc e hn;have h1:=pB t x ht hf;have k1:=wD fp x.router x.ifc es hE;obtain ⟨b,v1⟩:=hB x.router x.ifc;have hE2:=kj fp x.router x.ifc es hE
  have hB2: ∀u v,∃b:Bool,cu true [.int,.int] (.bool false) (dG u v) (dm true [.int,.int] (dG x.router x.ifc) (.bool true) es)= .bool b:=fun u v=>by
   rw[l8 fp u v x.router x.ifc es hE];split
   ·exact ⟨true,rfl⟩
   ·exact hB u v
  have ih:=fun T H c=>Io t ht hf y hl r (done++[x]) _ hE2 hB2 T H c (n+1) (by simp[e]) (by simp[hn])
  rw[ceM];generalize bM t x=D at*;cases ho:(dc t x).isSome with
  |false=>
   rw[ho] at h1;rw[Ad rfl,ceR];refine evA ?_;refine fX1 ?_;rfl
  |true=>
  rw[ho] at h1;rw[Ac (by decide),show isT (cu true [.int,.int] (.bool false) (dG x.router x.ifc) es)=b from by rw[v1];rfl]
  cases b with
  |true=>
   rw[Ad rfl,ceR];refine evA ?_;dsimp only;erw[v1]
   repeat' (first|refine bc ?_|(refine ae ?_ ?_<;>intro h))
   refine fX1 ?_;rfl
  |false=>
  rw[Ac (by decide)]
  refine evA ?_;dsimp only;erw[v1]
  repeat' (first|refine bc ?_|(refine ae ?_ ?_<;>intro h))
  refine ab [37,8,35,2,4,3,14,15,16,36] [72,0,68,67] ?_;rw[show List.take (n.toNat-0) (List.drop 0 (List.map LEnd.enc y.ends))=List.map LEnd.enc done from by simp[e,hn],At]
  refine Ip t y x done (by omega) es hE _ n (by omega) (by omega) _ _ (fun hn' T H c=>?_) (fun hp=>?_) done [] _ _ _ 0 rfl rfl rfl
  ·rw[Ac hn']
   exact ih T H c
  ·rw[Ad hp]
end Go.AM.IR
namespace Go.AM.IR
theorem RM (t:Topo)(ht:t.routers.length<2^40)(hf: ∀c∈t.routers,c.ls.ifs.length<2^40)(y:Lnk)(hl:y.ends.length<2^40)(es:List (AV×AV))(hE:iG es)(hB: ∀u v,∃b:Bool,cu true [.int,.int] (.bool false) (dG u v) es= .bool b):ah G 441 [.agg t.enc,.agg y.enc,.mp 0 0] [.mp es] (ceR (ceM t es [] y.ends)):=by
 have m1:=ml y.ends LEnd.enc;refine gvB (F:=NF) ?_;refine ab [16,2,4,3,14,15] [0,68,67] ?_;rw[m1];exact Io t ht hf y hl y.ends [] es hE hB _ _ _ 0 rfl rfl
def xD (a b:Ifc):Bool:=if b.kind=a.kind then if b.pfx.addr=a.pfx.addr then if b.pfx.len=a.pfx.len then if b.area=a.area then if b.hello=a.hello then (b.dead !=a.dead) else true else true else true else true else true
def lkP (t:Topo)(y:Lnk)(a:Ifc):Bool→List LEnd→Int
 |w,[]=>if w=true then 14 else 0
 |w,x::r=>if (bM t x).kind=2 then lkP t y a (w||xD a (bM t x)) r else if 2<y.ends.length then 15 else lkP t y a (w||xD a (bM t x)) r
theorem FD (t:Topo)(ht:t.routers.length<2^40)(hf: ∀c∈t.routers,c.ls.ifs.length<2^40)(y:Lnk)(hl:y.ends.length<2^40)(a:Ifc)(g8:Nat)(es:List (AV×AV)): ∀(rest done:List LEnd)(w:Bool)(T:TV)(H:aw)(c:Nat)(n:Int)(e:y.ends=done++rest)(hn:n=done.length),
  Ev G ⟨aaa,⟨(46,.int .i64 n)::(8,.ref 72 g8 0)::(10,.bool w)::(4,.ref 68 2 0)::(3,.ref 67 1 0)::(44,.sl 2 (y.ends.map LEnd.enc))::(45,.int .i64 y.ends.length)::T,(72,some (g8,.cells a.enc))::(68,some (2,.cells y.enc))::(67,some (1,.cells t.enc))::(0,some (0,.mp es))::H,c⟩,[.t 6],1⟩ (ceR (lkP t y a w rest,es))
 | [],done,w,T,H,c,n,e,hn=>by
  have hd:=md0 e;rw[lkP];cases w with
  |true=>
   rw[Ad rfl,ceR];refine evA ?_;refine fX1 ?_;rfl
  |false=>
   rw[Ac (by decide),ceR]
   refine evA ?_;refine fX1 ?_;rfl
 |x::r,done,w,T,H,c,n,e,hn=>by
  have hd:=md e;have m1:=ml y.ends LEnd.enc;have hx:=mx LEnd.enc e hn;have h1:=pB t x ht hf;have ih:=fun w T H c=>FD t ht hf y hl a g8 es r (done++[x]) w T H c (n+1) (by simp[e]) (by simp[hn])
  rw[lkP];generalize bM t x=b at*;generalize (dc t x).isSome=s at*
  by_cases k2:b.kind=2
  ·rw[Ad k2]
   cases w with
   |true=>
    rw[Bool.true_or];refine evl ?_
    repeat' ((conv=>whnf);first|refine bb k2 ?_|refine au ?_|(refine ae ?_ ?_<;>intro h))
    refine ab [46,8,10,4,3,44,45] [72,68,67,0] ?_;exact ih _ _ _ _
   |false=>
   rw[BS,xD]
   by_cases c1: ¬b.kind=a.kind
   ·rw[Ac c1]
    refine evl ?_
    repeat' ((conv=>whnf);first|refine bb k2 ?_|refine bh c1 ?_|refine au ?_|(refine ae ?_ ?_<;>intro h))
    refine ab [46,8,10,4,3,44,45] [72,68,67,0] ?_;exact ih _ _ _ _
   rw[Classical.not_not] at c1;rw[Ad c1]
   by_cases c2: ¬b.pfx.addr=a.pfx.addr
   ·rw[Ac c2]
    refine evl ?_
    repeat' ((conv=>whnf);first|refine bb k2 ?_|refine bb c1 ?_|refine bh c2 ?_|refine au ?_|(refine ae ?_ ?_<;>intro h))
    refine ab [46,8,10,4,3,44,45] [72,68,67,0] ?_;exact ih _ _ _ _
   rw[Classical.not_not] at c2;rw[Ad c2]
   by_cases c3: ¬b.pfx.len=a.pfx.len
   ·rw[Ac c3]
    refine evl ?_
    repeat' ((conv=>whnf);first|refine bb k2 ?_|refine bb c1 ?_|refine bb c2 ?_|refine bh c3 ?_|refine au ?_|(refine ae ?_ ?_<;>intro h))
    refine ab [46,8,10,4,3,44,45] [72,68,67,0] ?_;exact ih _ _ _ _
   rw[Classical.not_not] at c3;rw[Ad c3]
   by_cases c4: ¬b.area=a.area
   ·rw[Ac c4]
    refine evl ?_
    repeat' ((conv=>whnf);first|refine bb k2 ?_|refine bb c1 ?_|refine bb c2 ?_|refine bb c3 ?_|refine bh c4 ?_|refine au ?_|(refine ae ?_ ?_<;>intro h))
    refine ab [46,8,10,4,3,44,45] [72,68,67,0] ?_;exact ih _ _ _ _
   rw[Classical.not_not] at c4;rw[Ad c4]
   by_cases c5: ¬b.hello=a.hello
   ·rw[Ac c5]
    refine evl ?_
    repeat' ((conv=>whnf);first|refine bb k2 ?_|refine bb c1 ?_|refine bb c2 ?_|refine bb c3 ?_|refine bb c4 ?_|refine bh c5 ?_|refine au ?_|(refine ae ?_ ?_<;>intro h))
    refine ab [46,8,10,4,3,44,45] [72,68,67,0] ?_;exact ih _ _ _ _
   rw[Classical.not_not] at c5;rw[Ad c5];refine evl ?_
   repeat' ((conv=>whnf);first|refine bb k2 ?_|refine bb c1 ?_|refine bb c2 ?_|refine bb c3 ?_|refine bb c4 ?_|refine bb c5 ?_|refine au ?_|(refine ae ?_ ?_<;>intro h))
   refine ab [46,8,10,4,3,44,45] [72,68,67,0] ?_;exact ih _ _ _ _
  rw[Ac k2]
  by_cases k3:2<y.ends.length
  ·rw[Ad k3,ceR]
   have k4:(y.ends.length:Int)>2:=by omega
   refine evl ?_
   repeat' ((conv=>whnf);first|refine bh k2 ?_|refine au ?_|(refine ae ?_ ?_<;>intro h))
   refine fX1 ?_;rfl
  rw[Ac k3];have k4: ¬(y.ends.length:Int)>2:=by omega
  cases w with
  |true=>
   rw[Bool.true_or];refine evl ?_
   repeat' ((conv=>whnf);first|refine bh k2 ?_|refine au ?_|(refine ae ?_ ?_<;>intro h))
   refine ab [46,8,10,4,3,44,45] [72,68,67,0] ?_;exact ih _ _ _ _
  |false=>
  rw[BS,xD]
  by_cases c1: ¬b.kind=a.kind
  ·rw[Ac c1]
   refine evl ?_
   repeat' ((conv=>whnf);first|refine bh k2 ?_|refine bh c1 ?_|refine au ?_|(refine ae ?_ ?_<;>intro h))
   refine ab [46,8,10,4,3,44,45] [72,68,67,0] ?_;exact ih _ _ _ _
  rw[Classical.not_not] at c1;rw[Ad c1]
  by_cases c2: ¬b.pfx.addr=a.pfx.addr
  ·rw[Ac c2]
   refine evl ?_
   repeat' ((conv=>whnf);first|refine bh k2 ?_|refine bb c1 ?_|refine bh c2 ?_|refine au ?_|(refine ae ?_ ?_<;>intro h))
   refine ab [46,8,10,4,3,44,45] [72,68,67,0] ?_;exact ih _ _ _ _
  rw[Classical.not_not] at c2;rw[Ad c2]
  by_cases c3: ¬b.pfx.len=a.pfx.len
  ·rw[Ac c3]
   refine evl ?_
   repeat' ((conv=>whnf);first|refine bh k2 ?_|refine bb c1 ?_|refine bb c2 ?_|refine bh c3 ?_|refine au ?_|(refine ae ?_ ?_<;>intro h))
   refine ab [46,8,10,4,3,44,45] [72,68,67,0] ?_;exact ih _ _ _ _
  rw[Classical.not_not] at c3;rw[Ad c3]
  by_cases c4: ¬b.area=a.area
  ·rw[Ac c4]
   refine evl ?_
   repeat' ((conv=>whnf);first|refine bh k2 ?_|refine bb c1 ?_|refine bb c2 ?_|refine bb c3 ?_|refine bh c4 ?_|refine au ?_|(refine ae ?_ ?_<;>intro h))
   refine ab [46,8,10,4,3,44,45] [72,68,67,0] ?_;exact ih _ _ _ _
  rw[Classical.not_not] at c4;rw[Ad c4]
  by_cases c5: ¬b.hello=a.hello
  ·rw[Ac c5]
   refine evl ?_
   repeat' ((conv=>whnf);first|refine bh k2 ?_|refine bb c1 ?_|refine bb c2 ?_|refine bb c3 ?_|refine bb c4 ?_|refine bh c5 ?_|refine au ?_|(refine ae ?_ ?_<;>intro h))
   refine ab [46,8,10,4,3,44,45] [72,68,67,0] ?_;exact ih _ _ _ _
  rw[Classical.not_not] at c5;rw[Ad c5];refine evl ?_
  repeat' ((conv=>whnf);first|refine bh k2 ?_|refine bb c1 ?_|refine bb c2 ?_|refine bb c3 ?_|refine bb c4 ?_|refine bb c5 ?_|refine au ?_|(refine ae ?_ ?_<;>intro h))
  refine ab [46,8,10,4,3,44,45] [72,68,67,0] ?_;exact ih _ _ _ _
end Go.AM.IR
namespace Go.AM.IR
def lkR (t:Topo)(es:List (AV×AV))(y:Lnk):Int×List (AV×AV):=
 if y.ends.length<2 then (1,es) else if y.delay<1 then (5,es) else if 60<y.delay then (5,es) else
 if (ceM t es [] y.ends).1=0 then (match y.ends with| []=>0|x::_=>lkP t y (bM t x) false y.ends,(ceM t es [] y.ends).2) else ceM t es [] y.ends
theorem QY (t:Topo)(ht:t.routers.length<2^40)(hf: ∀c∈t.routers,c.ls.ifs.length<2^40)(y:Lnk)(hl:y.ends.length<2^40)(es:List (AV×AV))(hE:iG es)(hB: ∀u v,∃b:Bool,cu true [.int,.int] (.bool false) (dG u v) es= .bool b):ah G 397 [.agg t.enc,.agg y.enc,.mp 0 0] [.mp es] (ceR (lkR t es y)):=by
 have m1:=ml y.ends LEnd.enc;have h1:=RM t ht hf y hl es hE hB;rw[lkR]
 by_cases a1:y.ends.length<2
 ·rw[Ad a1,ceR]
  have a1':(y.ends.length:Int)<2:=by omega
  refine gvB (F:=uf) ?_;refine fX1 ?_;rfl
 rw[Ac a1];have a1': ¬(y.ends.length:Int)<2:=by omega
 by_cases a2:y.delay<1
 ·rw[Ad a2,ceR]
  refine gvB (F:=uf) ?_;refine fX1 ?_;rfl
 rw[Ac a2]
 by_cases a3:60<y.delay
 ·rw[Ad a3,ceR]
  refine gvB (F:=uf) ?_;refine fX1 ?_;rfl
 rw[Ac a3];generalize hM:ceM t es [] y.ends=p at*;obtain ⟨E,es'⟩:=p;have h1:ah G 441 [.agg t.enc,.agg y.enc,.mp 0 0] [.mp es] ⟨.int .i64 E,[(true,.mp es')]⟩:=h1
 by_cases e0:E=0
 ·subst e0
  rw[Ad (show ((0:Int),es').1=0 from rfl)]
  obtain ⟨x,r,hx⟩: ∃x r,y.ends=x::r:=by
   cases hy:y.ends with
   |nil=>rw[hy] at a1;exact absurd (by simp) a1
   |cons x r=>exact ⟨x,r,rfl⟩
  have h2:=pB t x ht hf;have hx0:(y.ends.map LEnd.enc)[(0:Int).toNat]? =some x.enc:=by simp[hx]
  rw[show (match y.ends with| []=>(0:Int)|x::_=>lkP t y (bM t x) false y.ends)=lkP t y (bM t x) false y.ends from by rw[hx]]
  have hk:=FD t ht hf y hl (bM t x);generalize bM t x=a at*;generalize (dc t x).isSome=s at*;refine gvC (F:=uf) ?_
  repeat' ((conv=>whnf);first|refine bb rfl ?_|refine au ?_|refine kX [(0,_,_)] [] ⟨rfl,trivial⟩ trivial (h1) ?_|(refine ae ?_ ?_<;>intro h))
  refine ab [46,8,10,4,3,44,45] [72,68,67,0] ?_;rw[m1];exact hk _ es' y.ends [] false _ _ _ 0 rfl rfl
 ·rw[Ac (show¬(E,es').1=0 from e0),ceR]
  refine gvC (F:=uf) ?_
  repeat' ((conv=>whnf);first|refine bh e0 ?_|refine au ?_|refine kX [(0,_,_)] [] ⟨rfl,trivial⟩ trivial (h1) ?_|(refine ae ?_ ?_<;>intro h))
  refine fX1 ?_;rfl
end Go.AM.IR
namespace Go.AM.IR
def EBool (es:List (AV×AV)):Prop:= ∀u v,∃b:Bool,cu true [.int,.int] (.bool false) (dG u v) es= .bool b
theorem EBool.put {es:List (AV×AV)}(hE:iG es)(hB:EBool es)(i k:Int):EBool (dm true [.int,.int] (dG i k) (.bool true) es):=fun u v=>by
 rw[l8 fp u v i k es hE];split
 ·exact ⟨true,rfl⟩
 ·exact hB u v
theorem aaB (t:Topo): ∀(l d:List LEnd)(es:List (AV×AV))(hE:iG es)(hB:EBool es),iG (ceM t es d l).2∧EBool (ceM t es d l).2
 | [],d,es,hE,hB=>⟨hE,hB⟩
 |x::r,d,es,hE,hB=>by
  rw[ceM];split
  ·exact ⟨hE,hB⟩
  split
  ·exact ⟨hE,hB⟩
  split
  ·exact ⟨hE,hB⟩
  exact aaB t r (d++[x]) _ (kj fp x.router x.ifc es hE) (hB.put hE x.router x.ifc)
theorem Yk (t:Topo)(y:Lnk)(es:List (AV×AV))(hE:iG es)(hB:EBool es):iG (lkR t es y).2∧EBool (lkR t es y).2:=by
 have h:=aaB t y.ends [] es hE hB;rw[lkR];split
 ·exact ⟨hE,hB⟩
 split
 ·exact ⟨hE,hB⟩
 split
 ·exact ⟨hE,hB⟩
 split
 ·exact h
 ·exact h
def tD (t:Topo):List (AV×AV)→List Lnk→Int
 |_,[]=>0
 |es,y::r=>if (lkR t es y).1=0 then tD t (lkR t es y).2 r else (lkR t es y).1
theorem zh (t:Topo)(ht:t.routers.length<2^40)(hf: ∀c∈t.routers,c.ls.ifs.length<2^40)(hl:t.links.length<2^40)(hel: ∀y∈t.links,y.ends.length<2^40)(gl:Nat): ∀(rest done:List Lnk)(es:List (AV×AV))(hE:iG es)(hB:EBool es)(T:TV)(H:aw)(c:Nat)(n:Int)(e:t.links=done++rest)(hn:n=done.length),
  Ev G ⟨GH,⟨(72,.int .i64 n)::(11,.mp 132 gl)::(1,.ref 65 1 0)::(70,.sl 2 (t.links.map Lnk.enc))::(71,.int .i64 t.links.length)::T,(132,some (gl,.mp es))::(65,some (1,.cells t.enc))::H,c⟩,[.t 2],0⟩ ⟨.int .i64 (tD t es rest),[]⟩
 | [],done,es,hE,hB,T,H,c,n,e,hn=>by
  have hd:=md0 e;rw[tD];refine evA ?_;refine ag ?_;rfl
 |y::r,done,es,hE,hB,T,H,c,n,e,hn=>by
  have hd:=md e;have m1:=ml t.links Lnk.enc;have hx:(t.links.map Lnk.enc)[n.toNat]? =some y.enc:=by simp[e,hn]
  have h1:=QY t ht hf y (hel y (by simp[e])) es hE hB
  have ok:=Yk t y es hE hB;have ih:=fun T H c=>zh t ht hf hl hel gl r (done++[y]) _ ok.1 ok.2 T H c (n+1) (by simp[e]) (by simp[hn])
  rw[tD];generalize lkR t es y=p at*;obtain ⟨E,es'⟩:=p;have h1:ah G 397 [.agg t.enc,.agg y.enc,.mp 0 0] [.mp es] ⟨.int .i64 E,[(true,.mp es')]⟩:=h1
  by_cases e0:E=0
  ·subst e0
   rw[Ad (show ((0:Int),es').1=0 from rfl)]
   refine evl ?_
   repeat' ((conv=>whnf);first|refine bb rfl ?_|refine au ?_|refine kX [(132,_,_)] [] ⟨rfl,trivial⟩ trivial (h1) ?_|(refine ae ?_ ?_<;>intro h))
   refine ab [72,11,1,70,71] [132,65] ?_;exact ih _ _ _
  ·rw[Ac (show¬(E,es').1=0 from e0)]
   refine evl ?_
   repeat' ((conv=>whnf);first|refine bh e0 ?_|refine au ?_|refine kX [(132,_,_)] [] ⟨rfl,trivial⟩ trivial (h1) ?_|(refine ae ?_ ?_<;>intro h))
   refine ag ?_;rfl
end Go.AM.IR
namespace Go.AM.IR
def qn:List RConf→List RConf→Int
 |_,[]=>0
 |d,x::r=>if rtP d x=0 then qn (d++[x]) r else rtP d x
theorem yp (t:Topo)(ht:t.routers.length<2^40)(gd: ∀q∈t.routers,q.good)(lm: ∀q∈t.routers,q.lim)(R:Ret)(Z:Int)(hR: ¬Z=0→R=⟨.int .i64 Z,[]⟩)
  (go:Z=0→ ∀(gm:Nat)(T:TV)(H:aw)(c:Nat),Ev G ⟨ug,⟨(6,.mp 107 gm)::(47,.int .i64 0)::(45,.sl 25 (t.routers.map RConf.enc))::(1,.ref 65 1 0)::(46,.int .i64 (t.routers.map RConf.enc).length)::T,(107,some (gm,.mp []))::(65,some (1,.cells t.enc))::H,c⟩,[.t 2],0⟩ R):
  ∀(rest done:List RConf)(T:TV)(H:aw)(c:Nat)(n:Int)(e:t.routers=done++rest)(hn:n=done.length)(hZ:qn done rest=Z),
  Ev G ⟨aal,⟨(28,.int .i64 n)::(1,.ref 65 1 0)::(26,.sl 25 (t.routers.map RConf.enc))::(27,.int .i64 t.routers.length)::T,(65,some (1,.cells t.enc))::H,c⟩,[.t 2],0⟩ R
 | [],done,T,H,c,n,e,hn,hZ=>by
  have hd:=md0 e;refine evA ?_;refine ab [6,47,45,1,46] [107,65] ?_;exact go hZ.symm _ _ _ _
 |x::r,done,T,H,c,n,e,hn,hZ=>by
  have hd:=md e;have m1:=ml t.routers RConf.enc;have hx:=mx RConf.enc e hn;have gx:=gd x (by simp[e])
  have h1:=Qx x gx (lm x (by simp[e])) done (by omega) (QT x.ls gx.ifs gx.rgs gx.ifo gx.rgo)
  rw[show done.map RConf.enc=List.take (n.toNat-0) (List.drop 0 (t.routers.map RConf.enc)) from by simp[e,hn]] at h1
  rw[qn] at hZ
  by_cases h0:rtP done x=0
  ·rw[Ad h0] at hZ
   rw[h0] at h1;refine evl ?_
   repeat' ((conv=>whnf);first|refine bb rfl ?_|refine au ?_|(refine ae ?_ ?_<;>intro h))
   refine ab [28,1,26,27] [65] ?_;exact yp t ht gd lm R Z hR go r (done++[x]) _ _ _ (n+1) (by simp[e]) (by simp[hn]) hZ
  ·rw[Ac h0] at hZ
   rw[hR (by rw[←hZ];exact h0),←hZ]
   generalize rtP done x=E at*;refine evl ?_
   repeat' ((conv=>whnf);first|refine bh h0 ?_|refine au ?_|(refine ae ?_ ?_<;>intro h))
   refine ag ?_;rfl
theorem aeE (t:Topo)(d r:List RConf)(q:RConf)(e:t.routers=d++q::r):rtP d q=rtE t d q:=by
 have h:=Nf q r d 0;rw[←e,Int.zero_add] at h;rw[rtP,rtE];cases a:tw q.name with
 |false=>simp
 |true=>
  rw[Ad rfl,Ac (show¬(true=false) by decide)]
  by_cases b:d.any (fun y=>decide (y.name=q.name))=true
  ·rw[Ad b,Ad (h.2 b)]
  ·rw[Ac b,Ac (fun k=>b (h.1 k)),rtT]
end Go.AM.IR
namespace Go.AM.IR
def OT (t:Topo):Int:=if 32<t.routers.length then 4 else if 64<t.links.length then 4 else if qn [] t.routers=0 then (if jt [] (bI t.routers)=true then 7 else tD t [] t.links) else qn [] t.routers
theorem OM (t:Topo)(g:t.good)(lm: ∀q∈t.routers,q.lim):ah G 379 [.agg t.enc] [] ⟨.int .i64 (OT t),[]⟩:=by
 have m1:=ml t.routers RConf.enc;have m2:=ml t.links Lnk.enc;have g1:=g.rs;have g2:=g.ls;have hif: ∀q∈t.routers,q.ls.ifs.length<2^40:=fun q h=>(g.good q h).ifs
 rw[OT]
 by_cases a1:32<t.routers.length
 ·rw[Ad a1]
  have a1':(t.routers.length:Int)>32:=by omega
  exact gvA (F:=sj)
 rw[Ac a1];have a1': ¬(t.routers.length:Int)>32:=by omega
 by_cases a2:64<t.links.length
 ·rw[Ad a2]
  have a2':(t.links.length:Int)>64:=by omega
  exact gvA (F:=sj)
 rw[Ac a2];have a2': ¬(t.links.length:Int)>64:=by omega
 refine gvB (F:=sj) ?_;refine ab [28,1,26,27] [65] ?_;rw[m1];refine yp t g1 g.good lm _ (qn [] t.routers) (fun h=>by rw[Ac h]) (fun h gm T H c=>?_) t.routers [] _ _ _ 0 rfl rfl rfl
 rw[Ad h,m1];refine Iv t g1 hif gm _ (jt [] (bI t.routers)) (fun k=>by rw[Ad k]) (fun k gl T H c=>?_) t.routers [] [] _ _ _ 0 rfl rfl AddOf.nil rfl
 rw[Ac (by rw[k];decide),m2]
 exact zh t g1 hif g2 g.es gl t.links [] [] (by intro e h;cases h) (fun u v=>⟨false,rfl⟩) _ _ _ 0 rfl rfl
end Go.AM.IR
namespace Go.AM.IR
theorem XX (t:Topo): ∀(r d:List RConf)(e:t.routers=d++r),ou t d r=if qn d r=0 then (if jt [] (bI t.routers)=true then 7 else nk t 0 t.links) else qn d r
 | [],d,e=>by rw[ou,qn,Ad rfl]
 |x::r,d,e=>by
  have h:=aeE t d r x e;rw[ou,qn,←h]
  by_cases a:rtP d x=0
  ·rw[Ad a,Ad a,XX t r (d++[x]) (by simp[e])]
  ·rw[Ac a,Ac a,Ac a]
theorem afv (t:Topo)(h:tD t [] t.links=nk t 0 t.links):OT t=jL t:=by
 rw[OT,jL,XX t t.routers [] rfl,h]
end Go.AM.IR
namespace Go.AM.IR
def WQ (t:Topo)(y:Lnk)(x:LEnd):Bool:=decide (¬(bM t x).kind=2∧2<y.ends.length)
theorem SJ (t:Topo)(y:Lnk)(a:Ifc): ∀(l:List LEnd)(w:Bool),lkP t y a w l=if l.any (WQ t y)=true then 15 else if (w||l.any fun x=>xD a (bM t x))=true then 14 else 0
 | [],w=>by simp[lkP]
 |x::r,w=>by
  rw[lkP,SJ t y a r,AN,AN,WQ]
  by_cases k:(bM t x).kind=2
  ·simp[k,Bool.or_assoc]
  ·by_cases n:2<y.ends.length
   ·simp[k,n]
   ·simp[k,n,Bool.or_assoc]
theorem FE (t:Topo)(y:Lnk)(a:Ifc): ∀l:List LEnd,kO t y a l=if l.any (WQ t y)=true then 15 else qd t a y.ends
 | []=>by simp[kO]
 |x::r=>by
  rw[kO,FE t y a r,AN,WQ]
  by_cases k:(bM t x).kind=2
  ·simp[k]
  ·by_cases n:2<y.ends.length
   ·simp[k,n]
   ·simp[k,n]
theorem FF (t:Topo)(a:Ifc): ∀l:List LEnd,qd t a l=if (l.any fun x=>xD a (bM t x))=true then 14 else 0
 | []=>by simp[qd]
 |x::r=>by
  rw[qd,FF t a r,AN];generalize bM t x=b;rw[xD]
  by_cases c1:b.kind=a.kind
  ·by_cases c2:b.pfx.addr=a.pfx.addr
   ·by_cases c3:b.pfx.len=a.pfx.len
    ·by_cases c4:b.area=a.area
     ·by_cases c5:b.hello=a.hello
      ·by_cases c6:b.dead=a.dead
       ·simp[c1,c2,c3,c4,c5,c6]
       ·have c6': ¬a.dead=b.dead:=fun h=>c6 h.symm
        simp[c1,c2,c3,c4,c5,c6,c6']
      ·have c5': ¬a.hello=b.hello:=fun h=>c5 h.symm
       simp[c1,c2,c3,c4,c5,c5']
     ·have c4': ¬a.area=b.area:=fun h=>c4 h.symm
      simp[c1,c2,c3,c4,c4']
    ·have c3': ¬a.pfx.len=b.pfx.len:=fun h=>c3 h.symm
     simp[c1,c2,c3,c3']
   ·have c2': ¬a.pfx.addr=b.pfx.addr:=fun h=>c2 h.symm
    simp[c1,c2,c2']
  ·have c1': ¬a.kind=b.kind:=fun h=>c1 h.symm
   simp[c1,c1']
theorem Ym (t:Topo)(y:Lnk)(a:Ifc):lkP t y a false y.ends=kO t y a y.ends:=by
 rw[SJ,FE,FF,BS]
end Go.AM.IR
namespace Go.AM.IR
def MapOf (es:List (AV×AV))(P:LEnd→Prop):Prop:= ∀x:LEnd,isT (cu true [.int,.int] (.bool false) (dG x.router x.ifc) es)=true↔P x
theorem MapOf.put {es:List (AV×AV)}{P:LEnd→Prop}(hE:iG es)(h:MapOf es P)(x:LEnd):MapOf (dm true [.int,.int] (dG x.router x.ifc) (.bool true) es) (fun z=>P z∨z=x):=fun z=>by
 rw[l8 fp z.router z.ifc x.router x.ifc es hE]
 by_cases w:z.router=x.router∧z.ifc=x.ifc
 ·rw[Ad w]
  have e:z=x:=by cases z;cases x;simp_all
  exact ⟨fun _=>Or.inr e,fun _=>rfl⟩
 ·rw[Ac w,h z]
  constructor
  ·exact Or.inl
  ·rintro (k|k)
   ·exact k
   ·exact absurd (by rw[k];exact ⟨rfl,rfl⟩) w
theorem MapOf.congr {es:List (AV×AV)}{P Q:LEnd→Prop}(h:MapOf es P)(k: ∀x,P x↔Q x):MapOf es Q:=fun x=>(h x).trans (k x)
theorem Iq (t:Topo)(prev:List Lnk): ∀(l d:List LEnd)(es:List (AV×AV))(hE:iG es)(hM:MapOf es fun x=>(∃y∈prev,x∈y.ends)∨x∈d),(ceM t es d l).1=iB t prev d l∧(iB t prev d l=0→MapOf (ceM t es d l).2 fun x=>(∃y∈prev,x∈y.ends)∨x∈d++l)
 | [],d,es,hE,hM=>by
  refine ⟨rfl,fun _=>?_⟩
  rw[Bs];exact hM
 |x::r,d,es,hE,hM=>by
  rw[ceM,iB]
  by_cases o:dc t x=none
  ·rw[Ad (by rw[o];rfl),Ad o]
   exact ⟨rfl,fun h=>absurd h (by decide)⟩
  rw[Ac (by cases h:dc t x<;>simp_all),Ac o]
  by_cases m:isT (cu true [.int,.int] (.bool false) (dG x.router x.ifc) es)=true
  ·rw[Ad m]
   rcases (hM x).1 m with k|k
   ·rw[Ad k];exact ⟨rfl,fun h=>absurd h (by decide)⟩
   ·by_cases k2: ∃y∈prev,x∈y.ends
    ·rw[Ad k2];exact ⟨rfl,fun h=>absurd h (by decide)⟩
    ·rw[Ac k2,Ad k];exact ⟨rfl,fun h=>absurd h (by decide)⟩
  rw[Ac m,Ac (fun k=>m ((hM x).2 (Or.inl k))),Ac (fun k=>m ((hM x).2 (Or.inr k)))]
  by_cases q: ∃y∈d,y.router=x.router
  ·rw[Ad q,Ad (by simpa using q)]
   exact ⟨rfl,fun h=>absurd h (by decide)⟩
  rw[Ac q,Ac (by simpa using q)]
  have ih:=Iq t prev r (d++[x]) _ (kj fp x.router x.ifc es hE) ((hM.put hE x).congr fun z=>by simp[or_assoc])
  rw[AF] at ih;exact ih
end Go.AM.IR
namespace Go.AM.IR
theorem Yl (t:Topo)(i:Nat)(y:Lnk)(es:List (AV×AV))(hE:iG es)(hM:MapOf es fun x=> ∃z∈t.links.take i,x∈z.ends):(lkR t es y).1=jB t i y∧(jB t i y=0→MapOf (lkR t es y).2 fun x=>(∃z∈t.links.take i,x∈z.ends)∨x∈y.ends):=by
 have h:=Iq t (t.links.take i) y.ends [] es hE (hM.congr fun x=>by simp)
 rw[lkR,jB]
 by_cases a1:y.ends.length<2
 ·rw[Ad a1,Ad a1];exact ⟨rfl,fun h=>absurd h (by decide)⟩
 rw[Ac a1,Ac a1]
 by_cases a2:y.delay<1
 ·rw[Ad a2,Ad a2];exact ⟨rfl,fun h=>absurd h (by decide)⟩
 rw[Ac a2,Ac a2]
 by_cases a3:60<y.delay
 ·rw[Ad a3,Ad a3];exact ⟨rfl,fun h=>absurd h (by decide)⟩
 rw[Ac a3,Ac a3];obtain ⟨h1,h2⟩:=h;rw[h1]
 by_cases e:iB t (t.links.take i) [] y.ends=0
 ·rw[Ad e,Ac (fun k=>k e)]
  refine ⟨?_,fun _=>h2 e⟩
  show (match y.ends with| []=>(0:Int)|x::_=>lkP t y (bM t x) false y.ends)=_
  cases hy:y.ends with
  |nil=>rfl
  |cons x r=>
   show lkP t y (bM t x) false (x::r)=kO t y (bM t x) (x::r)
   rw[←hy];exact Ym t y (bM t x)
 ·rw[Ac e,Ad e]
  exact ⟨h1,fun k=>absurd k e⟩
theorem FC (t:Topo): ∀(r d:List Lnk)(es:List (AV×AV))(hE:iG es)(hB:EBool es)(e:t.links=d++r)(hM:MapOf es fun x=> ∃z∈t.links.take d.length,x∈z.ends),tD t es r=nk t d.length r
 | [],d,es,hE,hB,e,hM=>rfl
 |y::r,d,es,hE,hB,e,hM=>by
  have h:=Yl t d.length y es hE hM;have ok:=Yk t y es hE hB;rw[tD,nk,h.1]
  by_cases k:jB t d.length y=0
  ·rw[Ad k,Ad k]
   have ih:=FC t r (d++[y]) _ ok.1 ok.2 (by simp[e]) ((h.2 k).congr fun x=>by
    rw[show t.links.take (d++[y]).length=d++[y] from by rw[e,show d++y::r=(d++[y])++r from by simp];first|exact List.take_left|exact List.take_left _ _|exact List.take_append_length,show t.links.take d.length=d from by rw[e];simp]
    constructor
    ·rintro (⟨z,h1,h2⟩|h1)
     ·exact ⟨z,by simp[h1],h2⟩
     ·exact ⟨y,by simp,h1⟩
    ·rintro ⟨z,h1,h2⟩
     rcases B4.1 h1 with h3|h3
     ·exact Or.inl ⟨z,h3,h2⟩
     ·rw[B5] at h3;exact Or.inr (h3▸h2))
   rw[Ar] at ih;exact ih
  ·rw[Ac k,Ac k]
theorem aaz (t:Topo):OT t=jL t:=
 afv t (FC t t.links [] [] (by intro e h;cases h) (fun u v=>⟨false,rfl⟩) rfl (fun x=>by simp[cu,isT]))
end Go.AM.IR
namespace Go.AM.IR
set_option linter.unusedVariables false
theorem aez {k:Int}(h: ¬wi k 1 3=false):k=1∨k=2∨k=3:=by
 unfold wi at h;have:1≤k∧k≤3:=by simpa using h
 omega
theorem M8 {α:Type}{f:α→Int}: ∀{l:List α},ba f l=0→ ∀x∈l,f x=0
 |x::r,h,y,hy=>by
  rw[ba] at h
  by_cases e:f x=0
  ·rw[Ad e] at h
   rcases AK.1 hy with rfl|hy
   ·exact e
   ·exact M8 h y hy
  ·rw[Ac e] at h;exact absurd h e
theorem abY {x:Ifc}(h:ifE x=0):x.kind=1∨x.kind=2∨x.kind=3:=by
 unfold ifE at h
 by_cases e:wi x.kind 1 3=false
 ·rw[Ad e] at h;cases h
 ·exact aez e
theorem FA {q:LSC}(h:lsE q=0): ∀x∈q.ifs,x.kind=1∨x.kind=2∨x.kind=3:=by
 unfold lsE at h
 by_cases a1:q.router=0
 ·rw[Ad a1] at h;cases h
 rw[Ac a1] at h
 by_cases a2:q.ifs= []
 ·rw[Ad a2] at h;cases h
 rw[Ac a2] at h
 by_cases a3:16<q.ifs.length
 ·rw[Ad a3] at h;cases h
 rw[Ac a3] at h
 by_cases a4:64<q.ranges.length
 ·rw[Ad a4] at h;cases h
 rw[Ac a4] at h
 by_cases a5:ba ifE q.ifs=0
 ·exact fun x hx=>abY (M8 a5 x hx)
 ·rw[Ac a5] at h;exact absurd h a5
theorem abo {c:PVC}{p:PeerC}(h:pkE c p=0):p.kind=1∨p.kind=2∨p.kind=3:=by
 unfold pkE at h
 by_cases a1:p.kind<1
 ·rw[Ad a1] at h;cases h
 rw[Ac a1] at h
 by_cases a2:3<p.kind
 ·rw[Ad a2] at h;cases h
 omega
theorem yL {q:PVC}: ∀{l d:List PeerC},ry q d l=0→ ∀p∈l,p.kind=1∨p.kind=2∨p.kind=3
 |x::r,d,h,p,hp=>by
  rw[ry] at h
  by_cases e:peE q d x=0
  ·rw[Ad e] at h
   rcases AK.1 hp with rfl|hp
   ·unfold peE at e
    by_cases k:pkE q p=0
    ·exact abo k
    ·rw[Ac k] at e;exact absurd e k
   ·exact yL h p hp
  ·rw[Ac e] at h;exact absurd h e
theorem ahY {c:Prop}[Decidable c]{a b:Int}(h:(if c then a else b)=0)(ha:a≠0):b=0:=by
 by_cases k:c
 ·rw[Ad k] at h;exact absurd h ha
 ·rwa [Ac k] at h
theorem SE {q:PVC}: ∀{l d:List Pfx},oM q d l=0→t2E q=0
 | [],d,h=>by rwa [oM] at h
 |x::r,d,h=>by
  rw[oM] at h
  by_cases a1:aW x=false
  ·rw[Ad a1] at h;cases h
  rw[Ac a1] at h;exact SE (ahY h (by decide))
theorem aa6 {q:PVC}(h:t3E q=0): ∀p∈q.peers,p.kind=1∨p.kind=2∨p.kind=3:=by
 unfold t3E at h
 by_cases a1:q.multi<0
 ·rw[Ad a1] at h;cases h
 rw[Ac a1] at h
 by_cases a2:16<q.multi
 ·rw[Ad a2] at h;cases h
 rw[Ac a2] at h;exact yL h
theorem ahH {q:PVC}(h:t2E q=0):t3E q=0:=by
 unfold t2E at h
 by_cases a1:q.damp.half=0∧q.damp.reuse=0∧q.damp.suppress=0∧q.damp.maxTime=0
 ·rwa [Ad a1] at h
 rw[Ac a1] at h
 by_cases a2:fd q.damp=0
 ·rwa [Ad a2] at h
 ·rw[Ac a2] at h;exact absurd h a2
theorem abh {q:PVC}(h:pvE q=0):ca q.pols=0∧ ∀p∈q.peers,p.kind=1∨p.kind=2∨p.kind=3:=by
 unfold pvE at h
 by_cases a1:q.asn<1
 ·rw[Ad a1] at h;cases h
 rw[Ac a1] at h
 by_cases a2:4294967295<q.asn
 ·rw[Ad a2] at h;cases h
 rw[Ac a2] at h
 by_cases a3:q.confed<0
 ·rw[Ad a3] at h;cases h
 rw[Ac a3] at h
 by_cases a4:4294967295<q.confed
 ·rw[Ad a4] at h;cases h
 rw[Ac a4] at h
 by_cases a5:q.confed=q.asn
 ·rw[Ad a5] at h;cases h
 rw[Ac a5] at h
 by_cases a6:q.router=0
 ·rw[Ad a6] at h;cases h
 rw[Ac a6] at h
 by_cases a7:16<q.peers.length
 ·rw[Ad a7] at h;cases h
 rw[Ac a7] at h
 by_cases a8:2000<q.nets.length
 ·rw[Ad a8] at h;cases h
 rw[Ac a8] at h;unfold t1E at h
 by_cases a9:ca q.pols=0
 ·rw[Ad a9] at h
  exact ⟨a9,aa6 (ahH (SE h))⟩
 ·rw[Ac a9] at h;exact absurd h a9
structure RConf.vt (q:RConf):Prop where
 ik: ∀x∈q.ls.ifs,x.kind=1∨x.kind=2∨x.kind=3
 pk:q.hasPV=true→ ∀p∈q.pv.peers,p.kind=1∨p.kind=2∨p.kind=3
 ch:ca q.pv.pols=0
theorem afQ {t:Topo}{d:List RConf}{q:RConf}(h:rtE t d q=0):q.vt:=by
 unfold rtE at h
 by_cases a1:tw q.name=false
 ·rw[Ad a1] at h;cases h
 rw[Ac a1] at h
 by_cases a2:fx t.routers q.name 0<(d.length:Int)
 ·rw[Ad a2] at h;cases h
 rw[Ac a2] at h
 by_cases a3:lsE q.ls=0
 ·rw[Ad a3] at h
  by_cases a4:d.any (fun y=>decide (y.ls.router=q.ls.router))=true
  ·rw[Ad a4] at h;cases h
  rw[Ac a4] at h;unfold tz at h
  by_cases a5:q.hasPV=false
  ·rw[Ad a5] at h
   by_cases a6:ca q.pv.pols=0
   ·exact ⟨FA a3,fun k=>absurd k (by rw[a5];decide),a6⟩
   ·rw[Ac a6] at h;cases h
  ·rw[Ac a5] at h
   by_cases a6:pvE q.pv=0
   ·have:=abh a6
    exact ⟨FA a3,fun _=>this.2,this.1⟩
   ·rw[Ac a6] at h;exact absurd h a6
 ·rw[Ac a3] at h;exact absurd h a3
theorem Sj {t:Topo}: ∀{l d:List RConf},ou t d l=0→(∀q∈l,q.vt)∧nk t 0 t.links=0
 | [],d,h=>by
  rw[ou] at h
  by_cases a:jt [] (bI t.routers)=true
  ·rw[Ad a] at h;cases h
  rw[Ac a] at h;exact ⟨fun q hq=>by simp at hq,h⟩
 |x::r,d,h=>by
  rw[ou] at h
  by_cases a:rtE t d x=0
  ·rw[Ad a] at h
   have ih:=Sj h;refine ⟨fun q hq=>?_,ih.2⟩
   rcases AK.1 hq with rfl|hq
   ·exact afQ a
   ·exact ih.1 q hq
  ·rw[Ac a] at h;exact absurd h a
theorem abX {t:Topo}{e:LEnd}(h: ¬dc t e=none):0≤e.router∧ ∃r,t.routers[e.router.toNat]? =some r:=by
 unfold dc at h
 by_cases a:e.router<0
 ·rw[Ad a] at h;exact absurd rfl h
 rw[Ac a] at h;refine ⟨by omega,?_⟩
 cases hr:t.routers[e.router.toNat]? with
 |none=>rw[hr] at h;exact absurd rfl h
 |some r=>exact ⟨r,rfl⟩
theorem SX {t:Topo}{prev:List Lnk}: ∀{l d:List LEnd},iB t prev d l=0→ ∀e∈l,0≤e.router∧ ∃r,t.routers[e.router.toNat]? =some r
 |x::r,d,h,e,he=>by
  rw[iB] at h
  by_cases a1:dc t x=none
  ·rw[Ad a1] at h;cases h
  rw[Ac a1] at h
  by_cases a2: ∃y∈prev,x∈y.ends
  ·rw[Ad a2] at h;cases h
  rw[Ac a2] at h
  by_cases a3:x∈d
  ·rw[Ad a3] at h;cases h
  rw[Ac a3] at h
  by_cases a4: ∃y∈d,y.router=x.router
  ·rw[Ad a4] at h;cases h
  rw[Ac a4] at h;rcases AK.1 he with rfl|he
  ·exact abX a1
  ·exact SX h e he
theorem ae7 {t:Topo}{i:Nat}{y:Lnk}(h:jB t i y=0): ∀e∈y.ends,0≤e.router∧ ∃r,t.routers[e.router.toNat]? =some r:=by
 unfold jB at h
 by_cases a1:y.ends.length<2
 ·rw[Ad a1] at h;cases h
 rw[Ac a1] at h
 by_cases a2:y.delay<1
 ·rw[Ad a2] at h;cases h
 rw[Ac a2] at h
 by_cases a3:60<y.delay
 ·rw[Ad a3] at h;cases h
 rw[Ac a3] at h
 by_cases a4:iB t (t.links.take i) [] y.ends≠0
 ·rw[Ad a4] at h;exact absurd h a4
 ·exact SX (AD.1 a4)
theorem Yj {t:Topo}: ∀{l:List Lnk}{i:Nat},nk t i l=0→ ∀y∈l,∀e∈y.ends,0≤e.router∧ ∃r,t.routers[e.router.toNat]? =some r
 |x::r,i,h,y,hy=>by
  rw[nk] at h
  by_cases a:jB t i x=0
  ·rw[Ad a] at h
   rcases AK.1 hy with rfl|hy
   ·exact ae7 a
   ·exact Yj h y hy
  ·rw[Ac a] at h;exact absurd h a
theorem afu {t:Topo}(h:jL t=0):(∀q∈t.routers,q.vt)∧ ∀y∈t.links,∀e∈y.ends,0≤e.router∧ ∃r,t.routers[e.router.toNat]? =some r:=by
 unfold jL at h
 by_cases a1:32<t.routers.length
 ·rw[Ad a1] at h;cases h
 rw[Ac a1] at h
 by_cases a2:64<t.links.length
 ·rw[Ad a2] at h;cases h
 rw[Ac a2] at h;have:=Sj h;exact ⟨this.1,Yj this.2⟩
end Go.AM.IR
namespace Go.AM.IR
theorem AW (x:Pfx):1≤bkL x.enc:=by simp only[Pfx.enc,bkL,AV.bk];omega
theorem sr (x:Ifc):1≤bkL x.enc:=by simp only[Ifc.enc,bkL,AV.bk];omega
theorem sN (x:ARange):1≤bkL x.enc:=by simp only[ARange.enc,bkL,AV.bk];omega
theorem vY (x:Stat):1≤bkL x.enc:=by simp only[Stat.enc,bkL,AV.bk];omega
theorem qH (x:LEnd):1≤bkL x.enc:=by simp only[LEnd.enc,bkL,AV.bk];omega
theorem xH (x:Int):1≤bkL (bT x):=by simp only[bT,bkL,AV.bk];omega
theorem tW (s:PSet)(h:bkL s.enc≤1048576)(ok:s.ok):s.good:=by
 have l1:=bB (enc:=PList.enc) (fun x=>by have:=xM x;omega) s.prefixes
 have l2:=bB (enc:=PathL.enc) (fun x=>by have:=xL x;omega) s.paths
 have l3:=bB (enc:=ComL.enc) (fun x=>by have:=DY x;omega) s.comms
 have l4:=bB (enc:=Pol.enc) (fun x=>by have:=aaD x;omega) s.pols
 simp only[PSet.enc,bkL,AV.bk] at h;obtain ⟨o1,o2,o3,o4⟩:=ok;refine ⟨by omega,by omega,by omega,by omega,fun x hx=>?_,fun x hx=>?_,fun x hx=>?_,fun x hx=>?_⟩
 ·have m:=ef (enc:=PList.enc) hx
  have n:=bB OZ x.rules;simp only[PList.enc,bkL,AV.bk] at m;exact ⟨by omega,by omega,o1 x hx⟩
 ·have m:=ef (enc:=PathL.enc) hx
  have n:=bB O9 x.rules;simp only[PathL.enc,bkL,AV.bk] at m;refine ⟨by omega,by omega,fun r hr=>?_⟩
  have k:=ef (enc:=PathR.enc) hr;simp only[PathR.enc,bkL,AV.bk] at k;omega
 ·have m:=ef (enc:=ComL.enc) hx
  have n:=bB Tf x.rules;simp only[ComL.enc,bkL,AV.bk] at m;exact ⟨by omega,by omega,trivial⟩
 ·have m:=ef (enc:=Pol.enc) hx
  have n:=bB (enc:=Trm.enc) (fun x=>by have:=OY x;omega) x.terms
  simp only[Pol.enc,bkL,AV.bk] at m;refine ⟨by omega,by omega,fun t ht=>?_⟩
  have k:=ef (enc:=Trm.enc) ht;have n1:=bB (enc:=Mat.enc) (fun x=>by have:=Pb x;omega) t.mats
  have n2:=bB (enc:=Actn.enc) (fun x=>by have:=DZ x;omega) t.acts
  simp only[Trm.enc,bkL,AV.bk] at k;exact ⟨by omega,by omega,by omega,fun m hm=>(((o4 x hx).1 t ht).1 m hm).2.2⟩
theorem ME (s:PSet):s.prefixes.length+s.paths.length+s.comms.length+s.pols.length≤bkL s.enc:=by
 have h3:=DX s;unfold iY at h3;omega
end Go.AM.IR
namespace Go.AM.IR
set_option linter.unusedVariables false
theorem KZ (q:PVC):bkL q.pols.enc≤bkL q.enc:=by
 simp only[PVC.enc,PSet.enc,bkL,AV.bk];omega
theorem ab3 (q:PVC)(h:bkL q.enc≤1048576)(ok:q.ok):q.good:=by
 have h1:=KZ q;have l1:=bB xK q.peers;have l2:=bB AW q.nets;obtain ⟨_,_,_,_,_,o6,o7,_⟩:=ok;have g:=tW q.pols (by omega) o7
 simp only[PVC.enc,bkL,AV.bk] at h;exact ⟨g,by omega,by omega,o6⟩
theorem KC (q:RConf):bkL q.pv.enc≤bkL q.enc:=by
 simp only[RConf.enc,PVC.enc,bkL,AV.bk];omega
theorem U9 (q:RConf)(h:bkL q.enc≤1048576)(ok:q.ok):q.good:=by
 have h1:=KC q;have l1:=bB sr q.ls.ifs;have l2:=bB sN q.ls.ranges;have l3:=bB O8 q.redist;have l4:=bB vY q.stat;have l5:=bB xH q.dists;obtain ⟨⟨_,o1,o2⟩,o3,_,o5,_⟩:=ok;have g:=ab3 q.pv (by omega) o3
 simp only[RConf.enc,bkL,AV.bk] at h;exact ⟨g,by omega,by omega,by omega,o1,fun x hx=>(o2 x hx).2,by omega,by omega,o5,by omega⟩
theorem Py: ∀l:List RConf,(bI l).length≤bC (l.map RConf.enc)
 | []=>by simp[bI]
 |c::r=>by
  have h1:=Py r;have h2:=bB sr c.ls.ifs;have h3:bC (c.ls.ifs.map Ifc.enc)≤bkL c.enc:=by simp only[RConf.enc,bkL,AV.bk];omega
  rw[bI,Ao,bC,Ar,At];omega
theorem Yu (t:Topo)(h:bkL t.enc≤1048576)(ok:t.ok):t.good:=by
 have l1:=bB (enc:=RConf.enc) (fun x=>by have:=su x;omega) t.routers
 have l2:=bB Pc t.links;have l3:=Py t.routers;simp only[Topo.enc,bkL,AV.bk] at h;refine ⟨by omega,by omega,fun y hy=>?_,by omega,fun x hx=>?_⟩
 ·have m:=ef (enc:=Lnk.enc) hy
  have n:=bB qH y.ends;simp only[Lnk.enc,bkL,AV.bk] at m;omega
 ·have m:=ef (enc:=RConf.enc) hx
  exact U9 x (by omega) (ok.1 x hx)
theorem abP (t:Topo)(h:bkL t.enc≤1048576): ∀q∈t.routers,q.lim:=by
 intro q hq;have m:=ef (enc:=RConf.enc) hq;have m0:bC (t.routers.map RConf.enc)≤bkL t.enc:=by simp only[Topo.enc,bkL,AV.bk];omega
 have h1:=KC q;have h2:=KZ q.pv;have h3:=DX q.pv.pols;have hl:q.pv.pols.prefixes.length+q.pv.pols.paths.length+q.pv.pols.comms.length+q.pv.pols.pols.length≤iY q.pv.pols:=by unfold iY;omega
 exact ⟨by omega,by omega,by omega,by omega⟩
end Go.AM.IR
