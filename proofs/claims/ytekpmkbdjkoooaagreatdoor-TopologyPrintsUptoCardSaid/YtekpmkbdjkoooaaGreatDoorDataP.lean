/- What the functions of this program give, on the abstract machine. -/
import Derived.Test.YtekpmkbdjkoooaaGreatDoorDataO
import Derived.Test.YtekpmkbdjkoooaaGreatDoorDataN
import Derived.Test.YtekpmkbdjkoooaaGreatDoorDataB
set_option linter.unusedVariables false
set_option linter.unusedSimpArgs false
set_option maxHeartbeats 4000000
set_option maxRecDepth 20000
namespace Go.AM.IR
def e8:List UInt8:=[114,111,117,116,101,114]
def cZ:List UInt8:=[105,102,97,99,101]
def sR:List UInt8:=[114,97,110,103,101]
def qM:List UInt8:=[115,116,97,116,105,99]
def qN:List UInt8:=[114,101,100,105,115,116,114,105,98,117,116,101]
def je:List UInt8:=[115,112,101,97,107,101,114]
def jf:List UInt8:=[100,97,109,112,105,110,103]
def iv:List UInt8:=[112,101,101,114]
def om:List UInt8:=[110,101,116,119,111,114,107]
def ij:List UInt8:=[108,97,98,101,108,115]
def gj:List UInt8:=[114,101,114,111,117,116,101]
def mw:List UInt8:=[100,105,115,116,97,110,99,101,115]
def nz:List UInt8:=[112,111,108,105,99,105,101,115]
def jU:List UInt8:=[108,105,110,107]
def wYes:List UInt8:=[121,101,115]
def wNo:List UInt8:=[110,111]
def Tu:List UInt8:=[46]
def mI:List UInt8:=[112,111,105,110,116]
def sV:List UInt8:=[108,97,110]
def pJ:List UInt8:=[115,116,117,98]
def JY:List UInt8:=[101,120,116,101,114,110,97,108]
def xU:List UInt8:=[99,111,110,102,101,100]
def JX:List UInt8:=[105,110,116,101,114,110,97,108]
def ynT (b:Bool):List UInt8:=bif b then wYes else wNo
def bQ (s:List UInt8):List UInt8:=if s= [] then Tu else s
def ikT (k:Int):List UInt8:=if k=1 then mI else if k=2 then sV else pJ
def pkT (k:Int):List UInt8:=if k=1 then JY else if k=2 then xU else JX
theorem qL (b:Bool):(ynT b).length≤3:=by cases b<;>decide
theorem xC (s:List UInt8):(bQ s).length≤1+s.length:=by
 unfold bQ;split
 ·show 1≤_;omega
 ·omega
theorem ae9 (k:Int):(ikT k).length≤5:=by
 unfold ikT
 repeat' split
 all_goals decide
theorem aeL (k:Int):(pkT k).length≤8:=by
 unfold pkT
 repeat' split
 all_goals decide
theorem jN (b:Bool):ah G 449 [.bool b] [] ⟨.str (ynT b),[]⟩:=by
 cases b
 ·exact gvA (F:=We)
 ·exact gvA (F:=We)
theorem jM (b:Bool):ah G 455 [.bool b] [] ⟨.str (ynT b),[]⟩:=by
 cases b
 ·exact gvA (F:=Wa)
 ·exact gvA (F:=Wa)
theorem pm (s:List UInt8):ah G 450 [.str s] [] ⟨.str (bQ s),[]⟩:=by
 unfold bQ
 by_cases e:s= []
 ·rw[Ad e]
  subst e;exact gvA (F:=Wd)
 ·rw[Ac e]
  have e2:(s== [])=false:=by simpa using e
  refine gvC (F:=Wd) ?_
  repeat' ((conv=>whnf);first|refine wl e ?_|refine au ?_|(refine ae ?_ ?_<;>intro h))
  refine ag ?_;rfl
theorem pj (s:List UInt8):ah G 456 [.str s] [] ⟨.str (bQ s),[]⟩:=by
 unfold bQ
 by_cases e:s= []
 ·rw[Ad e]
  subst e;exact gvA (F:=V8)
 ·rw[Ac e]
  have e2:(s== [])=false:=by simpa using e
  refine gvC (F:=V8) ?_
  repeat' ((conv=>whnf);first|refine wl e ?_|refine au ?_|(refine ae ?_ ?_<;>intro h))
  refine ag ?_;rfl
theorem qU:ah G 448 [] [] ⟨.tup [.agg [.str [],.str [112,111,105,110,116],.str [108,97,110],.str [115,116,117,98]],.agg [.str [],.str [101,120,116,101,114,110,97,108],.str [99,111,110,102,101,100],.str [105,110,116,101,114,110,97,108]]],[]⟩:=qf 100 rfl rfl rfl
def dq (x:Ifc):List UInt8:=bl [cZ,ikT x.kind,pfT x.pfx,bq x.addr.toNat,aa x.area,aa x.cost,aa x.prio,aa x.hello,aa x.dead]
def fC (x:ARange):List UInt8:=bl [sR,aa x.area,pfT x.pfx,ynT x.adv]
def lsT (nm:List UInt8)(q:LSC):List UInt8:=bl [e8,nm,aa q.router]++(ax dq q.ifs++ax fC q.ranges)
theorem pW {a:Int}(h:okU a):0≤a∧a≤4294967295:=by unfold okU at h;omega
theorem mA {a:Int}(h:okU a):okI a:=by unfold okU at h;unfold okI;omega
theorem yz (l:List ARange)(ho: ∀x∈l,x.ok)(tot:List UInt8)(htot:tot.length<2^58)(hl:l.length<2^40)(ln:Int)(hln:ln=l.length): ∀(rest done:List ARange)(a:List UInt8)(T:TV)(H:aw)(c:Nat)(n:Int)(e:l=done++rest)(hn:n=done.length)(ha:a++ax fC rest=tot),Ev G ⟨ZT,⟨(62,.sl 4 (l.map ARange.enc))::(63,.int .i64 ln)::(64,.int .i64 n)::(0,.ref 0 0 0)::T,(0,some (0,.cells [.str a]))::H,c⟩,[],1⟩ ⟨.tup [],[(true,.cells [.str tot])]⟩
 | [],done,a,T,H,c,n,e,hn,ha=>by
  have hd:=md0 e;have hll:=ml l ARange.enc;obtain rfl:a=tot:=by simpa[ax] using ha
  refine evA ?_;refine fX1 ?_;rfl
 |x::r,done,a,T,H,c,n,e,hn,ha=>by
  have hd:=md e;have hll:=ml l ARange.enc;have hx:=mx ARange.enc e hn;have g:=ho x (by simp[e])
  have h1:=bA (mA g.1);have ub:=pW g.1;have h2:ah G 229 [.agg x.pfx.enc] [] ⟨.str (pfT x.pfx),[]⟩:=gH x.pfx g.2;have h3:=jN x.adv;have hlen:a.length+(fC x).length≤tot.length:=by rw[←ha,ax];simp only[Ar];omega
  have ha2:a++fC x++ax fC r=tot:=by rw[←ha,ax];simp only[AF]
  have h4:=bz [sR,aa x.area,pfT x.pfx,ynT x.adv] (by show 4<2^40;omega) a (by rw[Ar,←fC];omega)
  rw[←fC] at h4;generalize fC x=w at*;generalize aa x.area=w1 at*;generalize pfT x.pfx=w2 at*;generalize ynT x.adv=w3 at*;refine evl ?_
  repeat' (first|refine bc ?_|refine kX [(0,_,_)] [(143,_,_)] ⟨rfl,trivial⟩ ⟨rfl,pz trivial⟩ (h4) ?_|(refine ae ?_ ?_<;>intro h))
  refine ab [62,63,64,0] [0] ?_;exact yz l ho tot htot hl ln hln r (done++[x]) (a++w) _ _ _ (n+1) (by simp[e]) (by simp[hn]<;>omega) ha2
theorem abF {a b c d e:Int}(h1:okI a)(h2:okI b)(h3:okI c)(h4:okI d)(h5:okI e): ∀x∈ [a,b,c,d,e],okI x:=by
 intro x hx;simp only[AK,List.not_mem_nil,or_false] at hx;rcases hx with rfl|rfl|rfl|rfl|rfl<;>assumption
theorem nU (l:List Ifc)(ho: ∀x∈l,x.ok∧(x.kind=1∨x.kind=2∨x.kind=3))(q:RConf)(hr: ∀x∈q.ls.ranges,x.ok)(hrl:q.ls.ranges.length<2^40)(g3 g4:Nat)(tot:List UInt8)(htot:(tot++ax fC q.ls.ranges).length<2^58)(hl:l.length<2^40)(ln:Int)(hln:ln=l.length): ∀(rest done:List Ifc)(a:List UInt8)(T:TV)(H:aw)(c:Nat)(n:Int)(e:l=done++rest)(hn:n=done.length)(ha:a++ax dq rest=tot),Ev G ⟨adj,⟨(27,.sl 9 (l.map Ifc.enc))::(28,.int .i64 ln)::(29,.int .i64 n)::(4,.ref 68 g4 0)::(0,.ref 0 0 0)::(3,.ref 67 g3 0)::T,(0,some (0,.cells [.str a]))::(68,some (g4,.cells [.str [],.str [112,111,105,110,116],.str [108,97,110],.str [115,116,117,98]]))::(67,some (g3,.cells q.enc))::H,c⟩,[],1⟩ ⟨.tup [],[(true,.cells [.str (tot++ax fC q.ls.ranges)])]⟩
 | [],done,a,T,H,c,n,e,hn,ha=>by
  have hd:=md0 e;have hll:=ml l Ifc.enc;obtain rfl:a=tot:=by simpa[ax] using ha
  have m1:=ml q.ls.ranges ARange.enc;refine evA ?_;refine ab [62,63,64,0] [0] ?_;rw[m1];exact yz q.ls.ranges hr _ htot hrl _ rfl q.ls.ranges [] a _ _ _ 0 rfl rfl rfl
 |x::r,done,a,T,H,c,n,e,hn,ha=>by
  have hd:=md e;have hll:=ml l Ifc.enc;have hx:=mx Ifc.enc e hn;have g:=(ho x (by simp[e])).1
  obtain ⟨ea,hua⟩:=dI g.2.2.1;have ub:=pW g.2.2.2.1;have h1:ah G 229 [.agg x.pfx.enc] [] ⟨.str (pfT x.pfx),[]⟩:=gH x.pfx g.2.1;have h2:=gQ x.addr.toNat hua;rw[←ea] at h2;have htt:tot.length<2^58:=by rw[Ar] at htot;omega
  have hlen:a.length+(dq x).length≤tot.length:=by rw[←ha,ax];simp only[Ar];omega
  have ha2:a++dq x++ax dq r=tot:=by rw[←ha,ax];simp only[AF]
  have hx2: ∀k,x.kind=k→(l.map Ifc.enc)[n.toNat]? =some [.int .i64 k,.int .u32 x.pfx.addr,.int .i64 x.pfx.len,.int .u32 x.addr,.int .u32 x.area,.int .i64 x.cost,.int .i64 x.prio,.int .i64 x.hello,.int .i64 x.dead]:=fun k hk=>by rw[hx,←hk];rfl
  clear hx;rcases (ho x (by simp[e])).2 with hk|hk|hk
  ·have hi:dq x=bl [cZ,mI,pfT x.pfx,bq x.addr.toNat,aa x.area,aa x.cost,aa x.prio,aa x.hello,aa x.dead]:=by
    unfold dq;rw[hk];rfl
   have h4:=bz [cZ,mI,pfT x.pfx,bq x.addr.toNat,aa x.area,aa x.cost,aa x.prio,aa x.hello,aa x.dead] (by show 9<2^40;omega) a (by rw[Ar,←hi];omega)
   rw[←hi] at h4;have h3:ah G 408 [.vs 0 0 4,.vs 1 0 5] [.vec 1 [[.str cZ],[.str mI],[.str (pfT x.pfx)],[.str (bq x.addr.toNat)]],.vec 1 [[.int .i64 x.area],[.int .i64 x.cost],[.int .i64 x.prio],[.int .i64 x.hello],[.int .i64 x.dead]]] ⟨.vs 0 0 9,[(false,.vec 1 [[.str cZ],[.str mI],[.str (pfT x.pfx)],[.str (bq x.addr.toNat)],[.str (aa x.area)],[.str (aa x.cost)],[.str (aa x.prio)],[.str (aa x.hello)],[.str (aa x.dead)]]),(true,.vec 1 [[.int .i64 x.area],[.int .i64 x.cost],[.int .i64 x.prio],[.int .i64 x.hello],[.int .i64 x.dead]])]⟩:=gr [x.area,x.cost,x.prio,x.hello,x.dead] (abF (mA g.2.2.2.1) g.2.2.2.2.1 g.2.2.2.2.2.1 g.2.2.2.2.2.2.1 g.2.2.2.2.2.2.2) (by show 5<2^20;omega) (by simp) [cZ,mI,pfT x.pfx,bq x.addr.toNat] (by show 4<2^20;omega)
   have hx:=hx2 1 hk;generalize dq x=w at*;generalize aa x.area=w1 at*;generalize aa x.cost=w2 at*;generalize aa x.prio=w3 at*;generalize aa x.hello=w4 at*;generalize aa x.dead=w5 at*;generalize pfT x.pfx=w6 at*;generalize bq x.addr.toNat=w7 at*;refine evl ?_
   repeat' (first|refine bc ?_|refine kX [(108,_,_),(120,_,_)] [] ⟨rfl,rfl,trivial⟩ trivial (h3) ?_|refine kX [(0,_,_)] [(108,_,_)] ⟨rfl,trivial⟩ ⟨rfl,pz trivial⟩ (h4) ?_|(refine ae ?_ ?_<;>intro h))
   refine ab [27,28,29,4,0,3] [0,68,67] ?_;exact nU l ho q hr hrl g3 g4 tot htot hl ln hln r (done++[x]) (a++w) _ _ _ (n+1) (by simp[e]) (by simp[hn]<;>omega) ha2
  ·have hi:dq x=bl [cZ,sV,pfT x.pfx,bq x.addr.toNat,aa x.area,aa x.cost,aa x.prio,aa x.hello,aa x.dead]:=by
    unfold dq;rw[hk];rfl
   have h4:=bz [cZ,sV,pfT x.pfx,bq x.addr.toNat,aa x.area,aa x.cost,aa x.prio,aa x.hello,aa x.dead] (by show 9<2^40;omega) a (by rw[Ar,←hi];omega)
   rw[←hi] at h4;have h3:ah G 408 [.vs 0 0 4,.vs 1 0 5] [.vec 1 [[.str cZ],[.str sV],[.str (pfT x.pfx)],[.str (bq x.addr.toNat)]],.vec 1 [[.int .i64 x.area],[.int .i64 x.cost],[.int .i64 x.prio],[.int .i64 x.hello],[.int .i64 x.dead]]] ⟨.vs 0 0 9,[(false,.vec 1 [[.str cZ],[.str sV],[.str (pfT x.pfx)],[.str (bq x.addr.toNat)],[.str (aa x.area)],[.str (aa x.cost)],[.str (aa x.prio)],[.str (aa x.hello)],[.str (aa x.dead)]]),(true,.vec 1 [[.int .i64 x.area],[.int .i64 x.cost],[.int .i64 x.prio],[.int .i64 x.hello],[.int .i64 x.dead]])]⟩:=gr [x.area,x.cost,x.prio,x.hello,x.dead] (abF (mA g.2.2.2.1) g.2.2.2.2.1 g.2.2.2.2.2.1 g.2.2.2.2.2.2.1 g.2.2.2.2.2.2.2) (by show 5<2^20;omega) (by simp) [cZ,sV,pfT x.pfx,bq x.addr.toNat] (by show 4<2^20;omega)
   have hx:=hx2 2 hk;generalize dq x=w at*;generalize aa x.area=w1 at*;generalize aa x.cost=w2 at*;generalize aa x.prio=w3 at*;generalize aa x.hello=w4 at*;generalize aa x.dead=w5 at*;generalize pfT x.pfx=w6 at*;generalize bq x.addr.toNat=w7 at*;refine evl ?_
   repeat' (first|refine bc ?_|refine kX [(108,_,_),(120,_,_)] [] ⟨rfl,rfl,trivial⟩ trivial (h3) ?_|refine kX [(0,_,_)] [(108,_,_)] ⟨rfl,trivial⟩ ⟨rfl,pz trivial⟩ (h4) ?_|(refine ae ?_ ?_<;>intro h))
   refine ab [27,28,29,4,0,3] [0,68,67] ?_;exact nU l ho q hr hrl g3 g4 tot htot hl ln hln r (done++[x]) (a++w) _ _ _ (n+1) (by simp[e]) (by simp[hn]<;>omega) ha2
  ·have hi:dq x=bl [cZ,pJ,pfT x.pfx,bq x.addr.toNat,aa x.area,aa x.cost,aa x.prio,aa x.hello,aa x.dead]:=by
    unfold dq;rw[hk];rfl
   have h4:=bz [cZ,pJ,pfT x.pfx,bq x.addr.toNat,aa x.area,aa x.cost,aa x.prio,aa x.hello,aa x.dead] (by show 9<2^40;omega) a (by rw[Ar,←hi];omega)
   rw[←hi] at h4;have h3:ah G 408 [.vs 0 0 4,.vs 1 0 5] [.vec 1 [[.str cZ],[.str pJ],[.str (pfT x.pfx)],[.str (bq x.addr.toNat)]],.vec 1 [[.int .i64 x.area],[.int .i64 x.cost],[.int .i64 x.prio],[.int .i64 x.hello],[.int .i64 x.dead]]] ⟨.vs 0 0 9,[(false,.vec 1 [[.str cZ],[.str pJ],[.str (pfT x.pfx)],[.str (bq x.addr.toNat)],[.str (aa x.area)],[.str (aa x.cost)],[.str (aa x.prio)],[.str (aa x.hello)],[.str (aa x.dead)]]),(true,.vec 1 [[.int .i64 x.area],[.int .i64 x.cost],[.int .i64 x.prio],[.int .i64 x.hello],[.int .i64 x.dead]])]⟩:=gr [x.area,x.cost,x.prio,x.hello,x.dead] (abF (mA g.2.2.2.1) g.2.2.2.2.1 g.2.2.2.2.2.1 g.2.2.2.2.2.2.1 g.2.2.2.2.2.2.2) (by show 5<2^20;omega) (by simp) [cZ,pJ,pfT x.pfx,bq x.addr.toNat] (by show 4<2^20;omega)
   have hx:=hx2 3 hk;generalize dq x=w at*;generalize aa x.area=w1 at*;generalize aa x.cost=w2 at*;generalize aa x.prio=w3 at*;generalize aa x.hello=w4 at*;generalize aa x.dead=w5 at*;generalize pfT x.pfx=w6 at*;generalize bq x.addr.toNat=w7 at*;refine evl ?_
   repeat' (first|refine bc ?_|refine kX [(108,_,_),(120,_,_)] [] ⟨rfl,rfl,trivial⟩ trivial (h3) ?_|refine kX [(0,_,_)] [(108,_,_)] ⟨rfl,trivial⟩ ⟨rfl,pz trivial⟩ (h4) ?_|(refine ae ?_ ?_<;>intro h))
   refine ab [27,28,29,4,0,3] [0,68,67] ?_;exact nU l ho q hr hrl g3 g4 tot htot hl ln hln r (done++[x]) (a++w) _ _ _ (n+1) (by simp[e]) (by simp[hn]<;>omega) ha2
end Go.AM.IR
namespace Go.AM.IR
theorem aem {a:Int}(h1:okI a): ∀x∈ [a],okI x:=by
 intro x hx;simp only[AK,List.not_mem_nil,or_false] at hx;subst hx;assumption
theorem ael {a b c d:Int}(h1:okI a)(h2:okI b)(h3:okI c)(h4:okI d): ∀x∈ [a,b,c,d],okI x:=by
 intro x hx;simp only[AK,List.not_mem_nil,or_false] at hx;rcases hx with rfl|rfl|rfl|rfl<;>assumption
structure LSC.pt (q:LSC):Prop where
 rt:okU q.router
 is: ∀x∈q.ifs,x.ok∧(x.kind=1∨x.kind=2∨x.kind=3)
 il:q.ifs.length<2^40
 rs: ∀x∈q.ranges,x.ok
 rl:q.ranges.length<2^40
theorem QV (q:RConf)(g:q.ls.pt)(a:List UInt8)(h:(a++lsT q.name q.ls).length<2^57):ah G 402 [.ref 0 0 0,.agg q.enc] [.cells [.str a]] ⟨.tup [],[(true,.cells [.str (a++lsT q.name q.ls)])]⟩:=by
 have hk:=qU;have ub:=pW g.rt;have m1:=ml q.ls.ifs Ifc.enc;have hn:ah G 408 [.vs 0 0 2,.vs 1 0 1] [.vec 1 [[.str e8],[.str q.name]],.vec 1 [[.int .i64 q.ls.router]]] ⟨.vs 0 0 3,[(false,.vec 1 [[.str e8],[.str q.name],[.str (aa q.ls.router)]]),(true,.vec 1 [[.int .i64 q.ls.router]])]⟩:=gr [q.ls.router] (aem (mA g.rt)) (by show 1<2^20;omega) (by simp) [e8,q.name] (by show 2<2^20;omega)
 have hlen:(bl [e8,q.name,aa q.ls.router]).length+((ax dq q.ls.ifs).length+(ax fC q.ls.ranges).length)=(lsT q.name q.ls).length:=by unfold lsT;simp only[Ar]
 rw[Ar] at h;have h4:=bz [e8,q.name,aa q.ls.router] (by show 3<2^40;omega) a (by rw[Ar];omega)
 have e:a++lsT q.name q.ls=a++bl [e8,q.name,aa q.ls.router]++ax dq q.ls.ifs++ax fC q.ls.ranges:=by rw[lsT];simp only[AF]
 rw[e];generalize aa q.ls.router=w1 at*;generalize bl [e8,q.name,w1]=w at*;refine gvC (F:=NQ) ?_
 repeat' (first|refine bc ?_|refine kX [(81,_,_),(86,_,_)] [] ⟨rfl,rfl,trivial⟩ trivial (hn) ?_|refine kX [(0,_,_)] [(81,_,_)] ⟨rfl,trivial⟩ ⟨rfl,pz trivial⟩ (h4) ?_|(refine ae ?_ ?_<;>intro h))
 refine ab [27,28,29,4,0,3] [0,68,67] ?_;rw[m1];exact nU q.ls.ifs g.is q g.rs g.rl _ _ (a++w++ax dq q.ls.ifs) (by simp only[Ar];omega) g.il _ rfl q.ls.ifs [] _ _ _ _ 0 rfl rfl rfl
theorem y8 (l:List Int)(ho: ∀x∈l,okI x)(tot:List (List UInt8))(htot:tot.length<2^30)(hl:l.length<2^40)(ln:Int)(hln:ln=l.length): ∀(rest done:List Int)(a:List (List UInt8))(b:Nat)(T:TV)(H:aw)(c:Nat)(n:Int)(e:l=done++rest)(hn:n=done.length)(hb:b≠0)(ha:a++rest.map aa=tot),Ev G ⟨se,⟨(7,.sl 1 (l.map bT))::(8,.int .i64 ln)::(9,.int .i64 n)::(0,.vs 0 b a.length)::T,(0,some (b,.vec 1 (a.map aX)))::H,c⟩,[.t 4],1⟩ ⟨.vs 0 0 tot.length,[(false,.vec 1 (tot.map aX))]⟩
 | [],done,a,b,T,H,c,n,e,hn,hb,ha=>by
  have hd:=md0 e;have hll:=ml l bT;obtain rfl:a=tot:=by simpa using ha
  have m1:=ml a aX;refine evA ?_
  (conv=>whnf);first|refine nV [(0,_,_)] [] [false] ?_|refine nW [(0,_,_)] [] [false] ?_
  rfl
 |x::r,done,a,b,T,H,c,n,e,hn,hb,ha=>by
  have hd:=md e;have hll:=ml l bT;have hx:=mx bT e hn;have m1:=ml a aX;have h1:=bA (ho x (by simp[e]))
  have hlen:a.length+1+r.length=tot.length:=by rw[←ha];simp;omega
  have hz:a.length<2^30:=by omega
  have e1:(a++[aa x]).map aX=a.map aX++[[.str (aa x)]]:=by simp[aX]
  have e2:(a++[aa x]).length=a.length+1:=by simp
  have ih:=fun T H c b hb=>y8 l ho tot htot hl ln hln r (done++[x]) (a++[aa x]) b T H c (n+1) (by simp[e]) (by simp[hn]<;>omega) hb (by rw[←ha];simp)
  rw[e1,e2] at ih;generalize aa x=w at*;refine evA ?_;refine ab [7,8,9,0] [0] ?_;exact ih _ _ _ _ (by omega)
theorem Je (l:List Int)(ho: ∀x∈l,okI x)(hl:l.length<2^24)(hn:l≠ [])(w:List (List UInt8))(hw:w.length<2^20):ah G 408 [.vs 0 0 w.length,.sl 1 (l.map bT)] [.vec 1 (w.map aX)] ⟨.vs 0 0 (w++l.map aa).length,[(false,.vec 1 ((w++l.map aa).map aX))]⟩:=by
 obtain ⟨x,r,rfl⟩: ∃x r,l=x::r:=by
  cases l with
  |nil=>exact absurd rfl hn
  |cons x r=>exact ⟨x,r,rfl⟩
 have m1:=ml w aX;have m2:((x::r).map bT).length=(x::r).length:=by simp
 have hd:(x::r).length=r.length+1:=rfl;have h1:=bA (ho x (by simp))
 have e1:(w++[aa x]).map aX=w.map aX++[[.str (aa x)]]:=by simp[aX]
 have e2:(w++[aa x]).length=w.length+1:=by simp
 have ih:=fun T H c b hb=>y8 (x::r) ho (w++(x::r).map aa) (by rw[Ar,At];omega) (by omega) _ rfl r [x] (w++[aa x]) b T H c 1 rfl rfl hb (by simp)
 rw[e1,e2] at ih;generalize hL:w++(x::r).map aa=L at*;have hx:((x::r).map bT)[(0:Int).toNat]? =some (bT x):=rfl;generalize aa x=t at*
 have step: ∀(T:TV)(H:aw)(c:Nat),Ev G ⟨se,⟨(7,.sl 1 ((x::r).map bT))::(8,.int .i64 (x::r).length)::(9,.int .i64 0)::(0,.vs 0 0 w.length)::T,(0,some (0,.vec 1 (w.map aX)))::H,c⟩,[.t 4],1⟩ ⟨.vs 0 0 L.length,[(false,.vec 1 (L.map aX))]⟩:=by
  intro T H c;refine evA ?_;refine ab [7,8,9,0] [0] ?_;exact ih _ _ _ _ (by omega)
 refine gvB (F:=NJ) ?_;refine ab [7,8,9,0] [0] ?_;rw[m2];exact step _ _ _
theorem qNe1 {kv:AV→Prop}{q:IntKind}{a b:Int}(h: ¬a=b)(k:kv (.bool true)): ∃v,bv .neq (.int q a) (.int q b)=some v∧kv v:=⟨.bool true,by simp[bv,h],k⟩
theorem qNe0 {kv:AV→Prop}{q:IntKind}{a b:Int}(h:a=b)(k:kv (.bool false)): ∃v,bv .neq (.int q a) (.int q b)=some v∧kv v:=⟨.bool false,by simp[bv,h],k⟩
def qC (h:Int):List UInt8:=if h=0 then Tu else bq h.toNat
theorem ab0 (h:Int):(qC h).length≤87:=by
 unfold qC;split
 ·decide
 ·exact kr _
def dy (x:Stat):List UInt8:=bl [qM,pfT x.pfx,qC x.hop,aa x.dist]
def fh (x:Red):List UInt8:=bl [qN,aa x.src,aa x.dst,bQ x.pol,aa x.metric,ynT x.second]
def mE (l:List Int):List UInt8:=if l= [] then [] else bl (mw::l.map aa)
def fY (q:RConf):List UInt8:=(bif q.labels then bl [ij] else [])++((bif q.reroute then bl [gj] else [])++(mE q.dists++(ax dy q.stat++ax fh q.redist)))
theorem yF (l:List Red)(ho: ∀x∈l,x.ok)(tot:List UInt8)(htot:tot.length<2^58)(hl:l.length<2^40)(ln:Int)(hln:ln=l.length): ∀(rest done:List Red)(a:List UInt8)(T:TV)(H:aw)(c:Nat)(n:Int)(e:l=done++rest)(hn:n=done.length)(ha:a++ax fh rest=tot),Ev G ⟨ZP,⟨(54,.sl 5 (l.map Red.enc))::(55,.int .i64 ln)::(56,.int .i64 n)::(0,.ref 0 0 0)::T,(0,some (0,.cells [.str a]))::H,c⟩,[],1⟩ ⟨.tup [],[(true,.cells [.str tot])]⟩
 | [],done,a,T,H,c,n,e,hn,ha=>by
  have hd:=md0 e;have hll:=ml l Red.enc;obtain rfl:a=tot:=by simpa[ax] using ha
  refine evA ?_;refine fX1 ?_;rfl
 |x::r,done,a,T,H,c,n,e,hn,ha=>by
  have hd:=md e;have hll:=ml l Red.enc;have hx:=mx Red.enc e hn;have g:=ho x (by simp[e])
  have h1:=bA g.1;have h2:=bA g.2.1;have h3:=pm x.pol;have h5:=bA g.2.2;have h6:=jN x.second;have hlen:a.length+(fh x).length≤tot.length:=by rw[←ha,ax];simp only[Ar];omega
  have ha2:a++fh x++ax fh r=tot:=by rw[←ha,ax];simp only[AF]
  have h4:=bz [qN,aa x.src,aa x.dst,bQ x.pol,aa x.metric,ynT x.second] (by show 6<2^40;omega) a (by rw[Ar,←fh];omega)
  rw[←fh] at h4;generalize fh x=w at*;generalize aa x.src=w1 at*;generalize aa x.dst=w2 at*;generalize bQ x.pol=w3 at*;generalize aa x.metric=w4 at*;generalize ynT x.second=w5 at*;refine evl ?_
  repeat' (first|refine bc ?_|refine kX [(0,_,_)] [(140,_,_)] ⟨rfl,trivial⟩ ⟨rfl,pz trivial⟩ (h4) ?_|(refine ae ?_ ?_<;>intro h))
  refine ab [54,55,56,0] [0] ?_;exact yF l ho tot htot hl ln hln r (done++[x]) (a++w) _ _ _ (n+1) (by simp[e]) (by simp[hn]<;>omega) ha2
theorem nG (l:List Stat)(ho: ∀x∈l,x.ok)(q:RConf)(hr: ∀x∈q.redist,x.ok)(hrl:q.redist.length<2^40)(g3:Nat)(tot:List UInt8)(htot:(tot++ax fh q.redist).length<2^58)(hl:l.length<2^40)(ln:Int)(hln:ln=l.length): ∀(rest done:List Stat)(a:List UInt8)(T:TV)(H:aw)(c:Nat)(n:Int)(e:l=done++rest)(hn:n=done.length)(ha:a++ax dy rest=tot),Ev G ⟨ZR,⟨(30,.sl 4 (l.map Stat.enc))::(31,.int .i64 ln)::(32,.int .i64 n)::(0,.ref 0 0 0)::(3,.ref 67 g3 0)::T,(0,some (0,.cells [.str a]))::(67,some (g3,.cells q.enc))::H,c⟩,[],1⟩ ⟨.tup [],[(true,.cells [.str (tot++ax fh q.redist)])]⟩
 | [],done,a,T,H,c,n,e,hn,ha=>by
  have hd:=md0 e;have hll:=ml l Stat.enc;obtain rfl:a=tot:=by simpa[ax] using ha
  have m1:=ml q.redist Red.enc;refine evA ?_;refine ab [54,55,56,0] [0] ?_;rw[m1];exact yF q.redist hr _ htot hrl _ rfl q.redist [] a _ _ _ 0 rfl rfl rfl
 |x::r,done,a,T,H,c,n,e,hn,ha=>by
  have hd:=md e;have hll:=ml l Stat.enc;have hx:=mx Stat.enc e hn;have g:=ho x (by simp[e])
  obtain ⟨ea,hua⟩:=dI g.2.1;have h1:ah G 229 [.agg x.pfx.enc] [] ⟨.str (pfT x.pfx),[]⟩:=gH x.pfx g.1;have h2:=gQ x.hop.toNat hua;rw[←ea] at h2;have h3:=bA g.2.2;have htt:tot.length<2^58:=by rw[Ar] at htot;omega
  have hlen:a.length+(dy x).length≤tot.length:=by rw[←ha,ax];simp only[Ar];omega
  have ha2:a++dy x++ax dy r=tot:=by rw[←ha,ax];simp only[AF]
  have h4:=bz [qM,pfT x.pfx,qC x.hop,aa x.dist] (by show 4<2^40;omega) a (by rw[Ar,←dy];omega)
  rw[←dy] at h4;generalize dy x=w at*;generalize pfT x.pfx=w1 at*;generalize aa x.dist=w3 at*
  by_cases e0:x.hop=0
  ·rw[show qC x.hop=Tu from Ad e0] at h4
   refine evl ?_
   repeat' ((conv=>whnf);first|refine qNe0 e0 ?_|refine au ?_|refine kX [(0,_,_)] [(114,_,_)] ⟨rfl,trivial⟩ ⟨rfl,pz trivial⟩ (h4) ?_|(refine ae ?_ ?_<;>intro h))
   refine ab [30,31,32,0,3] [0,67] ?_;exact nG l ho q hr hrl g3 tot htot hl ln hln r (done++[x]) (a++w) _ _ _ (n+1) (by simp[e]) (by simp[hn]<;>omega) ha2
  ·rw[show qC x.hop=bq x.hop.toNat from Ac e0] at h4
   generalize bq x.hop.toNat=w2 at*;refine evl ?_
   repeat' ((conv=>whnf);first|refine qNe1 e0 ?_|refine au ?_|refine kX [(0,_,_)] [(114,_,_)] ⟨rfl,trivial⟩ ⟨rfl,pz trivial⟩ (h4) ?_|(refine ae ?_ ?_<;>intro h))
   refine ab [30,31,32,0,3] [0,67] ?_;exact nG l ho q hr hrl g3 tot htot hl ln hln r (done++[x]) (a++w) _ _ _ (n+1) (by simp[e]) (by simp[hn]<;>omega) ha2
structure RConf.po (q:RConf):Prop where
 ss: ∀x∈q.stat,x.ok
 sl:q.stat.length<2^40
 rs: ∀x∈q.redist,x.ok
 rl:q.redist.length<2^40
 ds: ∀x∈q.dists,okI x
 dl:q.dists.length<2^24
theorem LJ (q:RConf)(g:q.po)(a:List UInt8)(h:(a++fY q).length<2^57):ah G 403 [.ref 0 0 0,.agg q.enc] [.cells [.str a]] ⟨.tup [],[(true,.cells [.str (a++fY q)])]⟩:=by
 have m1:=ml q.stat Stat.enc;have z1:(bl [ij]).length=7:=rfl;have z2:(bl [gj]).length=8:=rfl;have hlen:(bif q.labels then bl [ij] else []).length+((bif q.reroute then bl [gj] else []).length+((mE q.dists).length+((ax dy q.stat).length+(ax fh q.redist).length)))=(fY q).length:=by unfold fY;simp only[Ar]
 rw[Ar] at h;unfold fY
 by_cases hd:q.dists= []
 ·have hp: ¬((q.dists.map bT).length:Int)>0:=by rw[hd];simp
  have hdt:mE q.dists= []:=Ad hd;rw[hdt] at hlen⊢;rcases hl:q.labels with _|_<;>rcases hr:q.reroute with _|_<;>rw[hl,hr] at hlen<;>simp only[cond_true,cond_false,A8] at hlen
  all_goals
   refine gvC (F:=Dm) ?_
   repeat' (first|refine bc ?_|refine kX [(0,_,_)] [(76,_,_)] ⟨rfl,trivial⟩ ⟨rfl,pz trivial⟩ ((bz [ij] (by decide) _ (by simp only[Ar,A8];omega))) ?_|refine kX [(0,_,_)] [(81,_,_)] ⟨rfl,trivial⟩ ⟨rfl,pz trivial⟩ ((bz [gj] (by decide) _ (by simp only[Ar,A8];omega))) ?_|(refine ae ?_ ?_<;>intro h))
   refine ab [30,31,32,0,3] [0,67] ?_;rw[m1];refine (congrArg (Ev G _) ?_).mp (nG q.stat g.ss q g.rs g.rl _ (_++ax dy q.stat) ?_ g.sl _ rfl q.stat [] _ _ _ _ 0 rfl rfl rfl)
   ·simp
   ·simp only[Ar,A8];omega
 ·have hp:((q.dists.map bT).length:Int)>0:=by
   have:q.dists.length≠0:=fun k=>hd (AI k)
   rw[At];omega
  have hdt:mE q.dists=bl (mw::q.dists.map aa):=Ac hd;rw[hdt] at hlen⊢;obtain ⟨L,hL⟩: ∃L,L=mw::q.dists.map aa:=⟨_,rfl⟩
  have hn:ah G 408 [.vs 0 0 1,.sl 1 (q.dists.map bT)] [.vec 1 [[.str mw]]] ⟨.vs 0 0 L.length,[(false,.vec 1 (L.map aX))]⟩:=by rw[hL];exact Je q.dists g.ds g.dl hd [mw] (by decide)
  have hdl:L.length<2^40:=by
   have:=g.dl;rw[hL,As,At];omega
  have m9:=ml L aX;rw[←hL] at hlen⊢;clear hdt hL;rcases hl:q.labels with _|_<;>rcases hr:q.reroute with _|_<;>rw[hl,hr] at hlen<;>simp only[cond_true,cond_false,A8] at hlen
  all_goals
   refine gvC (F:=Dm) ?_
   repeat' (first|refine bc ?_|refine kX [(0,_,_)] [(76,_,_)] ⟨rfl,trivial⟩ ⟨rfl,pz trivial⟩ ((bz [ij] (by decide) _ (by simp only[Ar,A8];omega))) ?_|refine kX [(0,_,_)] [(81,_,_)] ⟨rfl,trivial⟩ ⟨rfl,pz trivial⟩ ((bz [gj] (by decide) _ (by simp only[Ar,A8];omega))) ?_|refine kX [(88,_,_)] [] ⟨rfl,trivial⟩ trivial (hn) ?_|refine kX [(0,_,_)] [(88,_,_)] ⟨rfl,trivial⟩ ⟨rfl,pz trivial⟩ ((bz L hdl _ (by simp only[Ar,A8];omega))) ?_|(refine ae ?_ ?_<;>intro h))
   refine ab [30,31,32,0,3] [0,67] ?_;rw[m1];refine (congrArg (Ev G _) ?_).mp (nG q.stat g.ss q g.rs g.rl _ (_++ax dy q.stat) ?_ g.sl _ rfl q.stat [] _ _ _ _ 0 rfl rfl rfl)
   ·simp
   ·simp only[Ar,A8];omega
end Go.AM.IR
namespace Go.AM.IR
def ci (p:PeerC):List UInt8:=bl [iv,pkT p.kind,aa p.asn,bq p.addr.toNat,bq p.loc.toNat,ynT p.client,aa p.hold,aa p.restart,bQ p.imp,bQ p.exp,ynT p.nextSelf,ynT p.damp]
def fj (p:Pfx):List UInt8:=bl [om,pfT p]
def kx (q:PVC):List UInt8:=bl [je,aa q.asn,aa q.confed,aa q.cluster,aa q.multi]
def mh (q:PVC):List UInt8:=bl [jf,aa q.damp.half,aa q.damp.reuse,aa q.damp.suppress,aa q.damp.maxTime]
def pvT (q:PVC):List UInt8:=kx q++(mh q++(ax ci q.peers++ax fj q.nets))
theorem y7 (l:List Pfx)(ho: ∀x∈l,x.ok)(tot:List UInt8)(htot:tot.length<2^58)(hl:l.length<2^40)(ln:Int)(hln:ln=l.length): ∀(rest done:List Pfx)(a:List UInt8)(T:TV)(H:aw)(c:Nat)(n:Int)(e:l=done++rest)(hn:n=done.length)(ha:a++ax fj rest=tot),Ev G ⟨ZO,⟨(91,.sl 2 (l.map Pfx.enc))::(92,.int .i64 ln)::(93,.int .i64 n)::(0,.ref 0 0 0)::T,(0,some (0,.cells [.str a]))::H,c⟩,[],1⟩ ⟨.tup [],[(true,.cells [.str tot])]⟩
 | [],done,a,T,H,c,n,e,hn,ha=>by
  have hd:=md0 e;have hll:=ml l Pfx.enc;obtain rfl:a=tot:=by simpa[ax] using ha
  refine evA ?_;refine fX1 ?_;rfl
 |x::r,done,a,T,H,c,n,e,hn,ha=>by
  have hd:=md e;have hll:=ml l Pfx.enc;have hx:=mx Pfx.enc e hn;have h1:ah G 229 [.agg x.enc] [] ⟨.str (pfT x),[]⟩:=gH x (ho x (by simp[e]))
  have hlen:a.length+(fj x).length≤tot.length:=by rw[←ha,ax];simp only[Ar];omega
  have ha2:a++fj x++ax fj r=tot:=by rw[←ha,ax];simp only[AF]
  have h4:=bz [om,pfT x] (by show 2<2^40;omega) a (by rw[Ar,←fj];omega)
  rw[←fj] at h4;generalize fj x=w at*;generalize pfT x=w1 at*;refine evl ?_
  repeat' (first|refine bc ?_|refine kX [(0,_,_)] [(164,_,_)] ⟨rfl,trivial⟩ ⟨rfl,pz trivial⟩ (h4) ?_|(refine ae ?_ ?_<;>intro h))
  refine ab [91,92,93,0] [0] ?_;exact y7 l ho tot htot hl ln hln r (done++[x]) (a++w) _ _ _ (n+1) (by simp[e]) (by simp[hn]<;>omega) ha2
theorem nR (l:List PeerC)(ho: ∀x∈l,x.ok∧(x.kind=1∨x.kind=2∨x.kind=3))(q:PVC)(hr: ∀x∈q.nets,x.ok)(hrl:q.nets.length<2^40)(g3 g5:Nat)(tot:List UInt8)(htot:(tot++ax fj q.nets).length<2^58)(hl:l.length<2^40)(ln:Int)(hln:ln=l.length): ∀(rest done:List PeerC)(a:List UInt8)(T:TV)(H:aw)(c:Nat)(n:Int)(e:l=done++rest)(hn:n=done.length)(ha:a++ax ci rest=tot),Ev G ⟨adi,⟨(46,.sl 11 (l.map PeerC.enc))::(47,.int .i64 ln)::(48,.int .i64 n)::(5,.ref 69 g5 0)::(0,.ref 0 0 0)::(3,.ref 67 g3 0)::T,(0,some (0,.cells [.str a]))::(69,some (g5,.cells [.str [],.str [101,120,116,101,114,110,97,108],.str [99,111,110,102,101,100],.str [105,110,116,101,114,110,97,108]]))::(67,some (g3,.cells q.enc))::H,c⟩,[],1⟩ ⟨.tup [],[(true,.cells [.str (tot++ax fj q.nets)])]⟩
 | [],done,a,T,H,c,n,e,hn,ha=>by
  have hd:=md0 e;have hll:=ml l PeerC.enc;obtain rfl:a=tot:=by simpa[ax] using ha
  have m1:=ml q.nets Pfx.enc;refine evA ?_;refine ab [91,92,93,0] [0] ?_;rw[m1];exact y7 q.nets hr _ htot hrl _ rfl q.nets [] a _ _ _ 0 rfl rfl rfl
 |x::r,done,a,T,H,c,n,e,hn,ha=>by
  have hd:=md e;have hll:=ml l PeerC.enc;have hx:=mx PeerC.enc e hn;have g:=(ho x (by simp[e])).1
  obtain ⟨o1,o2,o3,o4,o5,o6⟩:=g;obtain ⟨ea,hua⟩:=dI o3;obtain ⟨eb,hub⟩:=dI o4;have h1:=bA o2;have h2:=gQ x.addr.toNat hua;rw[←ea] at h2;have h3:=gQ x.loc.toNat hub;rw[←eb] at h3;have h5:=jN x.client;have h6:=bA o5;have h7:=bA o6;have h8:=pm x.imp;have h9:=pm x.exp;have h10:=jN x.nextSelf;have h11:=jN x.damp;have htt:tot.length<2^58:=by rw[Ar] at htot;omega
  have hlen:a.length+(ci x).length≤tot.length:=by rw[←ha,ax];simp only[Ar];omega
  have ha2:a++ci x++ax ci r=tot:=by rw[←ha,ax];simp only[AF]
  have hx2: ∀k,x.kind=k→(l.map PeerC.enc)[n.toNat]? =some [.int .i64 k,.int .i64 x.asn,.int .u32 x.addr,.int .u32 x.loc,.bool x.client,.int .i64 x.hold,.int .i64 x.restart,.str x.imp,.str x.exp,.bool x.nextSelf,.bool x.damp]:=fun k hk=>by rw[hx,←hk];rfl
  clear hx ea eb;rcases (ho x (by simp[e])).2 with hk|hk|hk
  ·have hi:ci x=bl [iv,JY,aa x.asn,bq x.addr.toNat,bq x.loc.toNat,ynT x.client,aa x.hold,aa x.restart,bQ x.imp,bQ x.exp,ynT x.nextSelf,ynT x.damp]:=by
    unfold ci;rw[hk];rfl
   have h4:=bz [iv,JY,aa x.asn,bq x.addr.toNat,bq x.loc.toNat,ynT x.client,aa x.hold,aa x.restart,bQ x.imp,bQ x.exp,ynT x.nextSelf,ynT x.damp] (by show 12<2^40;omega) a (by rw[Ar,←hi];omega)
   rw[←hi] at h4;have hx:=hx2 1 hk;generalize ci x=w at*;generalize aa x.asn=w1 at*;generalize bq x.addr.toNat=w2 at*;generalize bq x.loc.toNat=w3 at*;generalize ynT x.client=w4 at*;generalize aa x.hold=w5 at*;generalize aa x.restart=w6 at*;generalize bQ x.imp=w7 at*;generalize bQ x.exp=w8 at*;generalize ynT x.nextSelf=w9 at*;generalize ynT x.damp=w10 at*;refine evl ?_
   repeat' (first|refine bc ?_|refine kX [(0,_,_)] [(151,_,_)] ⟨rfl,trivial⟩ ⟨rfl,pz trivial⟩ (h4) ?_|(refine ae ?_ ?_<;>intro h))
   refine ab [46,47,48,5,0,3] [0,69,67] ?_;exact nR l ho q hr hrl g3 g5 tot htot hl ln hln r (done++[x]) (a++w) _ _ _ (n+1) (by simp[e]) (by simp[hn]<;>omega) ha2
  ·have hi:ci x=bl [iv,xU,aa x.asn,bq x.addr.toNat,bq x.loc.toNat,ynT x.client,aa x.hold,aa x.restart,bQ x.imp,bQ x.exp,ynT x.nextSelf,ynT x.damp]:=by
    unfold ci;rw[hk];rfl
   have h4:=bz [iv,xU,aa x.asn,bq x.addr.toNat,bq x.loc.toNat,ynT x.client,aa x.hold,aa x.restart,bQ x.imp,bQ x.exp,ynT x.nextSelf,ynT x.damp] (by show 12<2^40;omega) a (by rw[Ar,←hi];omega)
   rw[←hi] at h4;have hx:=hx2 2 hk;generalize ci x=w at*;generalize aa x.asn=w1 at*;generalize bq x.addr.toNat=w2 at*;generalize bq x.loc.toNat=w3 at*;generalize ynT x.client=w4 at*;generalize aa x.hold=w5 at*;generalize aa x.restart=w6 at*;generalize bQ x.imp=w7 at*;generalize bQ x.exp=w8 at*;generalize ynT x.nextSelf=w9 at*;generalize ynT x.damp=w10 at*;refine evl ?_
   repeat' (first|refine bc ?_|refine kX [(0,_,_)] [(151,_,_)] ⟨rfl,trivial⟩ ⟨rfl,pz trivial⟩ (h4) ?_|(refine ae ?_ ?_<;>intro h))
   refine ab [46,47,48,5,0,3] [0,69,67] ?_;exact nR l ho q hr hrl g3 g5 tot htot hl ln hln r (done++[x]) (a++w) _ _ _ (n+1) (by simp[e]) (by simp[hn]<;>omega) ha2
  ·have hi:ci x=bl [iv,JX,aa x.asn,bq x.addr.toNat,bq x.loc.toNat,ynT x.client,aa x.hold,aa x.restart,bQ x.imp,bQ x.exp,ynT x.nextSelf,ynT x.damp]:=by
    unfold ci;rw[hk];rfl
   have h4:=bz [iv,JX,aa x.asn,bq x.addr.toNat,bq x.loc.toNat,ynT x.client,aa x.hold,aa x.restart,bQ x.imp,bQ x.exp,ynT x.nextSelf,ynT x.damp] (by show 12<2^40;omega) a (by rw[Ar,←hi];omega)
   rw[←hi] at h4;have hx:=hx2 3 hk;generalize ci x=w at*;generalize aa x.asn=w1 at*;generalize bq x.addr.toNat=w2 at*;generalize bq x.loc.toNat=w3 at*;generalize ynT x.client=w4 at*;generalize aa x.hold=w5 at*;generalize aa x.restart=w6 at*;generalize bQ x.imp=w7 at*;generalize bQ x.exp=w8 at*;generalize ynT x.nextSelf=w9 at*;generalize ynT x.damp=w10 at*;refine evl ?_
   repeat' (first|refine bc ?_|refine kX [(0,_,_)] [(151,_,_)] ⟨rfl,trivial⟩ ⟨rfl,pz trivial⟩ (h4) ?_|(refine ae ?_ ?_<;>intro h))
   refine ab [46,47,48,5,0,3] [0,69,67] ?_;exact nR l ho q hr hrl g3 g5 tot htot hl ln hln r (done++[x]) (a++w) _ _ _ (n+1) (by simp[e]) (by simp[hn]<;>omega) ha2
structure PVC.pt (q:PVC):Prop where
 a1:okI q.asn
 a2:okI q.confed
 a3:okU q.cluster
 a4:okI q.multi
 d1:okI q.damp.half
 d2:okI q.damp.reuse
 d3:okI q.damp.suppress
 d4:okI q.damp.maxTime
 ps: ∀x∈q.peers,x.ok∧(x.kind=1∨x.kind=2∨x.kind=3)
 pl:q.peers.length<2^40
 ns: ∀x∈q.nets,x.ok
 nl:q.nets.length<2^40
theorem qr (q:PVC)(g:q.pt)(a:List UInt8)(h:(a++pvT q).length<2^57):ah G 404 [.ref 0 0 0,.agg q.enc] [.cells [.str a]] ⟨.tup [],[(true,.cells [.str (a++pvT q)])]⟩:=by
 have hk:=qU;have ub:=pW g.a3;have m1:=ml q.peers PeerC.enc;have hn:ah G 408 [.vs 0 0 1,.vs 1 0 4] [.vec 1 [[.str je]],.vec 1 [[.int .i64 q.asn],[.int .i64 q.confed],[.int .i64 q.cluster],[.int .i64 q.multi]]] ⟨.vs 0 0 5,[(false,.vec 1 [[.str je],[.str (aa q.asn)],[.str (aa q.confed)],[.str (aa q.cluster)],[.str (aa q.multi)]]),(true,.vec 1 [[.int .i64 q.asn],[.int .i64 q.confed],[.int .i64 q.cluster],[.int .i64 q.multi]])]⟩:=gr [q.asn,q.confed,q.cluster,q.multi] (ael g.a1 g.a2 (mA g.a3) g.a4) (by show 4<2^20;omega) (by simp) [je] (by show 1<2^20;omega)
 have hm:ah G 408 [.vs 0 0 1,.vs 1 0 4] [.vec 1 [[.str jf]],.vec 1 [[.int .i64 q.damp.half],[.int .i64 q.damp.reuse],[.int .i64 q.damp.suppress],[.int .i64 q.damp.maxTime]]] ⟨.vs 0 0 5,[(false,.vec 1 [[.str jf],[.str (aa q.damp.half)],[.str (aa q.damp.reuse)],[.str (aa q.damp.suppress)],[.str (aa q.damp.maxTime)]]),(true,.vec 1 [[.int .i64 q.damp.half],[.int .i64 q.damp.reuse],[.int .i64 q.damp.suppress],[.int .i64 q.damp.maxTime]])]⟩:=gr [q.damp.half,q.damp.reuse,q.damp.suppress,q.damp.maxTime] (ael g.d1 g.d2 g.d3 g.d4) (by show 4<2^20;omega) (by simp) [jf] (by show 1<2^20;omega)
 have hlen:(kx q).length+((mh q).length+((ax ci q.peers).length+(ax fj q.nets).length))=(pvT q).length:=by unfold pvT;simp only[Ar]
 rw[Ar] at h;have h4:=bz [je,aa q.asn,aa q.confed,aa q.cluster,aa q.multi] (by show 5<2^40;omega) a (by rw[Ar,←kx];omega)
 rw[←kx] at h4;have h5:=bz [jf,aa q.damp.half,aa q.damp.reuse,aa q.damp.suppress,aa q.damp.maxTime] (by show 5<2^40;omega) (a++kx q) (by rw[Ar,Ar,←mh];omega)
 rw[←mh] at h5;have e:a++pvT q=a++kx q++mh q++ax ci q.peers++ax fj q.nets:=by rw[pvT];simp only[AF]
 rw[e];generalize kx q=s1 at*;generalize mh q=s2 at*;generalize aa q.asn=w1 at*;generalize aa q.confed=w2 at*;generalize aa q.cluster=w3 at*;generalize aa q.multi=w4 at*;generalize aa q.damp.half=w5 at*;generalize aa q.damp.reuse=w6 at*;generalize aa q.damp.suppress=w7 at*;generalize aa q.damp.maxTime=w8 at*;refine gvC (F:=NN) ?_
 repeat' (first|refine bc ?_|refine kX [(79,_,_),(89,_,_)] [] ⟨rfl,rfl,trivial⟩ trivial (hn) ?_|refine kX [(0,_,_)] [(79,_,_)] ⟨rfl,trivial⟩ ⟨rfl,pz trivial⟩ (h4) ?_|refine kX [(93,_,_),(106,_,_)] [] ⟨rfl,rfl,trivial⟩ trivial (hm) ?_|refine kX [(0,_,_)] [(93,_,_)] ⟨rfl,trivial⟩ ⟨rfl,pz trivial⟩ (h5) ?_|(refine ae ?_ ?_<;>intro h))
 refine ab [46,47,48,5,0,3] [0,69,67] ?_;rw[m1];exact nR q.peers g.ps q g.ns g.nl _ _ (a++s1++s2++ax ci q.peers) (by simp only[Ar];omega) g.pl _ rfl q.peers [] _ _ _ _ 0 rfl rfl rfl
end Go.AM.IR
namespace Go.AM.IR
theorem yy (l:List ARange)(q:LSC)(hq:q.ranges=l)(ho: ∀x∈l,x.ok)(tot:List UInt8)(htot:tot.length<2^58)(hl:l.length<2^40)(ln:Int)(hln:ln=l.length): ∀(rest done:List ARange)(a:List UInt8)(T:TV)(H:aw)(c:Nat)(n:Int)(e:l=done++rest)(hn:n=done.length)(ha:a++ax fC rest=tot),Ev G ⟨ZH,⟨(55,.int .i64 ln)::(56,.int .i64 n)::(4,.str a)::(1,.ref 65 1 0)::T,(65,some (1,.cells q.enc))::H,c⟩,[.t 2],0⟩ ⟨.str tot,[]⟩
 | [],done,a,T,H,c,n,e,hn,ha=>by
  have hd:=md0 e;have hll:=ml l ARange.enc;obtain rfl:a=tot:=by simpa[ax] using ha
  refine evA ?_;refine ag ?_;rfl
 |x::r,done,a,T,H,c,n,e,hn,ha=>by
  have hd:=md e;have hll:=ml l ARange.enc;have hx:=mx ARange.enc e hn;have g:=ho x (by simp[e])
  have h1:=bu (mA g.1);have ub:=pW g.1;have h2:ah G 230 [.agg x.pfx.enc] [] ⟨.str (pfT x.pfx),[]⟩:=gG x.pfx g.2;have h3:=jM x.adv;have hx':(q.ranges.map ARange.enc)[n.toNat]? =some x.enc:=by rw[hq];exact hx
  have hlq:(q.ranges.map ARange.enc).length=l.length:=by rw[hq];simp
  have hlen:a.length+(fC x).length≤tot.length:=by rw[←ha,ax];simp only[Ar];omega
  have ha2:a++fC x++ax fC r=tot:=by rw[←ha,ax];simp only[AF]
  have h4:=bN [sR,aa x.area,pfT x.pfx,ynT x.adv] (by show 4<2^40;omega) (by rw[←fC];omega)
  rw[←fC] at h4;generalize fC x=w at*;generalize aa x.area=w1 at*;generalize pfT x.pfx=w2 at*;generalize ynT x.adv=w3 at*;refine evl ?_
  repeat' ((conv=>whnf);first|refine bp ?_|refine au ?_|refine kZ [(139,_,_)] ⟨rfl,pz trivial⟩ (h4) ?_|(refine ae ?_ ?_<;>intro h))
  refine ab [55,56,4,1] [65] ?_;exact yy l q hq ho tot htot hl ln hln r (done++[x]) (a++w) _ _ _ (n+1) (by simp[e]) (by simp[hn]<;>omega) ha2
theorem nT (l:List Ifc)(q:LSC)(hq:q.ifs=l)(ho: ∀x∈l,x.ok∧(x.kind=1∨x.kind=2∨x.kind=3))(hr: ∀x∈q.ranges,x.ok)(hrl:q.ranges.length<2^40)(g3:Nat)(tot:List UInt8)(htot:(tot++ax fC q.ranges).length<2^58)(hl:l.length<2^40)(ln:Int)(hln:ln=l.length): ∀(rest done:List Ifc)(a:List UInt8)(T:TV)(H:aw)(c:Nat)(n:Int)(e:l=done++rest)(hn:n=done.length)(ha:a++ax dq rest=tot),Ev G ⟨adc,⟨(12,.int .i64 ln)::(13,.int .i64 n)::(4,.str a)::(1,.ref 65 1 0)::(3,.vs 73 g3 4)::T,(65,some (1,.cells q.enc))::(73,some (g3,.vec 1 [[.str []],[.str [112,111,105,110,116]],[.str [108,97,110]],[.str [115,116,117,98]]]))::H,c⟩,[.t 2],0⟩ ⟨.str (tot++ax fC q.ranges),[]⟩
 | [],done,a,T,H,c,n,e,hn,ha=>by
  have hd:=md0 e;have hll:=ml l Ifc.enc;obtain rfl:a=tot:=by simpa[ax] using ha
  have m1:=ml q.ranges ARange.enc;refine evA ?_;refine ab [55,56,4,1] [65] ?_;rw[m1];exact yy q.ranges q rfl hr _ htot hrl _ rfl q.ranges [] a _ _ _ 0 rfl rfl rfl
 |x::r,done,a,T,H,c,n,e,hn,ha=>by
  have hd:=md e;have hll:=ml l Ifc.enc;have hx:=mx Ifc.enc e hn;have g:=(ho x (by simp[e])).1
  obtain ⟨ea,hua⟩:=dI g.2.2.1;have ub:=pW g.2.2.2.1;have h1:ah G 230 [.agg x.pfx.enc] [] ⟨.str (pfT x.pfx),[]⟩:=gG x.pfx g.2.1;have h2:=gN x.addr.toNat hua;rw[←ea] at h2;have h3:=bu (mA g.2.2.2.1);have h5:=bu g.2.2.2.2.1;have h6:=bu g.2.2.2.2.2.1;have h7:=bu g.2.2.2.2.2.2.1;have h8:=bu g.2.2.2.2.2.2.2;have htt:tot.length<2^58:=by rw[Ar] at htot;omega
  have hx2: ∀k,x.kind=k→(q.ifs.map Ifc.enc)[n.toNat]? =some [.int .i64 k,.int .u32 x.pfx.addr,.int .i64 x.pfx.len,.int .u32 x.addr,.int .u32 x.area,.int .i64 x.cost,.int .i64 x.prio,.int .i64 x.hello,.int .i64 x.dead]:=fun k hk=>by rw[hq,hx,←hk];rfl
  have hlq:(q.ifs.map Ifc.enc).length=l.length:=by rw[hq];simp
  clear hx;have hlen:a.length+(dq x).length≤tot.length:=by rw[←ha,ax];simp only[Ar];omega
  have ha2:a++dq x++ax dq r=tot:=by rw[←ha,ax];simp only[AF]
  rcases (ho x (by simp[e])).2 with hk|hk|hk
  ·have hi:dq x=bl [cZ,mI,pfT x.pfx,bq x.addr.toNat,aa x.area,aa x.cost,aa x.prio,aa x.hello,aa x.dead]:=by
    unfold dq;rw[hk];rfl
   have h4:=bN [cZ,mI,pfT x.pfx,bq x.addr.toNat,aa x.area,aa x.cost,aa x.prio,aa x.hello,aa x.dead] (by show 9<2^40;omega) (by rw[←hi];omega)
   rw[←hi] at h4;have hx:=hx2 1 hk;generalize dq x=w at*;generalize aa x.area=w1 at*;generalize aa x.cost=w2 at*;generalize aa x.prio=w3 at*;generalize aa x.hello=w4 at*;generalize aa x.dead=w5 at*;generalize pfT x.pfx=w6 at*;generalize bq x.addr.toNat=w7 at*;refine evl ?_
   repeat' ((conv=>whnf);first|refine bp ?_|refine au ?_|refine kZ [(113,_,_)] ⟨rfl,pz trivial⟩ (h4) ?_|(refine ae ?_ ?_<;>intro h))
   refine ab [12,13,4,1,3] [65,73] ?_;exact nT l q hq ho hr hrl g3 tot htot hl ln hln r (done++[x]) (a++w) _ _ _ (n+1) (by simp[e]) (by simp[hn]<;>omega) ha2
  ·have hi:dq x=bl [cZ,sV,pfT x.pfx,bq x.addr.toNat,aa x.area,aa x.cost,aa x.prio,aa x.hello,aa x.dead]:=by
    unfold dq;rw[hk];rfl
   have h4:=bN [cZ,sV,pfT x.pfx,bq x.addr.toNat,aa x.area,aa x.cost,aa x.prio,aa x.hello,aa x.dead] (by show 9<2^40;omega) (by rw[←hi];omega)
   rw[←hi] at h4;have hx:=hx2 2 hk;generalize dq x=w at*;generalize aa x.area=w1 at*;generalize aa x.cost=w2 at*;generalize aa x.prio=w3 at*;generalize aa x.hello=w4 at*;generalize aa x.dead=w5 at*;generalize pfT x.pfx=w6 at*;generalize bq x.addr.toNat=w7 at*;refine evl ?_
   repeat' ((conv=>whnf);first|refine bp ?_|refine au ?_|refine kZ [(113,_,_)] ⟨rfl,pz trivial⟩ (h4) ?_|(refine ae ?_ ?_<;>intro h))
   refine ab [12,13,4,1,3] [65,73] ?_;exact nT l q hq ho hr hrl g3 tot htot hl ln hln r (done++[x]) (a++w) _ _ _ (n+1) (by simp[e]) (by simp[hn]<;>omega) ha2
  ·have hi:dq x=bl [cZ,pJ,pfT x.pfx,bq x.addr.toNat,aa x.area,aa x.cost,aa x.prio,aa x.hello,aa x.dead]:=by
    unfold dq;rw[hk];rfl
   have h4:=bN [cZ,pJ,pfT x.pfx,bq x.addr.toNat,aa x.area,aa x.cost,aa x.prio,aa x.hello,aa x.dead] (by show 9<2^40;omega) (by rw[←hi];omega)
   rw[←hi] at h4;have hx:=hx2 3 hk;generalize dq x=w at*;generalize aa x.area=w1 at*;generalize aa x.cost=w2 at*;generalize aa x.prio=w3 at*;generalize aa x.hello=w4 at*;generalize aa x.dead=w5 at*;generalize pfT x.pfx=w6 at*;generalize bq x.addr.toNat=w7 at*;refine evl ?_
   repeat' ((conv=>whnf);first|refine bp ?_|refine au ?_|refine kZ [(113,_,_)] ⟨rfl,pz trivial⟩ (h4) ?_|(refine ae ?_ ?_<;>intro h))
   refine ab [12,13,4,1,3] [65,73] ?_;exact nT l q hq ho hr hrl g3 tot htot hl ln hln r (done++[x]) (a++w) _ _ _ (n+1) (by simp[e]) (by simp[hn]<;>omega) ha2
def wE (q:LSC):List UInt8:=ax dq q.ifs++ax fC q.ranges
theorem QU (q:LSC)(g:q.pt)(h:(wE q).length<2^57):ah G 411 [.agg q.enc] [] ⟨.str (wE q),[]⟩:=by
 have m1:=ml q.ifs Ifc.enc;unfold wE at h⊢;refine gvB (F:=NI) ?_;refine ab [12,13,4,1,3] [65,73] ?_;rw[m1];exact nT q.ifs q rfl g.is g.rs g.rl _ _ (by omega) g.il _ rfl q.ifs [] [] _ _ _ 0 rfl rfl rfl
theorem y6 (l:List Pfx)(q:PVC)(hq:q.nets=l)(ho: ∀x∈l,x.ok)(tot:List UInt8)(htot:tot.length<2^58)(hl:l.length<2^40)(ln:Int)(hln:ln=l.length): ∀(rest done:List Pfx)(a:List UInt8)(T:TV)(H:aw)(c:Nat)(n:Int)(e:l=done++rest)(hn:n=done.length)(ha:a++ax fj rest=tot),Ev G ⟨Zx,⟨(97,.int .i64 ln)::(98,.int .i64 n)::(4,.str a)::(1,.ref 65 1 0)::T,(65,some (1,.cells q.enc))::H,c⟩,[.t 2],0⟩ ⟨.str tot,[]⟩
 | [],done,a,T,H,c,n,e,hn,ha=>by
  have hd:=md0 e;have hll:=ml l Pfx.enc;obtain rfl:a=tot:=by simpa[ax] using ha
  refine evA ?_;refine ag ?_;rfl
 |x::r,done,a,T,H,c,n,e,hn,ha=>by
  have hd:=md e;have hll:=ml l Pfx.enc;have hx:=mx Pfx.enc e hn;have h1:ah G 230 [.agg x.enc] [] ⟨.str (pfT x),[]⟩:=gG x (ho x (by simp[e]))
  have hx':(q.nets.map Pfx.enc)[n.toNat]? =some x.enc:=by rw[hq];exact hx
  have hlq:(q.nets.map Pfx.enc).length=l.length:=by rw[hq];simp
  have hlen:a.length+(fj x).length≤tot.length:=by rw[←ha,ax];simp only[Ar];omega
  have ha2:a++fj x++ax fj r=tot:=by rw[←ha,ax];simp only[AF]
  have h4:=bN [om,pfT x] (by show 2<2^40;omega) (by rw[←fj];omega)
  rw[←fj] at h4;generalize fj x=w at*;generalize pfT x=w1 at*;refine evl ?_
  repeat' ((conv=>whnf);first|refine bp ?_|refine au ?_|refine kZ [(172,_,_)] ⟨rfl,pz trivial⟩ (h4) ?_|(refine ae ?_ ?_<;>intro h))
  refine ab [97,98,4,1] [65] ?_;exact y6 l q hq ho tot htot hl ln hln r (done++[x]) (a++w) _ _ _ (n+1) (by simp[e]) (by simp[hn]<;>omega) ha2
theorem nQ (l:List PeerC)(q:PVC)(hq:q.peers=l)(ho: ∀x∈l,x.ok∧(x.kind=1∨x.kind=2∨x.kind=3))(hr: ∀x∈q.nets,x.ok)(hrl:q.nets.length<2^40)(g3:Nat)(tot:List UInt8)(htot:(tot++ax fj q.nets).length<2^58)(hl:l.length<2^40)(ln:Int)(hln:ln=l.length): ∀(rest done:List PeerC)(a:List UInt8)(T:TV)(H:aw)(c:Nat)(n:Int)(e:l=done++rest)(hn:n=done.length)(ha:a++ax ci rest=tot),Ev G ⟨Zy,⟨(46,.int .i64 ln)::(47,.int .i64 n)::(4,.str a)::(1,.ref 65 1 0)::(3,.vs 72 g3 4)::T,(65,some (1,.cells q.enc))::(72,some (g3,.vec 1 [[.str []],[.str [101,120,116,101,114,110,97,108]],[.str [99,111,110,102,101,100]],[.str [105,110,116,101,114,110,97,108]]]))::H,c⟩,[.t 2],0⟩ ⟨.str (tot++ax fj q.nets),[]⟩
 | [],done,a,T,H,c,n,e,hn,ha=>by
  have hd:=md0 e;have hll:=ml l PeerC.enc;obtain rfl:a=tot:=by simpa[ax] using ha
  have m1:=ml q.nets Pfx.enc;refine evA ?_;refine ab [97,98,4,1] [65] ?_;rw[m1];exact y6 q.nets q rfl hr _ htot hrl _ rfl q.nets [] a _ _ _ 0 rfl rfl rfl
 |x::r,done,a,T,H,c,n,e,hn,ha=>by
  have hd:=md e;have hll:=ml l PeerC.enc;have hx:=mx PeerC.enc e hn;have g:=(ho x (by simp[e])).1
  obtain ⟨o1,o2,o3,o4,o5,o6⟩:=g;obtain ⟨ea,hua⟩:=dI o3;obtain ⟨eb,hub⟩:=dI o4;have h1:=bu o2;have h2:=gN x.addr.toNat hua;rw[←ea] at h2;have h3:=gN x.loc.toNat hub;rw[←eb] at h3;have h5:=jM x.client;have h6:=bu o5;have h7:=bu o6;have h8:=pj x.imp;have h9:=pj x.exp;have h10:=jM x.nextSelf;have h11:=jM x.damp;have htt:tot.length<2^58:=by rw[Ar] at htot;omega
  have hx2: ∀k,x.kind=k→(q.peers.map PeerC.enc)[n.toNat]? =some [.int .i64 k,.int .i64 x.asn,.int .u32 x.addr,.int .u32 x.loc,.bool x.client,.int .i64 x.hold,.int .i64 x.restart,.str x.imp,.str x.exp,.bool x.nextSelf,.bool x.damp]:=fun k hk=>by rw[hq,hx,←hk];rfl
  have hlq:(q.peers.map PeerC.enc).length=l.length:=by rw[hq];simp
  clear hx ea eb;have hlen:a.length+(ci x).length≤tot.length:=by rw[←ha,ax];simp only[Ar];omega
  have ha2:a++ci x++ax ci r=tot:=by rw[←ha,ax];simp only[AF]
  rcases (ho x (by simp[e])).2 with hk|hk|hk
  ·have hi:ci x=bl [iv,JY,aa x.asn,bq x.addr.toNat,bq x.loc.toNat,ynT x.client,aa x.hold,aa x.restart,bQ x.imp,bQ x.exp,ynT x.nextSelf,ynT x.damp]:=by
    unfold ci;rw[hk];rfl
   have h4:=bN [iv,JY,aa x.asn,bq x.addr.toNat,bq x.loc.toNat,ynT x.client,aa x.hold,aa x.restart,bQ x.imp,bQ x.exp,ynT x.nextSelf,ynT x.damp] (by show 12<2^40;omega) (by rw[←hi];omega)
   rw[←hi] at h4;have hx:=hx2 1 hk;generalize ci x=w at*;generalize aa x.asn=w1 at*;generalize bq x.addr.toNat=w2 at*;generalize bq x.loc.toNat=w3 at*;generalize ynT x.client=w4 at*;generalize aa x.hold=w5 at*;generalize aa x.restart=w6 at*;generalize bQ x.imp=w7 at*;generalize bQ x.exp=w8 at*;generalize ynT x.nextSelf=w9 at*;generalize ynT x.damp=w10 at*;refine evl ?_
   repeat' ((conv=>whnf);first|refine bp ?_|refine au ?_|refine kZ [(155,_,_)] ⟨rfl,pz trivial⟩ (h4) ?_|(refine ae ?_ ?_<;>intro h))
   refine ab [46,47,4,1,3] [65,72] ?_;exact nQ l q hq ho hr hrl g3 tot htot hl ln hln r (done++[x]) (a++w) _ _ _ (n+1) (by simp[e]) (by simp[hn]<;>omega) ha2
  ·have hi:ci x=bl [iv,xU,aa x.asn,bq x.addr.toNat,bq x.loc.toNat,ynT x.client,aa x.hold,aa x.restart,bQ x.imp,bQ x.exp,ynT x.nextSelf,ynT x.damp]:=by
    unfold ci;rw[hk];rfl
   have h4:=bN [iv,xU,aa x.asn,bq x.addr.toNat,bq x.loc.toNat,ynT x.client,aa x.hold,aa x.restart,bQ x.imp,bQ x.exp,ynT x.nextSelf,ynT x.damp] (by show 12<2^40;omega) (by rw[←hi];omega)
   rw[←hi] at h4;have hx:=hx2 2 hk;generalize ci x=w at*;generalize aa x.asn=w1 at*;generalize bq x.addr.toNat=w2 at*;generalize bq x.loc.toNat=w3 at*;generalize ynT x.client=w4 at*;generalize aa x.hold=w5 at*;generalize aa x.restart=w6 at*;generalize bQ x.imp=w7 at*;generalize bQ x.exp=w8 at*;generalize ynT x.nextSelf=w9 at*;generalize ynT x.damp=w10 at*;refine evl ?_
   repeat' ((conv=>whnf);first|refine bp ?_|refine au ?_|refine kZ [(155,_,_)] ⟨rfl,pz trivial⟩ (h4) ?_|(refine ae ?_ ?_<;>intro h))
   refine ab [46,47,4,1,3] [65,72] ?_;exact nQ l q hq ho hr hrl g3 tot htot hl ln hln r (done++[x]) (a++w) _ _ _ (n+1) (by simp[e]) (by simp[hn]<;>omega) ha2
  ·have hi:ci x=bl [iv,JX,aa x.asn,bq x.addr.toNat,bq x.loc.toNat,ynT x.client,aa x.hold,aa x.restart,bQ x.imp,bQ x.exp,ynT x.nextSelf,ynT x.damp]:=by
    unfold ci;rw[hk];rfl
   have h4:=bN [iv,JX,aa x.asn,bq x.addr.toNat,bq x.loc.toNat,ynT x.client,aa x.hold,aa x.restart,bQ x.imp,bQ x.exp,ynT x.nextSelf,ynT x.damp] (by show 12<2^40;omega) (by rw[←hi];omega)
   rw[←hi] at h4;have hx:=hx2 3 hk;generalize ci x=w at*;generalize aa x.asn=w1 at*;generalize bq x.addr.toNat=w2 at*;generalize bq x.loc.toNat=w3 at*;generalize ynT x.client=w4 at*;generalize aa x.hold=w5 at*;generalize aa x.restart=w6 at*;generalize bQ x.imp=w7 at*;generalize bQ x.exp=w8 at*;generalize ynT x.nextSelf=w9 at*;generalize ynT x.damp=w10 at*;refine evl ?_
   repeat' ((conv=>whnf);first|refine bp ?_|refine au ?_|refine kZ [(155,_,_)] ⟨rfl,pz trivial⟩ (h4) ?_|(refine ae ?_ ?_<;>intro h))
   refine ab [46,47,4,1,3] [65,72] ?_;exact nQ l q hq ho hr hrl g3 tot htot hl ln hln r (done++[x]) (a++w) _ _ _ (n+1) (by simp[e]) (by simp[hn]<;>omega) ha2
theorem qq (q:PVC)(g:q.pt)(h:(pvT q).length<2^57):ah G 413 [.agg q.enc] [] ⟨.str (pvT q),[]⟩:=by
 have ub:=pW g.a3;have m1:=ml q.peers PeerC.enc;have d1:=bu g.a1;have d2:=bu g.a2;have d3:=bu (mA g.a3);have d4:=bu g.a4;have d5:=bu g.d1;have d6:=bu g.d2;have d7:=bu g.d3;have d8:=bu g.d4;have hlen:(kx q).length+((mh q).length+((ax ci q.peers).length+(ax fj q.nets).length))=(pvT q).length:=by unfold pvT;simp only[Ar]
 have h4:=bN [je,aa q.asn,aa q.confed,aa q.cluster,aa q.multi] (by show 5<2^40;omega) (by rw[←kx];omega)
 rw[←kx] at h4;have h5:=bN [jf,aa q.damp.half,aa q.damp.reuse,aa q.damp.suppress,aa q.damp.maxTime] (by show 5<2^40;omega) (by rw[←mh];omega)
 rw[←mh] at h5;have e:pvT q=kx q++mh q++ax ci q.peers++ax fj q.nets:=by rw[pvT];simp only[AF]
 rw[e];generalize kx q=s1 at*;generalize mh q=s2 at*;generalize aa q.asn=w1 at*;generalize aa q.confed=w2 at*;generalize aa q.cluster=w3 at*;generalize aa q.multi=w4 at*;generalize aa q.damp.half=w5 at*;generalize aa q.damp.reuse=w6 at*;generalize aa q.damp.suppress=w7 at*;generalize aa q.damp.maxTime=w8 at*;refine gvC (F:=NH) ?_
 repeat' ((conv=>whnf);first|refine bp ?_|refine au ?_|refine kZ [(86,_,_)] ⟨rfl,pz trivial⟩ (h4) ?_|refine kZ [(105,_,_)] ⟨rfl,pz trivial⟩ (h5) ?_|(refine ae ?_ ?_<;>intro h))
 refine ab [46,47,4,1,3] [65,72] ?_;rw[m1];exact nQ q.peers q rfl g.ps g.ns g.nl _ (s1++s2++ax ci q.peers) (by simp only[Ar];omega) g.pl _ rfl q.peers [] _ _ _ _ 0 rfl rfl rfl
theorem yE (l:List Red)(q:RConf)(hq:q.redist=l)(ho: ∀x∈l,x.ok)(tot:List UInt8)(htot:tot.length<2^58)(hl:l.length<2^40)(ln:Int)(hln:ln=l.length): ∀(rest done:List Red)(a:List UInt8)(T:TV)(H:aw)(c:Nat)(n:Int)(e:l=done++rest)(hn:n=done.length)(ha:a++ax fh rest=tot),Ev G ⟨ZC,⟨(75,.int .i64 ln)::(76,.int .i64 n)::(3,.str a)::(1,.ref 65 1 0)::T,(65,some (1,.cells q.enc))::H,c⟩,[.t 2],0⟩ ⟨.str tot,[]⟩
 | [],done,a,T,H,c,n,e,hn,ha=>by
  have hd:=md0 e;have hll:=ml l Red.enc;obtain rfl:a=tot:=by simpa[ax] using ha
  refine evA ?_;refine ag ?_;rfl
 |x::r,done,a,T,H,c,n,e,hn,ha=>by
  have hd:=md e;have hll:=ml l Red.enc;have hx:=mx Red.enc e hn;have g:=ho x (by simp[e])
  have h1:=bu g.1;have h2:=bu g.2.1;have h3:=pj x.pol;have h5:=bu g.2.2;have h6:=jM x.second;have hx':(q.redist.map Red.enc)[n.toNat]? =some x.enc:=by rw[hq];exact hx
  have hlq:(q.redist.map Red.enc).length=l.length:=by rw[hq];simp
  have hlen:a.length+(fh x).length≤tot.length:=by rw[←ha,ax];simp only[Ar];omega
  have ha2:a++fh x++ax fh r=tot:=by rw[←ha,ax];simp only[AF]
  have h4:=bN [qN,aa x.src,aa x.dst,bQ x.pol,aa x.metric,ynT x.second] (by show 6<2^40;omega) (by rw[←fh];omega)
  rw[←fh] at h4;generalize fh x=w at*;generalize aa x.src=w1 at*;generalize aa x.dst=w2 at*;generalize bQ x.pol=w3 at*;generalize aa x.metric=w4 at*;generalize ynT x.second=w5 at*;refine evl ?_
  repeat' ((conv=>whnf);first|refine bp ?_|refine au ?_|refine kZ [(164,_,_)] ⟨rfl,pz trivial⟩ (h4) ?_|(refine ae ?_ ?_<;>intro h))
  refine ab [75,76,3,1] [65] ?_;exact yE l q hq ho tot htot hl ln hln r (done++[x]) (a++w) _ _ _ (n+1) (by simp[e]) (by simp[hn]<;>omega) ha2
theorem nD (l:List Stat)(q:RConf)(hq:q.stat=l)(ho: ∀x∈l,x.ok)(hr: ∀x∈q.redist,x.ok)(hrl:q.redist.length<2^40)(tot:List UInt8)(htot:(tot++ax fh q.redist).length<2^58)(hl:l.length<2^40)(ln:Int)(hln:ln=l.length): ∀(rest done:List Stat)(a:List UInt8)(T:TV)(H:aw)(c:Nat)(n:Int)(e:l=done++rest)(hn:n=done.length)(ha:a++ax dy rest=tot),Ev G ⟨ZE,⟨(46,.int .i64 ln)::(47,.int .i64 n)::(3,.str a)::(1,.ref 65 1 0)::T,(65,some (1,.cells q.enc))::H,c⟩,[.t 2],0⟩ ⟨.str (tot++ax fh q.redist),[]⟩
 | [],done,a,T,H,c,n,e,hn,ha=>by
  have hd:=md0 e;have hll:=ml l Stat.enc;obtain rfl:a=tot:=by simpa[ax] using ha
  have m1:=ml q.redist Red.enc;refine evA ?_;refine ab [75,76,3,1] [65] ?_;rw[m1];exact yE q.redist q rfl hr _ htot hrl _ rfl q.redist [] a _ _ _ 0 rfl rfl rfl
 |x::r,done,a,T,H,c,n,e,hn,ha=>by
  have hd:=md e;have hll:=ml l Stat.enc;have hx:=mx Stat.enc e hn;have g:=ho x (by simp[e])
  obtain ⟨ea,hua⟩:=dI g.2.1;have h1:ah G 230 [.agg x.pfx.enc] [] ⟨.str (pfT x.pfx),[]⟩:=gG x.pfx g.1;have h2:=gN x.hop.toNat hua;rw[←ea] at h2;have h3:=bu g.2.2;have htt:tot.length<2^58:=by rw[Ar] at htot;omega
  have hx':(q.stat.map Stat.enc)[n.toNat]? =some x.enc:=by rw[hq];exact hx
  have hlq:(q.stat.map Stat.enc).length=l.length:=by rw[hq];simp
  have hlen:a.length+(dy x).length≤tot.length:=by rw[←ha,ax];simp only[Ar];omega
  have ha2:a++dy x++ax dy r=tot:=by rw[←ha,ax];simp only[AF]
  have h4:=bN [qM,pfT x.pfx,qC x.hop,aa x.dist] (by show 4<2^40;omega) (by rw[←dy];omega)
  rw[←dy] at h4;generalize dy x=w at*;generalize pfT x.pfx=w1 at*;generalize aa x.dist=w3 at*
  by_cases e0:x.hop=0
  ·rw[show qC x.hop=Tu from Ad e0] at h4
   refine evl ?_
   repeat' ((conv=>whnf);first|refine qNe0 e0 ?_|refine bp ?_|refine au ?_|refine kZ [(133,_,_)] ⟨rfl,pz trivial⟩ (h4) ?_|(refine ae ?_ ?_<;>intro h))
   refine ab [46,47,3,1] [65] ?_;exact nD l q hq ho hr hrl tot htot hl ln hln r (done++[x]) (a++w) _ _ _ (n+1) (by simp[e]) (by simp[hn]<;>omega) ha2
  ·rw[show qC x.hop=bq x.hop.toNat from Ac e0] at h4
   generalize bq x.hop.toNat=w2 at*;refine evl ?_
   repeat' ((conv=>whnf);first|refine qNe1 e0 ?_|refine bp ?_|refine au ?_|refine kZ [(133,_,_)] ⟨rfl,pz trivial⟩ (h4) ?_|(refine ae ?_ ?_<;>intro h))
   refine ab [46,47,3,1] [65] ?_;exact nD l q hq ho hr hrl tot htot hl ln hln r (done++[x]) (a++w) _ _ _ (n+1) (by simp[e]) (by simp[hn]<;>omega) ha2
theorem Ay (q:RConf)(g:q.po)(L:List (List UInt8))(hL:L.length<2^28)(s:List UInt8)(hs:(s++(bl L++(ax dy q.stat++ax fh q.redist))).length<2^57): ∀(rest done:List Int)(a:List (List UInt8))(b:Nat)(T:TV)(H:aw)(c:Nat)(n:Int)(e:q.dists=done++rest)(hn:n=done.length)(ha:a++rest.map aa=L),
  Ev G ⟨ZF,⟨(26,.int .i64 q.dists.length)::(27,.int .i64 n)::(3,.str s)::(1,.ref 65 1 0)::(4,.vs 87 b a.length)::T,(65,some (1,.cells q.enc))::(87,some (b,.vec 1 (a.map aX)))::H,c⟩,[.t 2],0⟩ ⟨.str (s++(bl L++(ax dy q.stat++ax fh q.redist))),[]⟩
 | [],done,a,b,T,H,c,n,e,hn,ha=>by
  obtain rfl:a=L:=by simpa using ha
  have hd:=md0 e;have m1:=ml a aX;have m2:=ml q.stat Stat.enc;simp only[Ar] at hs;have h4:=bN a (by omega) (by omega)
  generalize bl a=w at*;refine evl ?_
  repeat' ((conv=>whnf);first|refine bp ?_|refine au ?_|refine kZ [(87,_,_)] ⟨rfl,pz trivial⟩ (h4) ?_|(refine ae ?_ ?_<;>intro h))
  refine ab [46,47,3,1] [65] ?_;rw[m2];refine (congrArg (Ev G _) ?_).mp (nD q.stat q rfl g.ss g.rs g.rl (s++w++ax dy q.stat) (by simp only[Ar];omega) g.sl _ rfl q.stat [] (s++w) _ _ _ 0 rfl rfl rfl)
  simp only[AF]
 |x::r,done,a,b,T,H,c,n,e,hn,ha=>by
  have hd:=md e;have m1:=ml a aX;have m2:=ml q.dists bT;have hx:=mx bT e hn;have hdl:=g.dl;have h1:=bu (g.ds x (by simp[e]))
  have hlen:a.length+1+r.length=L.length:=by rw[←ha];simp;omega
  have hz:a.length<2^30:=by omega
  have e1:(a++[aa x]).map aX=a.map aX++[[.str (aa x)]]:=by simp[aX]
  have e2:(a++[aa x]).length=a.length+1:=by simp
  have ih:=fun T H c b=>Ay q g L hL s hs r (done++[x]) (a++[aa x]) b T H c (n+1) (by simp[e]) (by simp[hn]<;>omega) (by rw[←ha];simp)
  rw[e1,e2] at ih;generalize aa x=w at*;refine evA ?_;refine ab [26,27,3,1,4] [65,87] ?_;exact ih _ _ _ _
theorem LG (q:RConf)(g:q.po)(h:(fY q).length<2^56):ah G 412 [.agg q.enc] [] ⟨.str (fY q),[]⟩:=by
 have m1:=ml q.stat Stat.enc;have z1:(bl [ij]).length=7:=rfl;have z2:(bl [gj]).length=8:=rfl;have hlen:(bif q.labels then bl [ij] else []).length+((bif q.reroute then bl [gj] else []).length+((mE q.dists).length+((ax dy q.stat).length+(ax fh q.redist).length)))=(fY q).length:=by unfold fY;simp only[Ar]
 unfold fY
 by_cases hd:q.dists= []
 ·have hp: ¬((q.dists.map bT).length:Int)>0:=by rw[hd];simp
  have hdt:mE q.dists= []:=Ad hd;rw[hdt] at hlen⊢;rcases hl:q.labels with _|_<;>rcases hr:q.reroute with _|_<;>rw[hl,hr] at hlen<;>simp only[cond_true,cond_false,A8] at hlen
  all_goals
   refine gvC (F:=xt) ?_
   repeat' ((conv=>whnf);first|refine bp ?_|refine au ?_|(refine ae ?_ ?_<;>intro h))
   refine ab [46,47,3,1] [65] ?_;rw[m1];refine (congrArg (Ev G _) ?_).mp (nD q.stat q rfl g.ss g.rs g.rl (_++ax dy q.stat) ?_ g.sl _ rfl q.stat [] _ _ _ _ 0 rfl rfl rfl)
   ·simp[bl,jw,spc,ij,gj]
   ·simp only[Ar,A8,As];omega
 ·have hp:((q.dists.map bT).length:Int)>0:=by
   have:q.dists.length≠0:=fun k=>hd (AI k)
   rw[At];omega
  have hdt:mE q.dists=bl (mw::q.dists.map aa):=Ac hd;rw[hdt] at hlen⊢;have m2:=ml q.dists bT;obtain ⟨L,hL⟩: ∃L,L=mw::q.dists.map aa:=⟨_,rfl⟩
  have hdl:L.length<2^28:=by
   have:=g.dl;rw[hL,As,At];omega
  rw[←hL] at hlen⊢;clear hdt;rcases hl:q.labels with _|_<;>rcases hr:q.reroute with _|_<;>rw[hl,hr] at hlen<;>simp only[cond_true,cond_false,A8] at hlen
  all_goals
   refine gvC (F:=xt) ?_
   repeat' ((conv=>whnf);first|refine bp ?_|refine au ?_|(refine ae ?_ ?_<;>intro h))
   refine ab [26,27,3,1,4] [65,87] ?_;rw[m2];refine (congrArg (Ev G _) ?_).mp (Ay q g L hdl _ ?_ q.dists [] [mw] _ _ _ _ 0 rfl rfl hL.symm)
   ·simp[bl,jw,spc,ij,gj]
   ·simp only[Ar,A8,As];omega
end Go.AM.IR
namespace Go.AM.IR
def du:List UInt8→Nat
 | []=>0
 |b::r=>(if b=10 then 1 else 0)+du r
theorem rb: ∀s:List UInt8,du s≤s.length
 | []=>by simp[du]
 |b::r=>by
  have:=rb r;rw[du,As];split<;>omega
theorem qE (s:List UInt8)(hs:s.length<2^40): ∀(rest done:List UInt8)(k:Int)(T:TV)(H:aw)(c:Nat)(n:Int)(e:s=done++rest)(hn:n=done.length)(hk:k+(du rest:Nat)=(du s:Nat))(h0:0≤k),
  Ev G ⟨adg,⟨(7,.int .i64 n)::(3,.int .i64 k)::(0,.str s)::(6,.int .i64 s.length)::T,H,c⟩,[.t 2],0⟩ ⟨.int .i64 ((du s:Nat):Int),[]⟩
 | [],done,k,T,H,c,n,e,hn,hk,h0=>by
  have hd:=md0 e;obtain rfl:k=((du s:Nat):Int):=by rw[du] at hk;simpa using hk
  refine evA ?_;refine ag ?_;rfl
 |x::rest,done,k,T,H,c,n,e,hn,hk,h0=>by
  have hd:=md e;have hb:=idx_at e hn;have hc:=rb s;rw[du] at hk
  by_cases h1:x=10
  ·have hx:(x.toNat:Int)=10:=by rw[h1];rfl
   rw[Ad h1] at hk;have ih:=fun T H c=>qE s hs rest (done++[x]) (k+1) T H c (n+1) (by simp[e]) (by simp[hn]) (by omega) (by omega)
   generalize du s=tot at*;refine evl ?_
   repeat' ((conv=>whnf);first|refine zIstr ?_ hb (by omega)|refine bj hx ?_|refine au ?_|(refine ae ?_ ?_<;>intro h))
   refine ab [7,3,0,6] [] ?_;exact ih _ _ _
  ·have hx: ¬(x.toNat:Int)=10:=fun q=>h1 (A7.1 (by show x.toNat=10;omega))
   rw[Ac h1] at hk;have ih:=fun T H c=>qE s hs rest (done++[x]) k T H c (n+1) (by simp[e]) (by simp[hn]) (by omega) h0
   generalize du s=tot at*;refine evl ?_
   repeat' ((conv=>whnf);first|refine zIstr ?_ hb (by omega)|refine aY hx ?_|refine au ?_|(refine ae ?_ ?_<;>intro h))
   refine ab [7,3,0,6] [] ?_;exact ih _ _ _
theorem Oz (s:List UInt8)(hs:s.length<2^40):ah G 407 [.str s] [] ⟨.int .i64 ((du s:Nat):Int),[]⟩:=by
 refine gvB (F:=Wn) ?_;refine ab [7,3,0,6] [] ?_;exact qE s hs s [] 0 _ _ _ 0 rfl rfl (by omega) (by omega)
theorem qD (s:List UInt8)(hs:s.length<2^40): ∀(rest done:List UInt8)(k:Int)(T:TV)(H:aw)(c:Nat)(n:Int)(e:s=done++rest)(hn:n=done.length)(hk:k+(du rest:Nat)=(du s:Nat))(h0:0≤k),
  Ev G ⟨adb,⟨(7,.int .i64 n)::(3,.int .i64 k)::(0,.str s)::(6,.int .i64 s.length)::T,H,c⟩,[.t 2],0⟩ ⟨.int .i64 ((du s:Nat):Int),[]⟩
 | [],done,k,T,H,c,n,e,hn,hk,h0=>by
  have hd:=md0 e;obtain rfl:k=((du s:Nat):Int):=by rw[du] at hk;simpa using hk
  refine evA ?_;refine ag ?_;rfl
 |x::rest,done,k,T,H,c,n,e,hn,hk,h0=>by
  have hd:=md e;have hb:=idx_at e hn;have hc:=rb s;rw[du] at hk
  by_cases h1:x=10
  ·have hx:(x.toNat:Int)=10:=by rw[h1];rfl
   rw[Ad h1] at hk;have ih:=fun T H c=>qD s hs rest (done++[x]) (k+1) T H c (n+1) (by simp[e]) (by simp[hn]) (by omega) (by omega)
   generalize du s=tot at*;refine evl ?_
   repeat' ((conv=>whnf);first|refine zIstr ?_ hb (by omega)|refine bj hx ?_|refine au ?_|(refine ae ?_ ?_<;>intro h))
   refine ab [7,3,0,6] [] ?_;exact ih _ _ _
  ·have hx: ¬(x.toNat:Int)=10:=fun q=>h1 (A7.1 (by show x.toNat=10;omega))
   rw[Ac h1] at hk;have ih:=fun T H c=>qD s hs rest (done++[x]) k T H c (n+1) (by simp[e]) (by simp[hn]) (by omega) h0
   generalize du s=tot at*;refine evl ?_
   repeat' ((conv=>whnf);first|refine zIstr ?_ hb (by omega)|refine aY hx ?_|refine au ?_|(refine ae ?_ ?_<;>intro h))
   refine ab [7,3,0,6] [] ?_;exact ih _ _ _
theorem Oy (s:List UInt8)(hs:s.length<2^40):ah G 415 [.str s] [] ⟨.int .i64 ((du s:Nat):Int),[]⟩:=by
 refine gvB (F:=Wl) ?_;refine ab [7,3,0,6] [] ?_;exact qD s hs s [] 0 _ _ _ 0 rfl rfl (by omega) (by omega)
def jY (s:List UInt8):List UInt8:=if s= [] then [] else bl [nz,aa ((du s:Nat):Int)]++s
def rcT (q:RConf):List UInt8:=lsT q.name q.ls++fY q++(bif q.hasPV then pvT q.pv else [])++jY (dW q.pv.pols)
def rnm (t:Topo)(i:Int):List UInt8:=match t.routers[i.toNat]? with
 |some q=>q.name
 |none=>[]
def fQ (t:Topo)(x:LEnd):List UInt8:=rnm t x.router++[58]++aa x.ifc
def fF (t:Topo)(y:Lnk):List UInt8:=bl ([jU,aa y.delay]++y.ends.map (fQ t))
def J3 (q:RConf):Bool:=decide (65536<(dW q.pv.pols).length)
structure RConf.pp (q:RConf):Prop where
 ls:q.ls.pt
 po:q.po
 pv:q.hasPV=true→q.pv.pt
 ch:ca q.pv.pols=0
 bk:bkL q.pv.pols.enc≤1048576
 ok:q.pv.pols.ok
structure Lnk.pp (t:Topo)(y:Lnk):Prop where
 de:okI y.delay
 el:y.ends.length<2^20
 es: ∀x∈y.ends,okI x.ifc∧0≤x.router∧ ∃r,t.routers[x.router.toNat]? =some r
def Cq (tot:List UInt8):Ret:=if 65536<tot.length then ⟨.tup [.str [],.int .i64 4],[]⟩ else ⟨.tup [.str tot,.int .i64 0],[]⟩
theorem Sa {x:List UInt8}: ∀{L:List (List UInt8)},x∈L→x.length≤(spc L).length
 |y::r,h=>by
  rw[spc,Ar,Ar];rcases AK.1 h with rfl|h
  ·omega
  ·have:=Sa h;omega
theorem FG {x:List UInt8}{L:List (List UInt8)}{b:Nat}(h:x∈L)(hb:(bl L).length<b):x.length<b:=by
 unfold bl at hb;rw[Ar] at hb;cases L with
 |nil=>cases h
 |cons y r=>
  rw[jw,Ar] at hb;rcases AK.1 h with rfl|h
  ·omega
  ·have:=Sa h;omega
theorem Ah (t:Topo)(ht:t.routers.length<2^40)(y:Lnk)(g:y.pp t)(L:List (List UInt8))(hL:L.length<2^28)(ls:List (List AV))(len i:Int)(hi:0≤i∧i<2^40)(g5:Nat)(s:List UInt8)(hs:(s++bl L).length<2^57)(R:Ret)
  (go: ∀(T:TV)(H:aw)(c:Nat),Ev G ⟨GG,⟨(69,.sl 2 ls)::(70,.int .i64 len)::(71,.int .i64 (i+1))::(5,.ref 85 g5 0)::(1,.ref 65 1 0)::T,(85,some (g5,.cells [.str (s++bl L)]))::(65,some (1,.cells t.enc))::H,c⟩,[.t 2,.t 3],0⟩ R): ∀(rest done:List LEnd)(a:List (List UInt8))(b:Nat)(T:TV)(H:aw)(c:Nat)(n:Int)(e:y.ends=done++rest)(hn:n=done.length)(ha:a++rest.map (fQ t)=L),
  Ev G ⟨aag,⟨(81,.sl 2 (y.ends.map LEnd.enc))::(82,.int .i64 y.ends.length)::(83,.int .i64 n)::(1,.ref 65 1 0)::(12,.vs 139 b a.length)::(5,.ref 85 g5 0)::(69,.sl 2 ls)::(70,.int .i64 len)::(71,.int .i64 i)::T,(65,some (1,.cells t.enc))::(139,some (b,.vec 1 (a.map aX)))::(85,some (g5,.cells [.str s]))::H,c⟩,[.t 2,.t 3],0⟩ R
 | [],done,a,b,T,H,c,n,e,hn,ha=>by
  obtain rfl:a=L:=by simpa using ha
  have hd:=md0 e;have m1:=ml a aX;have h4:=bz a (by omega) s (by omega)
  generalize s++bl a=w at*;refine evl ?_
  repeat' (first|refine bc ?_|refine kX [(85,_,_)] [(139,_,_)] ⟨rfl,trivial⟩ ⟨rfl,pz trivial⟩ (h4) ?_|(refine ae ?_ ?_<;>intro h))
  refine ab [69,70,71,5,1] [85,65] ?_;exact go _ _ _
 |x::r,done,a,b,T,H,c,n,e,hn,ha=>by
  have hd:=md e;have hel:=g.el;have m1:=ml a aX;have m2:=ml y.ends LEnd.enc;have m3:=ml t.routers RConf.enc;have hx:=mx LEnd.enc e hn;obtain ⟨k1,k2,q,k3⟩:=g.es x (by simp[e])
  have hq:(t.routers.map RConf.enc)[x.router.toNat]? =some q.enc:=by simp[k3]
  have hql:x.router.toNat<t.routers.length:=(Az.1 k3).1;have hrn:fQ t x=q.name++[58]++aa x.ifc:=by rw[fQ,rnm,k3]
  have h1:=bA k1;have hlen:a.length+1+r.length=L.length:=by rw[←ha];simp;omega
  have hz:a.length<2^30:=by omega
  have hE:(fQ t x).length<2^57:=FG (L:=L) (by rw[←ha];simp) (by rw[Ar] at hs;omega)
  have hE2:(fQ t x).length=q.name.length+1+(aa x.ifc).length:=by rw[hrn];simp only[Ar];rfl
  have e1:(a++[fQ t x]).map aX=a.map aX++[[.str (q.name++[58]++aa x.ifc)]]:=by rw[hrn];simp[aX]
  have e2:(a++[fQ t x]).length=a.length+1:=by simp
  have ih:=fun T H c b=>Ah t ht y g L hL ls len i hi g5 s hs R go r (done++[x]) (a++[fQ t x]) b T H c (n+1) (by simp[e]) (by simp[hn]<;>omega) (by rw[←ha];simp)
  rw[e1,e2] at ih;generalize aa x.ifc=w at*;refine evl ?_
  repeat' ((conv=>whnf);first|refine bp ?_|refine au ?_|(refine ae ?_ ?_<;>intro h))
  refine ab [81,82,83,1,12,5,69,70,71] [65,139,85] ?_;exact ih _ _ _ _
end Go.AM.IR
namespace Go.AM.IR
theorem zm (l:List Lnk)(t:Topo)(ht:t.routers.length<2^40)(ho: ∀x∈l,x.pp t)(tot:List UInt8)(htot:tot.length<2^57)(g5:Nat)(hl:l.length<2^40)(ln:Int)(hln:ln=l.length): ∀(rest done:List Lnk)(a:List UInt8)(T:TV)(H:aw)(c:Nat)(n:Int)(e:l=done++rest)(hn:n=done.length)(ha:a++ax (fF t) rest=tot),Ev G ⟨GG,⟨(69,.sl 2 (l.map Lnk.enc))::(70,.int .i64 ln)::(71,.int .i64 n)::(5,.ref 85 g5 0)::(1,.ref 65 1 0)::T,(85,some (g5,.cells [.str a]))::(65,some (1,.cells t.enc))::H,c⟩,[.t 2,.t 3],0⟩ (Cq tot)
 | [],done,a,T,H,c,n,e,hn,ha=>by
  have hd:=md0 e;have hll:=ml l Lnk.enc;obtain rfl:a=tot:=by simpa[ax] using ha
  unfold Cq
  by_cases z:65536<a.length
  ·rw[Ad z]
   have z2:(a.length:Int)>65536:=by omega
   refine evA ?_;refine ag ?_;rfl
  ·rw[Ac z]
   have z2: ¬(a.length:Int)>65536:=by omega
   refine evA ?_;refine ag ?_;rfl
 |x::r,done,a,T,H,c,n,e,hn,ha=>by
  have hd:=md e;have hll:=ml l Lnk.enc;have hx:=mx Lnk.enc e hn;have g:=ho x (by simp[e])
  have hel:=g.el;have m1:=ml x.ends LEnd.enc;have hlen:a.length+(fF t x).length≤tot.length:=by rw[←ha,ax];simp only[Ar];omega
  have ha2:a++fF t x++ax (fF t) r=tot:=by rw[←ha,ax];simp only[AF]
  have hn:ah G 408 [.vs 0 0 1,.vs 1 0 1] [.vec 1 [[.str jU]],.vec 1 [[.int .i64 x.delay]]] ⟨.vs 0 0 2,[(false,.vec 1 [[.str jU],[.str (aa x.delay)]]),(true,.vec 1 [[.int .i64 x.delay]])]⟩:=gr [x.delay] (aem g.de) (by show 1<2^20;omega) (by simp) [jU] (by show 1<2^20;omega)
  refine evl ?_
  repeat' (first|refine bc ?_|refine kX [(139,_,_),(142,_,_)] [] ⟨rfl,rfl,trivial⟩ trivial (hn) ?_|(refine ae ?_ ?_<;>intro h))
  refine ab [81,82,83,1,12,5,69,70,71] [65,139,85] ?_;rw[m1];refine Ah t ht x g ([jU,aa x.delay]++x.ends.map (fQ t)) (by rw[Ar,At];show 2+_<_;omega) _ _ n (by omega) g5 a (by rw[Ar,←fF];omega) _ (fun T H c=>?_) x.ends [] [jU,aa x.delay] _ _ _ _ 0 rfl rfl rfl
  rw[←fF];exact zm l t ht ho tot htot g5 hl ln hln r (done++[x]) (a++fF t x) T H c (n+1) (by simp[e]) (by simp[hn]<;>omega) ha2
def TD:Ret:=⟨.tup [.str [],.int .i64 4],[]⟩
def nf (lk:List UInt8)(a:List UInt8)(l:List RConf):Ret:=if l.any J3=true then TD else Cq (a++ax rcT l++lk)
theorem yu (l:List RConf)(t:Topo)(ht:t.routers.length<2^40)(hq:t.routers=l)(ho: ∀x∈l,x.pp)(hlo: ∀y∈t.links,y.pp t)(hll2:t.links.length<2^40)(R:Ret)(g5:Nat)(hl:l.length<2^40)(ln:Int)(hln:ln=l.length): ∀(rest done:List RConf)(a:List UInt8)(T:TV)(H:aw)(c:Nat)(n:Int)(e:l=done++rest)(hn:n=done.length)(hR:nf (ax (fF t) t.links) a rest=R)(hb:(a++ax rcT rest++ax (fF t) t.links).length<2^56),Ev G ⟨aah,⟨(23,.sl 25 (l.map RConf.enc))::(24,.int .i64 ln)::(25,.int .i64 n)::(5,.ref 85 g5 0)::(1,.ref 65 1 0)::T,(85,some (g5,.cells [.str a]))::(65,some (1,.cells t.enc))::H,c⟩,[.t 2,.t 3],0⟩ R
 | [],done,a,T,H,c,n,e,hn,hR,hb=>by
  have hd:=md0 e;have hll:=ml l RConf.enc;have m1:=ml t.links Lnk.enc;rw[nf,List.any_nil,Ac (by decide),ax,Bs] at hR
  rw[ax,Bs] at hb;refine evA ?_;refine ab [69,70,71,5,1] [85,65] ?_;rw[m1,←hR];exact zm t.links t ht hlo (a++ax (fF t) t.links) (by omega) g5 hll2 _ rfl t.links [] a _ _ _ 0 rfl rfl rfl
 |x::r,done,a,T,H,c,n,e,hn,hR,hb=>by
  have hd:=md e;have hll:=ml l RConf.enc;have hx:=mx RConf.enc e hn;have g:=ho x (by simp[e])
  have h4:=KY x.pv.pols g.bk g.ok;rw[BZ,Ad g.ch] at h4;rw[ax] at hb;have hrl:(rcT x).length=(lsT x.name x.ls).length+(fY x).length+(bif x.hasPV then pvT x.pv else []).length+(jY (dW x.pv.pols)).length:=by unfold rcT;simp only[Ar]
  simp only[Ar] at hb;have h1:=QV x g.ls a (by simp only[Ar];omega)
  have h2:=LJ x g.po (a++lsT x.name x.ls) (by simp only[Ar];omega)
  by_cases z:65536<(dW x.pv.pols).length
  ·have hR2:R=TD:=by rw[←hR,nf,Ad (by rw[AN,J3,Al z];rfl)]
   rw[hR2];rw[Ad z] at h4;cases hv:x.hasPV
   ·refine evl ?_
    repeat' (first|refine bc ?_|refine kX [(85,_,_)] [] ⟨rfl,trivial⟩ trivial (h1) ?_|refine kX [(85,_,_)] [] ⟨rfl,trivial⟩ trivial (h2) ?_|(refine ae ?_ ?_<;>intro h))
    refine ag ?_;rfl
   ·have h3:=qr x.pv (g.pv hv) (a++lsT x.name x.ls++fY x) (by rw[hv] at hrl;simp only[cond_true] at hrl;simp only[Ar];omega)
    refine evl ?_
    repeat' (first|refine bc ?_|refine kX [(85,_,_)] [] ⟨rfl,trivial⟩ trivial (h1) ?_|refine kX [(85,_,_)] [] ⟨rfl,trivial⟩ trivial (h2) ?_|refine kX [(85,_,_)] [] ⟨rfl,trivial⟩ trivial (h3) ?_|(refine ae ?_ ?_<;>intro h))
    refine ag ?_;rfl
  ·rw[Ac z] at h4
   have ih:=fun T H c=>yu l t ht hq ho hlo hll2 R g5 hl ln hln r (done++[x]) (a++rcT x) T H c (n+1) (by simp[e]) (by simp[hn]<;>omega) (by rw[←hR,nf,nf,AN,J3,An z,BS,ax];simp only[AF]) (by simp only[Ar];omega)
   have hcl:=rb (dW x.pv.pols);have h5:=Oz (dW x.pv.pols) (by omega)
   have h6:=bA (n:=((du (dW x.pv.pols):Nat):Int)) (by unfold okI;omega)
   have hrc:rcT x=lsT x.name x.ls++fY x++(bif x.hasPV then pvT x.pv else [])++jY (dW x.pv.pols):=rfl
   rw[hrc] at ih;have hpl: ∀s,s≠ []→jY s=bl [nz,aa ((du s:Nat):Int)]++s:=fun s k=>Ac k
   by_cases s0:dW x.pv.pols= []
   ·rw[s0] at h4
    rw[show jY (dW x.pv.pols)= [] from Ad s0] at ih hrl
    cases hv:x.hasPV
    ·rw[hv] at ih hrl
     simp only[cond_false,Bs] at ih;simp only[←AF] at ih;refine evl ?_
     repeat' (first|refine bc ?_|refine kX [(85,_,_)] [] ⟨rfl,trivial⟩ trivial (h1) ?_|refine kX [(85,_,_)] [] ⟨rfl,trivial⟩ trivial (h2) ?_|(refine ae ?_ ?_<;>intro h))
     refine ab [23,24,25,5,1] [85,65] ?_;exact ih _ _ _
    ·rw[hv] at ih hrl
     simp only[cond_true,Bs] at ih hrl;simp only[←AF] at ih;have h3:=qr x.pv (g.pv hv) (a++lsT x.name x.ls++fY x) (by simp only[Ar];omega)
     refine evl ?_
     repeat' (first|refine bc ?_|refine kX [(85,_,_)] [] ⟨rfl,trivial⟩ trivial (h1) ?_|refine kX [(85,_,_)] [] ⟨rfl,trivial⟩ trivial (h2) ?_|refine kX [(85,_,_)] [] ⟨rfl,trivial⟩ trivial (h3) ?_|(refine ae ?_ ?_<;>intro h))
     refine ab [23,24,25,5,1] [85,65] ?_;exact ih _ _ _
   ·rw[hpl _ s0] at ih hrl
    simp only[Ar] at hrl;generalize dW x.pv.pols=s at*;generalize aa ((du s:Nat):Int)=w at*;generalize du s=k at*;cases hv:x.hasPV
    ·rw[hv] at ih hrl
     simp only[cond_false,Bs,A8] at ih hrl;simp only[←AF] at ih;have h7:=bz [nz,w] (by show 2<2^40;omega) (a++lsT x.name x.ls++fY x) (by simp only[Ar];omega)
     refine evl ?_
     repeat' ((conv=>whnf);first|refine gy s0 ?_|refine bp ?_|refine au ?_|refine kX [(85,_,_)] [] ⟨rfl,trivial⟩ trivial (h1) ?_|refine kX [(85,_,_)] [] ⟨rfl,trivial⟩ trivial (h2) ?_|refine kX [(85,_,_)] [(121,_,_)] ⟨rfl,trivial⟩ ⟨rfl,pz trivial⟩ (h7) ?_|(refine ae ?_ ?_<;>intro h))
     refine ab [23,24,25,5,1] [85,65] ?_;exact ih _ _ _
    ·rw[hv] at ih hrl
     simp only[cond_true] at ih hrl;simp only[←AF] at ih;have h3:=qr x.pv (g.pv hv) (a++lsT x.name x.ls++fY x) (by simp only[Ar];omega)
     have h7:=bz [nz,w] (by show 2<2^40;omega) (a++lsT x.name x.ls++fY x++pvT x.pv) (by simp only[Ar];omega)
     refine evl ?_
     repeat' ((conv=>whnf);first|refine gy s0 ?_|refine bp ?_|refine au ?_|refine kX [(85,_,_)] [] ⟨rfl,trivial⟩ trivial (h1) ?_|refine kX [(85,_,_)] [] ⟨rfl,trivial⟩ trivial (h2) ?_|refine kX [(85,_,_)] [] ⟨rfl,trivial⟩ trivial (h3) ?_|refine kX [(85,_,_)] [(121,_,_)] ⟨rfl,trivial⟩ ⟨rfl,pz trivial⟩ (h7) ?_|(refine ae ?_ ?_<;>intro h))
     refine ab [23,24,25,5,1] [85,65] ?_;exact ih _ _ _
end Go.AM.IR
namespace Go.AM.IR
theorem Ag (t:Topo)(ht:t.routers.length<2^40)(y:Lnk)(g:y.pp t)(L:List (List UInt8))(hL:L.length<2^28)(i:Int)(hi:0≤i∧i<2^40)(len:Int)(g11:Nat)(s:List UInt8)(hs:(s++bl L).length<2^57)(R:Ret)
  (go: ∀(T:TV)(H:aw)(c:Nat),Ev G ⟨GF,⟨(79,.int .i64 len)::(80,.int .i64 (i+1))::(5,.str (s++bl L))::(1,.ref 65 1 0)::T,(65,some (1,.cells t.enc))::H,c⟩,[.t 2,.t 3],0⟩ R): ∀(rest done:List LEnd)(a:List (List UInt8))(b:Nat)(T:TV)(H:aw)(c:Nat)(n:Int)(e:y.ends=done++rest)(hn:n=done.length)(ha:a++rest.map (fQ t)=L),
  Ev G ⟨aae,⟨(94,.int .i64 y.ends.length)::(95,.int .i64 n)::(1,.ref 65 1 0)::(12,.vs 155 b a.length)::(11,.ref 75 g11 0)::(5,.str s)::(79,.int .i64 len)::(80,.int .i64 i)::T,(65,some (1,.cells t.enc))::(155,some (b,.vec 1 (a.map aX)))::(75,some (g11,.cells y.enc))::H,c⟩,[.t 2,.t 3],0⟩ R
 | [],done,a,b,T,H,c,n,e,hn,ha=>by
  obtain rfl:a=L:=by simpa using ha
  have hd:=md0 e;have m1:=ml a aX;rw[Ar] at hs;have h4:=bN a (by omega) (by omega)
  generalize bl a=w at*;refine evl ?_
  repeat' ((conv=>whnf);first|refine bp ?_|refine au ?_|refine kZ [(155,_,_)] ⟨rfl,pz trivial⟩ (h4) ?_|(refine ae ?_ ?_<;>intro h))
  refine ab [79,80,5,1] [65] ?_;exact go _ _ _
 |x::r,done,a,b,T,H,c,n,e,hn,ha=>by
  have hd:=md e;have hel:=g.el;have m1:=ml a aX;have m2:=ml y.ends LEnd.enc;have m3:=ml t.routers RConf.enc;have hx:=mx LEnd.enc e hn;obtain ⟨k1,k2,q,k3⟩:=g.es x (by simp[e])
  have hq:(t.routers.map RConf.enc)[x.router.toNat]? =some q.enc:=by simp[k3]
  have hql:x.router.toNat<t.routers.length:=(Az.1 k3).1;have hrn:fQ t x=q.name++[58]++aa x.ifc:=by rw[fQ,rnm,k3]
  have h1:=bu k1;have hlen:a.length+1+r.length=L.length:=by rw[←ha];simp;omega
  have hz:a.length<2^30:=by omega
  have hE:(fQ t x).length<2^57:=FG (L:=L) (by rw[←ha];simp) (by rw[Ar] at hs;omega)
  have hE2:(fQ t x).length=q.name.length+1+(aa x.ifc).length:=by rw[hrn];simp only[Ar];rfl
  have e1:(a++[fQ t x]).map aX=a.map aX++[[.str (q.name++[58]++aa x.ifc)]]:=by rw[hrn];simp[aX]
  have e2:(a++[fQ t x]).length=a.length+1:=by simp
  have ih:=fun T H c b=>Ag t ht y g L hL i hi len g11 s hs R go r (done++[x]) (a++[fQ t x]) b T H c (n+1) (by simp[e]) (by simp[hn]<;>omega) (by rw[←ha];simp)
  rw[e1,e2] at ih;generalize aa x.ifc=w at*;refine evl ?_
  repeat' ((conv=>whnf);first|refine bp ?_|refine au ?_|(refine ae ?_ ?_<;>intro h))
  refine ab [94,95,1,12,11,5,79,80] [65,155,75] ?_;exact ih _ _ _ _
theorem zl (l:List Lnk)(t:Topo)(ht:t.routers.length<2^40)(hq:t.links=l)(ho: ∀x∈l,x.pp t)(tot:List UInt8)(htot:tot.length<2^57)(hl:l.length<2^40)(ln:Int)(hln:ln=l.length): ∀(rest done:List Lnk)(a:List UInt8)(T:TV)(H:aw)(c:Nat)(n:Int)(e:l=done++rest)(hn:n=done.length)(ha:a++ax (fF t) rest=tot),Ev G ⟨GF,⟨(79,.int .i64 ln)::(80,.int .i64 n)::(5,.str a)::(1,.ref 65 1 0)::T,(65,some (1,.cells t.enc))::H,c⟩,[.t 2,.t 3],0⟩ (Cq tot)
 | [],done,a,T,H,c,n,e,hn,ha=>by
  have hd:=md0 e;have hll:=ml l Lnk.enc;obtain rfl:a=tot:=by simpa[ax] using ha
  unfold Cq
  by_cases z:65536<a.length
  ·rw[Ad z]
   have z2:(a.length:Int)>65536:=by omega
   refine evA ?_;refine ag ?_;rfl
  ·rw[Ac z]
   have z2: ¬(a.length:Int)>65536:=by omega
   refine evA ?_;refine ag ?_;rfl
 |x::r,done,a,T,H,c,n,e,hn,ha=>by
  have hd:=md e;have hll:=ml l Lnk.enc;have hx:=mx Lnk.enc e hn;have g:=ho x (by simp[e])
  have hel:=g.el;have m1:=ml x.ends LEnd.enc;have hx':(t.links.map Lnk.enc)[n.toNat]? =some x.enc:=by rw[hq];exact hx
  have hlq:(t.links.map Lnk.enc).length=l.length:=by rw[hq];simp
  have hlen:a.length+(fF t x).length≤tot.length:=by rw[←ha,ax];simp only[Ar];omega
  have ha2:a++fF t x++ax (fF t) r=tot:=by rw[←ha,ax];simp only[AF]
  have h1:=bu g.de;refine evA ?_;refine ab [94,95,1,12,11,5,79,80] [65,155,75] ?_;rw[m1];refine Ag t ht x g ([jU,aa x.delay]++x.ends.map (fQ t)) (by rw[Ar,At];show 2+_<_;omega) n (by omega) _ _ a (by rw[Ar,←fF];omega) _ (fun T H c=>?_) x.ends [] [jU,aa x.delay] _ _ _ _ 0 rfl rfl rfl
  rw[←fF];exact zl l t ht hq ho tot htot hl ln hln r (done++[x]) (a++fF t x) T H c (n+1) (by simp[e]) (by simp[hn]<;>omega) ha2
theorem yt (l:List RConf)(t:Topo)(ht:t.routers.length<2^40)(hq:t.routers=l)(ho: ∀x∈l,x.pp)(hlo: ∀y∈t.links,y.pp t)(hll2:t.links.length<2^40)(R:Ret)(hl:l.length<2^40)(ln:Int)(hln:ln=l.length): ∀(rest done:List RConf)(a:List UInt8)(T:TV)(H:aw)(c:Nat)(n:Int)(e:l=done++rest)(hn:n=done.length)(hR:nf (ax (fF t) t.links) a rest=R)(hb:(a++ax rcT rest++ax (fF t) t.links).length<2^56),Ev G ⟨aaf,⟨(21,.int .i64 ln)::(22,.int .i64 n)::(5,.str a)::(1,.ref 65 1 0)::T,(65,some (1,.cells t.enc))::H,c⟩,[.t 2,.t 3],0⟩ R
 | [],done,a,T,H,c,n,e,hn,hR,hb=>by
  have hd:=md0 e;have hll:=ml l RConf.enc;have m1:=ml t.links Lnk.enc;rw[nf,List.any_nil,Ac (by decide),ax,Bs] at hR
  rw[ax,Bs] at hb;refine evA ?_;refine ab [79,80,5,1] [65] ?_;rw[m1,←hR];exact zl t.links t ht rfl hlo (a++ax (fF t) t.links) (by omega) hll2 _ rfl t.links [] a _ _ _ 0 rfl rfl rfl
 |x::r,done,a,T,H,c,n,e,hn,hR,hb=>by
  have hd:=md e;have hll:=ml l RConf.enc;have hx:=mx RConf.enc e hn;have g:=ho x (by simp[e])
  have hx':(t.routers.map RConf.enc)[n.toNat]? =some x.enc:=by rw[hq];exact hx
  have hlq:(t.routers.map RConf.enc).length=l.length:=by rw[hq];simp
  have h4:=KX x.pv.pols g.bk g.ok;rw[BZ,Ad g.ch] at h4;rw[ax] at hb;have hrl:(rcT x).length=(lsT x.name x.ls).length+(fY x).length+(bif x.hasPV then pvT x.pv else []).length+(jY (dW x.pv.pols)).length:=by unfold rcT;simp only[Ar]
  have hls:lsT x.name x.ls=bl [e8,x.name,aa x.ls.router]++wE x.ls:=rfl;have ub:=pW g.ls.rt;have h0:=bu (mA g.ls.rt);simp only[Ar] at hb;have hl2:(lsT x.name x.ls).length=(bl [e8,x.name,aa x.ls.router]).length+(wE x.ls).length:=by rw[hls,Ar]
  have h8:=bN [e8,x.name,aa x.ls.router] (by show 3<2^40;omega) (by omega)
  have h1:=QU x.ls g.ls (by omega)
  have h2:=LG x g.po (by omega)
  have ih:=fun (k: ¬65536<(dW x.pv.pols).length) T H c=>yt l t ht hq ho hlo hll2 R hl ln hln r (done++[x]) (a++rcT x) T H c (n+1) (by simp[e]) (by simp[hn]<;>omega) (by rw[←hR,nf,nf,AN,J3,An k,BS,ax];simp only[AF]) (by simp only[Ar];omega)
  have hrc:rcT x=bl [e8,x.name,aa x.ls.router]++wE x.ls++fY x++(bif x.hasPV then pvT x.pv else [])++jY (dW x.pv.pols):=rfl
  rw[hrc] at ih;have hR2:65536<(dW x.pv.pols).length→R=TD:=fun z=>by rw[←hR,nf,Ad (by rw[AN,J3,Al z];rfl)]
  clear hR hls;generalize bl [e8,x.name,aa x.ls.router]=w0 at*;generalize aa x.ls.router=w1 at*;generalize wE x.ls=w2 at*;generalize fY x=w3 at*
  by_cases z:65536<(dW x.pv.pols).length
  ·rw[hR2 z]
   rw[Ad z] at h4;cases hv:x.hasPV
   ·refine evl ?_
    repeat' ((conv=>whnf);first|refine bp ?_|refine au ?_|refine kZ [(102,_,_)] ⟨rfl,pz trivial⟩ (h8) ?_|(refine ae ?_ ?_<;>intro h))
    refine ag ?_;rfl
   ·have h3:=qq x.pv (g.pv hv) (by rw[hv] at hrl;simp only[cond_true] at hrl;omega)
    rw[hv] at hrl;simp only[cond_true] at hrl;generalize pvT x.pv=w4 at*;refine evl ?_
    repeat' ((conv=>whnf);first|refine bp ?_|refine au ?_|refine kZ [(102,_,_)] ⟨rfl,pz trivial⟩ (h8) ?_|(refine ae ?_ ?_<;>intro h))
    refine ag ?_;rfl
  ·rw[Ac z] at h4
   replace ih:=ih z;have hcl:=rb (dW x.pv.pols);have h5:=Oy (dW x.pv.pols) (by omega)
   have h6:=bu (n:=((du (dW x.pv.pols):Nat):Int)) (by unfold okI;omega)
   have hpl: ∀s,s≠ []→jY s=bl [nz,aa ((du s:Nat):Int)]++s:=fun s k=>Ac k
   by_cases s0:dW x.pv.pols= []
   ·rw[s0] at h4
    rw[show jY (dW x.pv.pols)= [] from Ad s0] at ih hrl
    cases hv:x.hasPV
    ·rw[hv] at ih hrl
     simp only[cond_false,Bs] at ih;simp only[←AF] at ih;refine evl ?_
     repeat' ((conv=>whnf);first|refine bp ?_|refine au ?_|refine kZ [(102,_,_)] ⟨rfl,pz trivial⟩ (h8) ?_|(refine ae ?_ ?_<;>intro h))
     refine ab [21,22,5,1] [65] ?_;exact ih _ _ _
    ·rw[hv] at ih hrl
     simp only[cond_true,Bs] at ih hrl;simp only[←AF] at ih;have h3:=qq x.pv (g.pv hv) (by omega)
     generalize pvT x.pv=w4 at*;refine evl ?_
     repeat' ((conv=>whnf);first|refine bp ?_|refine au ?_|refine kZ [(102,_,_)] ⟨rfl,pz trivial⟩ (h8) ?_|(refine ae ?_ ?_<;>intro h))
     refine ab [21,22,5,1] [65] ?_;exact ih _ _ _
   ·rw[hpl _ s0] at ih hrl
    simp only[Ar] at hrl;have h7:=bN [nz,aa ((du (dW x.pv.pols):Nat):Int)] (by show 2<2^40;omega) (by omega)
    generalize dW x.pv.pols=s at*;generalize bl [nz,aa ((du s:Nat):Int)]=w5 at*;generalize aa ((du s:Nat):Int)=w at*;generalize du s=k at*;cases hv:x.hasPV
    ·rw[hv] at ih hrl
     simp only[cond_false,Bs,A8] at ih hrl;simp only[←AF] at ih;refine evl ?_
     repeat' ((conv=>whnf);first|refine gy s0 ?_|refine bp ?_|refine au ?_|refine kZ [(102,_,_)] ⟨rfl,pz trivial⟩ (h8) ?_|refine kZ [(135,_,_)] ⟨rfl,pz trivial⟩ (h7) ?_|(refine ae ?_ ?_<;>intro h))
     refine ab [21,22,5,1] [65] ?_;exact ih _ _ _
    ·rw[hv] at ih hrl
     simp only[cond_true] at ih hrl;simp only[←AF] at ih;have h3:=qq x.pv (g.pv hv) (by omega)
     generalize pvT x.pv=w4 at*;refine evl ?_
     repeat' ((conv=>whnf);first|refine gy s0 ?_|refine bp ?_|refine au ?_|refine kZ [(102,_,_)] ⟨rfl,pz trivial⟩ (h8) ?_|refine kZ [(135,_,_)] ⟨rfl,pz trivial⟩ (h7) ?_|(refine ae ?_ ?_<;>intro h))
     refine ab [21,22,5,1] [65] ?_;exact ih _ _ _
end Go.AM.IR
namespace Go.AM.IR
def gn:List (List UInt8)→Nat
 | []=>0
 |x::r=>x.length+1+gn r
theorem Sb: ∀l:List (List UInt8),(spc l).length=gn l
 | []=>rfl
 |x::r=>by
  have:=Sb r;rw[spc,Ar,Ar,gn,this];show 1+x.length+_=_
  omega
theorem fP (l:List (List UInt8)):(bl l).length≤gn l+1:=by
 unfold bl;rw[Ar];show _+1≤_
 cases l with
 |nil=>simp[jw,gn]
 |cons x r=>
  have:=Sb r;rw[jw,Ar,gn];omega
theorem abW (x:Ifc):(dq x).length≤1000*bkL x.enc:=by
 have h:=fP [cZ,ikT x.kind,pfT x.pfx,bq x.addr.toNat,aa x.area,aa x.cost,aa x.prio,aa x.hello,aa x.dead];rw[←dq] at h;simp only[gn] at h;have h0:cZ.length=5:=rfl;have h1:=ae9 x.kind;have h2:=oz x.pfx;have h3:=kr x.addr.toNat;have h4:=bg x.area;have h5:=bg x.cost;have h6:=bg x.prio;have h7:=bg x.hello;have h8:=bg x.dead;simp only[Ifc.enc,bkL,AV.bk];omega
theorem abd (x:ARange):(fC x).length≤1000*bkL x.enc:=by
 have h:=fP [sR,aa x.area,pfT x.pfx,ynT x.adv];rw[←fC] at h;simp only[gn] at h;have h0:sR.length=5:=rfl;have h1:=qL x.adv;have h2:=oz x.pfx;have h4:=bg x.area;simp only[ARange.enc,bkL,AV.bk];omega
theorem XP (x:Stat):(dy x).length≤1000*bkL x.enc:=by
 have h:=fP [qM,pfT x.pfx,qC x.hop,aa x.dist];rw[←dy] at h;simp only[gn] at h;have h0:qM.length=6:=rfl;have h1:=ab0 x.hop;have h2:=oz x.pfx;have h4:=bg x.dist;simp only[Stat.enc,bkL,AV.bk];omega
theorem abg (x:Red):(fh x).length≤1000*bkL x.enc:=by
 have h:=fP [qN,aa x.src,aa x.dst,bQ x.pol,aa x.metric,ynT x.second];rw[←fh] at h;simp only[gn] at h;have h0:qN.length=12:=rfl;have h1:=qL x.second;have h2:=bg x.src;have h3:=bg x.dst;have h4:=bg x.metric;have h5:=xC x.pol;simp only[Red.enc,bkL,AV.bk];omega
theorem Yc (x:PeerC):(ci x).length≤1000*bkL x.enc:=by
 have h:=fP [iv,pkT x.kind,aa x.asn,bq x.addr.toNat,bq x.loc.toNat,ynT x.client,aa x.hold,aa x.restart,bQ x.imp,bQ x.exp,ynT x.nextSelf,ynT x.damp];rw[←ci] at h;simp only[gn] at h;have h0:iv.length=4:=rfl;have h1:=aeL x.kind;have h2:=bg x.asn;have h3:=kr x.addr.toNat;have h4:=kr x.loc.toNat;have h5:=qL x.client;have h6:=bg x.hold;have h7:=bg x.restart;have h8:=xC x.imp;have h9:=xC x.exp;have h10:=qL x.nextSelf;have h11:=qL x.damp;simp only[PeerC.enc,bkL,AV.bk];omega
theorem abG (x:Pfx):(fj x).length≤1000*bkL x.enc:=by
 have h:=fP [om,pfT x];rw[←fj] at h;simp only[gn] at h;have h0:om.length=7:=rfl;have h2:=oz x;simp only[Pfx.enc,bkL,AV.bk];omega
theorem Kg: ∀l:List Int,gn (l.map aa)≤1000*bC (l.map bT)
 | []=>by simp[gn]
 |x::r=>by
  have h1:=Kg r;have h2:=bg x;have h3:=xH x;rw[Ao,gn,Ao,bC];omega
theorem aax (l:List Int):(mE l).length≤11+1000*bC (l.map bT):=by
 unfold mE;split
 ·simp
 ·have h:=fP (mw::l.map aa)
  have h1:=Kg l;have h0:mw.length=9:=rfl;rw[gn] at h;omega
theorem Yb (s:List UInt8):(jY s).length≤40+s.length:=by
 unfold jY;split
 ·simp
 ·have h:=fP [nz,aa ((du s:Nat):Int)]
  have h1:=bg ((du s:Nat):Int);have h0:nz.length=8:=rfl;simp only[gn] at h;rw[Ar];omega
theorem aeI (q:RConf):(rcT q).length≤1000*bkL q.enc:=by
 have a1:=cY (f:=dq) (enc:=Ifc.enc) q.ls.ifs (fun x _=>abW x)
 have a2:=cY (f:=fC) (enc:=ARange.enc) q.ls.ranges (fun x _=>abd x)
 have a3:=cY (f:=dy) (enc:=Stat.enc) q.stat (fun x _=>XP x)
 have a4:=cY (f:=fh) (enc:=Red.enc) q.redist (fun x _=>abg x)
 have a5:=cY (f:=ci) (enc:=PeerC.enc) q.pv.peers (fun x _=>Yc x)
 have a6:=cY (f:=fj) (enc:=Pfx.enc) q.pv.nets (fun x _=>abG x)
 have a7:=aax q.dists;have a8:=Yb (dW q.pv.pols);have a9:=wh q.pv.pols;have b1:=fP [e8,q.name,aa q.ls.router];have b2:=fP [je,aa q.pv.asn,aa q.pv.confed,aa q.pv.cluster,aa q.pv.multi];have b3:=fP [jf,aa q.pv.damp.half,aa q.pv.damp.reuse,aa q.pv.damp.suppress,aa q.pv.damp.maxTime];rw[←kx] at b2;rw[←mh] at b3;simp only[gn] at b1 b2 b3;have c1:=bg q.ls.router;have c2:=bg q.pv.asn;have c3:=bg q.pv.confed;have c4:=bg q.pv.cluster;have c5:=bg q.pv.multi;have c6:=bg q.pv.damp.half;have c7:=bg q.pv.damp.reuse;have c8:=bg q.pv.damp.suppress;have c9:=bg q.pv.damp.maxTime;have d1:e8.length=6:=rfl;have d2:je.length=7:=rfl;have d3:jf.length=7:=rfl;have e1:(bif q.labels then bl [ij] else []).length≤7:=by cases q.labels<;>decide
 have e2:(bif q.reroute then bl [gj] else []).length≤8:=by cases q.reroute<;>decide
 have f1:(pvT q.pv).length=(kx q.pv).length+((mh q.pv).length+((ax ci q.pv.peers).length+(ax fj q.pv.nets).length)):=by unfold pvT;simp only[Ar]
 have f2:(bif q.hasPV then pvT q.pv else []).length≤(pvT q.pv).length:=by
  cases q.hasPV
  ·simp
  ·exact Bd _
 have f3:(lsT q.name q.ls).length=(bl [e8,q.name,aa q.ls.router]).length+((ax dq q.ls.ifs).length+(ax fC q.ls.ranges).length):=by unfold lsT;simp only[Ar]
 have f4:(fY q).length=(bif q.labels then bl [ij] else []).length+((bif q.reroute then bl [gj] else []).length+((mE q.dists).length+((ax dy q.stat).length+(ax fh q.redist).length))):=by unfold fY;simp only[Ar]
 have f5:(rcT q).length=(lsT q.name q.ls).length+(fY q).length+(bif q.hasPV then pvT q.pv else []).length+(jY (dW q.pv.pols)).length:=by unfold rcT;simp only[Ar]
 simp only[PSet.enc,bkL,AV.bk] at a9;simp only[RConf.enc,bkL,AV.bk];omega
theorem aeH (t:Topo)(i:Int):(rnm t i).length≤bkL t.enc:=by
 unfold rnm;cases h:t.routers[i.toNat]? with
 |none=>simp
 |some q=>
  have m:=ef (enc:=RConf.enc) (A3 h);have m2:q.name.length≤bkL q.enc:=by simp only[RConf.enc,bkL,AV.bk];omega
  have m3:bC (t.routers.map RConf.enc)≤bkL t.enc:=by simp only[Topo.enc,bkL,AV.bk];omega
  show q.name.length≤_
  omega
theorem Kd (t:Topo)(h:bkL t.enc≤1048576): ∀l:List LEnd,gn (l.map (fQ t))≤2097152*bC (l.map LEnd.enc)
 | []=>by simp[gn]
 |x::r=>by
  have h1:=Kd t h r;have h2:=aeH t x.router;have h3:=bg x.ifc;have h4:(fQ t x).length=(rnm t x.router).length+1+(aa x.ifc).length:=by unfold fQ;simp only[Ar];rfl
  have h5:=qH x;rw[Ao,gn,Ao,bC];omega
theorem abN (t:Topo)(h:bkL t.enc≤1048576)(y:Lnk):(fF t y).length≤2097152*bkL y.enc:=by
 have h0:=fP ([jU,aa y.delay]++y.ends.map (fQ t));rw[←fF] at h0;have h1:=Kd t h y.ends;have h2:=bg y.delay;have h3:jU.length=4:=rfl;have h4:gn ([jU,aa y.delay]++y.ends.map (fQ t))=jU.length+1+((aa y.delay).length+1+gn (y.ends.map (fQ t))):=rfl;simp only[Lnk.enc,bkL,AV.bk];omega
theorem Ir {α:Type}{f:α→List UInt8}{enc:α→List AV}: ∀l:List α,(∀x∈l,(f x).length≤2097152*bkL (enc x))→(ax f l).length≤2097152*bC (l.map enc)
 | [],_=>by simp[ax]
 |x::r,h=>by
  have h1:=h x (by simp)
  have h2:=Ir r (fun y hy=>h y (by simp[hy]))
  rw[ax,Ar,Ao,bC];omega
theorem aa3 (t:Topo)(h:bkL t.enc≤1048576):(ax rcT t.routers++ax (fF t) t.links).length<2^50:=by
 have h1:=cY (f:=rcT) (enc:=RConf.enc) t.routers (fun x _=>aeI x)
 have h2:=Ir (f:=fF t) (enc:=Lnk.enc) t.links (fun x _=>abN t h x)
 rw[Ar];simp only[Topo.enc,bkL,AV.bk] at h;omega
theorem U5 (q:RConf)(h:bkL q.enc≤1048576):(q.ls.ifs.length<2^20+1∧q.ls.ranges.length<2^20+1)∧(q.redist.length<2^20+1∧q.stat.length<2^20+1)∧(q.dists.length<2^20+1∧q.pv.peers.length<2^20+1)∧q.pv.nets.length<2^20+1:=by
 have l1:=bB sr q.ls.ifs;have l2:=bB sN q.ls.ranges;have l3:=bB O8 q.redist;have l4:=bB vY q.stat;have l5:=bB xH q.dists;have l6:=bB xK q.pv.peers;have l7:=bB AW q.pv.nets;simp only[RConf.enc,bkL,AV.bk] at h;generalize bC (q.ls.ifs.map Ifc.enc)=a1 at*;generalize bC (q.ls.ranges.map ARange.enc)=a2 at*;generalize bC (q.redist.map Red.enc)=a3 at*;generalize bC (q.stat.map Stat.enc)=a4 at*;generalize bC (q.dists.map bT)=a5 at*;generalize bC (q.pv.peers.map PeerC.enc)=a6 at*;generalize bC (q.pv.nets.map Pfx.enc)=a7 at*;generalize bC (q.pv.pols.prefixes.map PList.enc)=a8 at*;generalize bC (q.pv.pols.paths.map PathL.enc)=a9 at*;generalize bC (q.pv.pols.comms.map ComL.enc)=a10 at*;generalize bC (q.pv.pols.pols.map Pol.enc)=a11 at*;omega
theorem Uj (q:RConf):bkL q.pv.pols.enc≤bkL q.enc:=by
 simp only[RConf.enc,PSet.enc,bkL,AV.bk];generalize bC (q.ls.ifs.map Ifc.enc)=a1 at*;generalize bC (q.ls.ranges.map ARange.enc)=a2 at*;generalize bC (q.redist.map Red.enc)=a3 at*;generalize bC (q.stat.map Stat.enc)=a4 at*;generalize bC (q.dists.map bT)=a5 at*;generalize bC (q.pv.peers.map PeerC.enc)=a6 at*;generalize bC (q.pv.nets.map Pfx.enc)=a7 at*;generalize bC (q.pv.pols.prefixes.map PList.enc)=a8 at*;generalize bC (q.pv.pols.paths.map PathL.enc)=a9 at*;generalize bC (q.pv.pols.comms.map ComL.enc)=a10 at*;generalize bC (q.pv.pols.pols.map Pol.enc)=a11 at*;omega
theorem abn (q:RConf)(h:bkL q.enc≤1048576)(ok:q.ok)(v:q.vt):q.pp:=by
 obtain ⟨⟨l1,l2⟩,⟨l3,l4⟩,⟨l5,l6⟩,l7⟩:=U5 q h;have hp:bkL q.pv.pols.enc≤1048576:=AL (Uj q) h;clear h;obtain ⟨⟨o1,o2,o3⟩,⟨p1,p2,p3,p4,p5,p6,p7,⟨p8,p9,p10,p11⟩,p12⟩,o4,o5,o6⟩:=ok;have k1:q.ls.ifs.length<2^40:=by omega
 have k2:q.ls.ranges.length<2^40:=by omega
 have k3:q.redist.length<2^40:=by omega
 have k4:q.stat.length<2^40:=by omega
 have k5:q.dists.length<2^24:=by omega
 have k6:q.pv.peers.length<2^40:=by omega
 have k7:q.pv.nets.length<2^40:=by omega
 exact ⟨⟨o1,fun x hx=>⟨o2 x hx,v.ik x hx⟩,k1,o3,k2⟩,⟨o5,k4,o4,k3,o6,k5⟩,fun k=>⟨p1,p2,p4,p12,p8,p9,p10,p11,fun x hx=>⟨p5 x hx,v.pk k x hx⟩,k6,p6,k7⟩,v.ch,hp,p7⟩
theorem afW (t:Topo)(y:Lnk)(h:bkL y.enc≤1048576)(ok:y.ok)(v: ∀e∈y.ends,0≤e.router∧ ∃r,t.routers[e.router.toNat]? =some r):y.pp t:=by
 have l1:=bB qH y.ends;simp only[Lnk.enc,bkL,AV.bk] at h;exact ⟨ok.2,by omega,fun x hx=>⟨(ok.1 x hx).2,v x hx⟩⟩
def prT (t:Topo):Ret:=if jL t=0 then nf (ax (fF t) t.links) [] t.routers else ⟨.tup [.str [],.int .i64 (jL t)],[]⟩
structure Topo.pp (t:Topo):Prop where
 rs: ∀q∈t.routers,q.pp
 rl:t.routers.length<2^40
 ls: ∀y∈t.links,y.pp t
 ll:t.links.length<2^40
 len:(ax rcT t.routers++ax (fF t) t.links).length<2^50
theorem Sx (t:Topo)(h:bkL t.enc≤1048576)(ok:t.ok)(hz:jL t=0):t.pp:=by
 have hv:=afu hz;have l1:=bB (enc:=RConf.enc) (fun x=>by have:=su x;omega) t.routers
 have l2:=bB Pc t.links;have h2:=h;simp only[Topo.enc,bkL,AV.bk] at h2;refine ⟨fun q hq=>abn q ?_ (ok.1 q hq) (hv.1 q hq),by omega,fun y hy=>afW t y ?_ (ok.2 y hy) (hv.2 y hy),by omega,aa3 t h⟩
 ·have m:=ef (enc:=RConf.enc) hq
  omega
 ·have m:=ef (enc:=Lnk.enc) hy
  omega
end Go.AM.IR
namespace Go.AM.IR
theorem QD (t:Topo)(h:bkL t.enc≤1048576)(ok:t.ok)(h1:ah G 379 [.agg t.enc] [] ⟨.int .i64 (jL t),[]⟩):ah G 381 [.agg t.enc] [] (prT t):=by
 unfold prT
 by_cases hz:jL t=0
 ·have p:=Sx t h ok hz
  have m1:=ml t.routers RConf.enc;have hb:=p.len;rw[Ad hz];rw[hz] at h1;refine gvB (F:=xv) ?_;refine ab [23,24,25,5,1] [85,65] ?_;rw[m1];exact yu t.routers t p.rl rfl p.rs p.ls p.ll _ _ p.rl _ rfl t.routers [] [] _ _ _ 0 rfl rfl rfl (by rw[Bo];omega)
 ·rw[Ac hz]
  generalize jL t=E at*;refine gvC (F:=xv) ?_
  repeat' ((conv=>whnf);first|refine bh hz ?_|refine au ?_|(refine ae ?_ ?_<;>intro h))
  refine ag ?_;rfl
theorem QC (t:Topo)(h:bkL t.enc≤1048576)(ok:t.ok)(h1:ah G 380 [.agg t.enc] [] ⟨.int .i64 (jL t),[]⟩):ah G 382 [.agg t.enc] [] (prT t):=by
 unfold prT
 by_cases hz:jL t=0
 ·have p:=Sx t h ok hz
  have m1:=ml t.routers RConf.enc;have hb:=p.len;rw[Ad hz];rw[hz] at h1;refine gvB (F:=xu) ?_;refine ab [21,22,5,1] [65] ?_;rw[m1];exact yt t.routers t p.rl rfl p.rs p.ls p.ll _ p.rl _ rfl t.routers [] [] _ _ _ 0 rfl rfl rfl (by rw[Bo];omega)
 ·rw[Ac hz]
  generalize jL t=E at*;refine gvC (F:=xu) ?_
  repeat' ((conv=>whnf);first|refine bh hz ?_|refine au ?_|(refine ae ?_ ?_<;>intro h))
  refine ag ?_;rfl
theorem abm (t:Topo): ∃(s:List UInt8)(e:Int),prT t=⟨.tup [.str s,.int .i64 e],[]⟩:=by
 unfold prT nf TD Cq
 repeat' split
 all_goals exact ⟨_,_,rfl⟩
theorem afN {a b:Int}(h:a=b){kv:AV→Prop}{q:IntKind}(k:kv (.bool true)): ∃v,bv .eql (.int q a) (.int q b)=some v∧kv v:=⟨.bool true,by simp[bv,h],k⟩
theorem MH (t:Topo)(h:bkL t.enc≤1048576)(ok:t.ok):ah G 370 [.agg t.enc] [] ⟨.bool true,[]⟩:=by
 obtain ⟨b,hb,hbt⟩:=Rm t (ab6 t h);have gd:=Yu t h ok;have h1:=OL t gd;have h2:=OM t gd (abP t h);rw[aaz] at h2;have h3:=QD t h ok h2;have h4:=QC t h ok h1;obtain ⟨s,e,hs⟩:=abm t;rw[hs] at h3 h4;cases b
 ·refine gvC (F:=Wt) ?_
  repeat' (first|refine bc ?_|refine kV (qT) ?_|(refine ae ?_ ?_<;>intro h))
  refine ag ?_;rfl
 ·refine gvC (F:=Wt) ?_
  repeat' ((conv=>whnf);first|refine Ue ?_|refine afN rfl ?_|refine au ?_|refine kV (qT) ?_|(refine ae ?_ ?_<;>intro h))
  refine ag ?_;rfl
theorem law370_all (ass:List (List AV))(h:sw [yd] ass)(hb:bC ass≤1048576):ah G 370 (n4 [yd] ass) [] ⟨.bool true,[]⟩:=by
 obtain ⟨x0,s0,rfl,h0,h⟩:=WX h;obtain rfl:=aaH h;obtain ⟨t,rfl,ht⟩:=ahk h0;simp only[bC] at hb;exact MH t (by omega) ht
end Go.AM.IR
