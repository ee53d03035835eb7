/- What the functions of this program give, on the abstract machine. -/
import Derived.Test.YtekpmkbdjkoooaaGreatDoorDataF
import Derived.Test.YtekpmkbdjkoooaaGreatDoorDataH
import Derived.Test.YtekpmkbdjkoooaaGreatDoorDataK
set_option linter.unusedVariables false
set_option linter.unusedSimpArgs false
set_option maxHeartbeats 4000000
set_option maxRecDepth 20000
namespace Go.AM.IR
theorem rBl {p q:Bool}(h:p=q):(⟨.bool p,[]⟩:Ret)=⟨.bool q,[]⟩:=by rw[h]
def JQ (x:Nat)(n:Int):Pfx:=⟨((bx x (bR n):Nat):Int),n⟩
theorem QK (x:Nat)(n:Int)(hx:x<4294967296):ah G 245 [.int .u32 (x:Int),.int .i64 n] [] ⟨.agg (JQ x n).enc,[]⟩:=by
 have h:=sx x n hx;refine gvB (F:=f245) ?_;refine ag ?_;(conv=>whnf);refine Go.AM.finC ?_
 rfl
def eqP (p q:Pfx):Bool:=decide (p.addr=q.addr∧p.len=q.len)
def u7 (p:Pfx)(x:Nat):Bool:=aW p&&eqP (JQ x p.len) p
theorem sJ (p:Pfx)(h:p.ok)(x:Nat)(hx:x<4294967296):ah G 235 [.agg p.enc,.int .u32 (x:Int)] [] ⟨.bool (u7 p x),[]⟩:=by
 have hv:=dZ p h;have ho:=QK x p.len hx;unfold u7;generalize JQ x p.len=k at*;cases hvp:aW p
 ·rw[hvp] at hv
  exact gvA (F:=Wz)
 ·rw[hvp] at hv
  refine gvB (F:=Wz) ?_;refine ag ?_;refine rBl ?_;rw[eqP,Bool.eq_iff_iff];simp
theorem dI {a:Int}(h:okU a):a=(a.toNat:Nat)∧a.toNat<4294967296:=by unfold okU at h;omega
def nu (p q:Pfx):Bool:=aW q&&(decide (p.len≤q.len)&&u7 p q.addr.toNat)
theorem um (p q:Pfx)(hp:p.ok)(hq:q.ok):ah G 237 [.agg p.enc,.agg q.enc] [] ⟨.bool (nu p q),[]⟩:=by
 obtain ⟨e,hx⟩:=dI hq.addr;have hv:=dZ q hq;have hc:=sJ p hp q.addr.toNat hx;rw[←e] at hc;unfold nu;generalize u7 p q.addr.toNat=ct at*;cases hvp:aW q
 ·rw[hvp] at hv
  exact gvA (F:=NY)
 ·rw[hvp] at hv
  by_cases hl:p.len≤q.len
  ·rw[show decide (p.len≤q.len)=true from by simp[hl]]
   exact gvA (F:=NY)
  ·rw[show decide (p.len≤q.len)=false from by simp[hl]]
   exact gvA (F:=NY)
theorem Jc (p q:Pfx)(hp:p.ok)(hq:q.ok):ah G 241 [.agg p.enc,.agg q.enc] [] ⟨.bool (nu p q||nu q p),[]⟩:=by
 have h1:=um p q hp hq;have h2:=um q p hq hp;generalize nu p q=a at*;generalize nu q p=b at*;cases a
 ·exact gvA (F:=f241)
 ·exact gvA (F:=f241)
theorem uq (p q:Pfx):ah G 172 [.agg p.enc,.agg q.enc] [] ⟨.int .i64 (cX p q),[]⟩:=by
 have hee:(p=q)↔ (p.addr=q.addr∧p.len=q.len):=by cases p;cases q;simp
 by_cases h1:p.addr<q.addr
 ·rw[show cX p q= -1 from by simp[cX,h1]]
  refine gvB (F:=f172) ?_
  all_goals (refine ag ?_;first|rfl|(exfalso;omega))
 ·by_cases h2:p.addr=q.addr
  ·by_cases h3:p.len<q.len
   ·rw[show cX p q= -1 from by simp[cX,h2,h3]]
    refine gvB (F:=f172) ?_
    all_goals (refine ag ?_;first|rfl|(exfalso;omega))
   ·by_cases h4:p.len=q.len
    ·rw[show cX p q=0 from by simp[cX,h2,h4,hee]]
     refine gvB (F:=f172) ?_
     all_goals (refine ag ?_;first|rfl|(exfalso;omega))
    ·rw[show cX p q=1 from by simp[cX,h2,h3,h4,hee]]
     refine gvB (F:=f172) ?_
     all_goals (refine ag ?_;first|rfl|(exfalso;omega))
  ·rw[show cX p q=1 from by simp[cX,h1,h2,hee]]
   refine gvB (F:=f172) ?_
   all_goals (refine ag ?_;first|rfl|(exfalso;omega))
def so (x y:Int):Int:=if x<y then-1 else if y<x then 1 else 0
theorem vJ (x:Int):ah G 56 [.int .u32 x] [] ⟨.bool false,[]⟩:=by
 refine gvB (F:=f56) ?_
 all_goals try (exfalso;first|omega|(simp_all;done))
 all_goals (refine ag ?_;first|rfl|simp)
theorem RE (x y:Int):ah G 43 [.int .u32 x,.int .u32 y] [] ⟨.int .i64 (so x y),[]⟩:=by
 have h1:=vJ x;have h2:=vJ y;unfold so
 by_cases a:x<y
 ·rw[Ad a]
  exact gvA (F:=f43)
 ·by_cases b:y<x
  ·rw[Ac a,Ad b]
   exact gvA (F:=f43)
  ·rw[Ac a,Ac b]
   exact gvA (F:=f43)
theorem Ur (x y:Int):ah G 41 [.sl 1 [[.int .i64 x],[.int .i64 y]]] [] ⟨.int .i64 (if x=0 then y else x),[]⟩:=by
 have hx:([[.int .i64 x],[.int .i64 y]]:List (List AV))[(0:Int).toNat]? =some [.int .i64 x]:=rfl;have hy:([[.int .i64 x],[.int .i64 y]]:List (List AV))[(0+1:Int).toNat]? =some [.int .i64 y]:=rfl;have hl:([[.int .i64 x],[.int .i64 y]]:List (List AV)).length=2:=rfl
 by_cases a:x=0
 ·subst a
  rw[Ad rfl]
  by_cases b:y=0
  ·subst b
   refine gvB (F:=f41) ?_;refine evA ?_;refine evA ?_;refine evA ?_;refine ag ?_;rfl
  ·refine gvB (F:=f41) ?_
   refine evA ?_;refine evA ?_;refine ag ?_;rfl
 ·rw[Ac a]
  refine gvB (F:=f41) ?_;refine evA ?_;refine ag ?_;rfl
end Go.AM.IR
namespace Go.AM.IR
theorem jc (n a b:Int):ah G 612 [.int .i64 n,.int .i64 a,.int .i64 b] [] ⟨.bool (wi n a b),[]⟩:=by
 unfold wi
 by_cases h1:a≤n
 ·by_cases h2:n≤b
  ·rw[Al ⟨h1,h2⟩]
   refine gvB (F:=Nr) ?_;refine ag ?_;first|rfl|simp[h1,h2]
  ·rw[An (fun q=>h2 q.2)]
   refine gvB (F:=Nr) ?_;refine ag ?_;first|rfl|simp[h2]
 ·rw[An (fun q=>h1 q.1)]
  refine gvB (F:=Nr) ?_;refine ag ?_;first|rfl|simp[h1]
theorem DM (p:Pfx)(a:Int):u7 p a.toNat=(aW p&&inP p a):=by
 unfold u7;cases hv:aW p with
 |false=>rfl
 |true=>
  have l:=of_decide_eq_true hv;rw[BK,BK,eqP,inP,JQ];have hc:bR p.len=p.len.toNat:=by unfold bR;split<;>(try split)<;>omega
  rw[hc];simp
theorem Rf (x:Ifc)(hx:x.ok):ah G 561 [.agg x.enc] [] ⟨.int .i64 (ifE x),[]⟩:=by
 obtain ⟨hp,ha⟩:x.pfx.ok∧okU x.addr:=⟨hx.2.1,hx.2.2.1⟩;obtain ⟨e,hn⟩:=dI ha;have h1:=jc x.kind 1 3;have h2:=sJ x.pfx hp x.addr.toNat hn;rw[←e,DM] at h2;have h2:ah G 235 [.agg [.int .u32 x.pfx.addr,.int .i64 x.pfx.len],.int .u32 x.addr] [] ⟨.bool (aW x.pfx&&inP x.pfx x.addr),[]⟩:=h2;have h3:=jc x.cost 1 65535;have h4:=jc x.prio 0 255;have h5:=jc x.hello 1 65535;have h6:=jc x.dead x.hello 65535;unfold ifE;generalize wi x.kind 1 3=K at*;generalize wi x.cost 1 65535=A at*;generalize wi x.prio 0 255=B at*;generalize wi x.hello 1 65535=C at*;generalize wi x.dead x.hello 65535=D at*;generalize aW x.pfx=V at*;generalize inP x.pfx x.addr=I at*;cases K
 ·exact gvA (F:=oW)
 by_cases a0:x.addr=0
 ·have hr:(if V=false then (1:Int) else if x.addr=0 then 1 else if I=false then 1 else if A=false then 5 else if B=false then 5 else if C=false then 5 else if D=false then 5 else 0)=1:=by cases V<;>simp[a0]
  rw[Ac (by simp),hr]
  exact gvA (F:=oW)
 cases V
 ·exact gvA (F:=oW)
 cases I
 ·refine gvB (F:=oW) ?_
  refine ag ?_;simp[a0]
 rw[Ac (by simp),Ac (by simp),Ac a0,Ac (by simp)]
 cases A
 ·exact gvA (F:=oW)
 cases B
 ·exact gvA (F:=oW)
 cases C
 ·exact gvA (F:=oW)
 cases D
 ·exact gvA (F:=oW)
 ·exact gvA (F:=oW)
theorem afY (p q:Pfx)(hp:p.ok)(hq:q.ok)(vp:aW p=true)(vq:aW q=true):(nu p q||nu q p)=ovE p q:=by
 have lp:=of_decide_eq_true vp;have lq:=of_decide_eq_true vq;obtain ⟨ep,_⟩:=dI hp.1;obtain ⟨eq,_⟩:=dI hq.1
 have c1:nu p q=(decide (p.len≤q.len)&&inP p q.addr):=by
  unfold nu;rw[DM,vp,vq];simp
 have c2:nu q p=(decide (q.len≤p.len)&&inP q p.addr):=by
  unfold nu;rw[DM,vp,vq];simp
 rw[c1,c2];unfold ovE inP;rw[Bool.eq_iff_iff];simp only[BO,Av,AO];rcases Int.lt_trichotomy p.len q.len with h|h|h
 ·rw[Int.min_eq_left (by omega)]
  constructor
  ·rintro (⟨_,w⟩|⟨w,_⟩)<;>omega
  ·intro w;left;omega
 ·rw[h,Int.min_self]
  rw[h] at lp;constructor
  ·rintro (⟨_,w⟩|⟨_,w⟩)<;>omega
  ·intro w;left;omega
 ·rw[Int.min_eq_right (by omega)]
  constructor
  ·rintro (⟨w,_⟩|⟨_,w⟩)<;>omega
  ·intro w;right;omega
end Go.AM.IR
namespace Go.AM.IR
def ciE (l:List Ifc):Int:=if ba ifE l=0 then (if ovT [] l=true then 7 else 0) else ba ifE l
theorem S8 (l pre:List Ifc)(hl:l.length<2^40)(x:Ifc)(g7:Nat)(n:Int)(hn0:0≤n)(hn1:n<2^40)(hp:pre.length<2^40)(hx:x.pfx.ok∧aW x.pfx=true)(hok: ∀y∈pre,y.pfx.ok∧aW y.pfx=true)(R:Ret)
  (go:pre.any (fun y=>ovE x.pfx y.pfx)=false→ ∀(T:TV)(H:aw)(c:Nat),Ev G ⟨F6,⟨(24,.int .i64 (n+1))::(0,.sl 9 (l.map Ifc.enc))::(22,.sl 9 (l.map Ifc.enc))::(23,.int .i64 l.length)::T,H,c⟩,[.t 2],0⟩ R)
  (hR:pre.any (fun y=>ovE x.pfx y.pfx)=true→R=⟨.int .i64 7,[]⟩): ∀(rest d:List Ifc)(T:TV)(H:aw)(c:Nat)(k:Int)(e:pre=d++rest)(hk:k=d.length)(hd:d.any (fun y=>ovE x.pfx y.pfx)=false),
  Ev G ⟨YV,⟨(33,.int .i64 k)::(7,.ref 71 g7 0)::(31,.sl 9 (pre.map Ifc.enc))::(0,.sl 9 (l.map Ifc.enc))::(22,.sl 9 (l.map Ifc.enc))::(23,.int .i64 l.length)::(24,.int .i64 n)::(32,.int .i64 pre.length)::T,(71,some (g7,.cells x.enc))::H,c⟩,[.t 2],0⟩ R
 | [],d,T,H,c,k,e,hk,hd=>by
  have hle:=md0 e;obtain rfl:pre=d:=by simpa using e
  refine evA ?_;refine ab [24,0,22,23] [] ?_;exact go hd _ _ _
 |y::r,d,T,H,c,k,e,hk,hd=>by
  have hle:=md e;have hll:=ml pre Ifc.enc;have hy:(pre.map Ifc.enc)[k.toNat]? =some y.enc:=by simp[e,hk]
  obtain ⟨q1,q2⟩:=hok y (by simp[e])
  have h1:=Jc x.pfx y.pfx hx.1 q1;rw[afY x.pfx y.pfx hx.1 q1 hx.2 q2] at h1;have h1:ah G 241 [.agg [.int .u32 x.pfx.addr,.int .i64 x.pfx.len],.agg [.int .u32 y.pfx.addr,.int .i64 y.pfx.len]] [] ⟨.bool (ovE x.pfx y.pfx),[]⟩:=h1;cases ho:ovE x.pfx y.pfx with
  |true=>
   rw[ho] at h1;rw[hR (by rw[e];simp[ho])]
   refine evA ?_;refine ag ?_;rfl
  |false=>
   rw[ho] at h1;have ih:=fun T H c=>S8 l pre hl x g7 n hn0 hn1 hp hx hok R go hR r (d++[y]) T H c (k+1) (by simp[e]) (by simp[hk]) (by simp[hd,ho])
   refine evA ?_;refine ab [33,7,31,0,22,23,24,32] [71] ?_;exact ih _ _ _
theorem Ij (l:List Ifc)(hl:l.length<2^40)(hok: ∀y∈l,y.pfx.ok∧aW y.pfx=true): ∀(rest d:List Ifc)(T:TV)(H:aw)(c:Nat)(n:Int)(e:l=d++rest)(hn:n=d.length),
  Ev G ⟨F6,⟨(24,.int .i64 n)::(0,.sl 9 (l.map Ifc.enc))::(22,.sl 9 (l.map Ifc.enc))::(23,.int .i64 l.length)::T,H,c⟩,[.t 2],0⟩ ⟨.int .i64 (if ovT d rest=true then 7 else 0),[]⟩
 | [],d,T,H,c,n,e,hn=>by
  have hle:=md0 e;rw[ovT,Ac (by simp)]
  refine evA ?_;refine ag ?_;rfl
 |x::r,d,T,H,c,n,e,hn=>by
  have hle:=md e;have hll:=ml l Ifc.enc;have hx:=mx Ifc.enc e hn;have hE:List.take (n.toNat-0) (List.drop 0 (l.map Ifc.enc))=d.map Ifc.enc:=by rw[e,hn];simp
  have hL:(List.take (n.toNat-0) (List.drop 0 (l.map Ifc.enc))).length=d.length:=by rw[hE];simp
  rw[ovT];refine evA ?_;refine ab [33,7,31,0,22,23,24,32] [71] ?_;rw[hL,hE];refine S8 l d hl x _ n (by omega) (by omega) (by omega) (hok x (by simp[e])) (fun y hy=>hok y (by simp[e,hy])) _ (fun h0 T H c=>?_) (fun h1=>?_) d [] _ _ _ 0 rfl rfl rfl
  ·rw[h0,BS]
   exact Ij l hl hok r (d++[x]) T H c (n+1) (by simp[e]) (by simp[hn])
  ·rw[h1,Bool.true_or,Ad rfl]
theorem Yq {x:Ifc}(h:ifE x=0):aW x.pfx=true:=by
 unfold ifE at h;split at h
 ·omega
 split at h
 ·omega
 ·rename_i h2;simpa using h2
theorem vL: ∀{l:List Ifc},ba ifE l=0→ ∀y∈l,aW y.pfx=true
 |x::r,h,y,hy=>by
  rw[ba] at h;split at h
  ·rename_i h0
   rcases AK.1 hy with rfl|hy
   ·exact Yq h0
   ·exact vL h y hy
  ·rename_i h0;exact absurd h h0
theorem OE (l:List Ifc)(hl:l.length<2^40)(hok: ∀y∈l,y.ok): ∀(rest d:List Ifc)(T:TV)(H:aw)(c:Nat)(n:Int)(e:l=d++rest)(hn:n=d.length)(hz:ba ifE l=ba ifE rest),
  Ev G ⟨acX,⟨(12,.int .i64 n)::(10,.sl 9 (l.map Ifc.enc))::(0,.sl 9 (l.map Ifc.enc))::(11,.int .i64 l.length)::T,H,c⟩,[.t 2],0⟩ ⟨.int .i64 (ciE l),[]⟩
 | [],d,T,H,c,n,e,hn,hz=>by
  have hle:=md0 e;have hll:=ml l Ifc.enc;have h0:ba ifE l=0:=hz;have hv:=vL h0;rw[ciE,Ad h0];refine evA ?_;refine ab [24,0,22,23] [] ?_;rw[hll];exact Ij l hl (fun y hy=>⟨(hok y hy).2.1,hv y hy⟩) l [] _ _ _ 0 rfl rfl
 |x::r,d,T,H,c,n,e,hn,hz=>by
  have hle:=md e;have hll:=ml l Ifc.enc;have hx:=mx Ifc.enc e hn;have h1:=Rf x (hok x (by simp[e]))
  rw[ba] at hz;have ih:=fun hz T H c=>OE l hl hok r (d++[x]) T H c (n+1) (by simp[e]) (by simp[hn]) hz
  generalize ifE x=E at*
  by_cases h0:E=0
  ·rw[Ad h0] at hz
   subst h0;refine evA ?_;refine ab [12,10,0,11] [] ?_;exact ih hz _ _ _
  ·rw[Ac h0] at hz
   rw[ciE,hz,Ac h0];refine evA ?_;refine ag ?_;rfl
theorem RK (l:List Ifc)(hl:l.length<2^40)(hok: ∀y∈l,y.ok):ah G 490 [.sl 9 (l.map Ifc.enc)] [] ⟨.int .i64 (ciE l),[]⟩:=by
 have hll:=ml l Ifc.enc;refine gvB (F:=Dg) ?_;refine ab [12,10,0,11] [] ?_;rw[hll];exact OE l hl hok l [] _ _ _ 0 rfl rfl rfl
end Go.AM.IR
namespace Go.AM.IR
def orC (a x:ARange):Int:=if so a.area x.area=0 then cX a.pfx x.pfx else so a.area x.area
theorem aeR (a x:ARange):(0≤orC a x↔oD a x=false):=by
 have hee:(a.pfx=x.pfx)↔ (a.pfx.addr=x.pfx.addr∧a.pfx.len=x.pfx.len):=by
  obtain ⟨_,⟨_,_⟩,_⟩:=a;obtain ⟨_,⟨_,_⟩,_⟩:=x;simp
 unfold orC oD so cX;simp only[AP,hee]
 (repeat' split)<;>omega
theorem FB (q:LSC)(hc:q.ranges.length<2^40)(hok: ∀x∈q.ranges,x.pfx.ok): ∀(rest done:List ARange)(T:TV)(H:aw)(c:Nat)(n:Int)(e:q.ranges=done++rest)(hn:n=done.length),
  Ev G ⟨Zn,⟨(36,.int .i64 n)::(1,.ref 65 1 0)::(34,.sl 4 (q.ranges.map ARange.enc))::(35,.int .i64 q.ranges.length)::T,(65,some (1,.cells q.enc))::H,c⟩,[.t 2],0⟩ ⟨.int .i64 (lR done rest),[]⟩
 | [],done,T,H,c,n,e,hn=>by
  have hd:=md0 e;rw[lR];refine evA ?_;refine ag ?_;rfl
 |x::r,done,T,H,c,n,e,hn=>by
  have hd:=md e;have m1:=ml q.ranges ARange.enc;have hx:=mx ARange.enc e hn;have hv:ah G 178 [.agg [.int .u32 x.pfx.addr,.int .i64 x.pfx.len]] [] ⟨.bool (aW x.pfx),[]⟩:=dZ x.pfx (hok x (by simp[e]))
  have ih:=fun T H c=>FB q hc hok r (done++[x]) T H c (n+1) (by simp[e]) (by simp[hn])
  rw[lR];cases hvp:aW x.pfx with
  |false=>
   rw[hvp] at hv;rw[Ad rfl];refine evA ?_;refine ag ?_;rfl
  |true=>
   rw[hvp] at hv;rw[Ac (by simp)]
   cases hl:done.getLast? with
   |none=>
    have h0:done= []:=by simpa using hl
    subst h0;obtain rfl:n=0:=by simpa using hn
    rw[Ac (by simp)]
    refine evA ?_;refine ab [36,1,34,35] [65] ?_;exact ih _ _ _
   |some a=>
    have hne:0<done.length:=by
     cases done with
     |nil=>simp at hl
     |cons y s=>simp
    have ha:(q.ranges.map ARange.enc)[(n-1).toNat]? =some a.enc:=by
     rw[List.getLast?_eq_getElem?] at hl;have:(n-1).toNat=done.length-1:=by omega
     rw[this,B7,e,BD (by omega),hl];rfl
    have hp:(0:Int)<n:=by omega
    have g1:=RE a.area x.area;have g2:ah G 172 [.agg [.int .u32 a.pfx.addr,.int .i64 a.pfx.len],.agg [.int .u32 x.pfx.addr,.int .i64 x.pfx.len]] [] ⟨.int .i64 (cX a.pfx x.pfx),[]⟩:=uq a.pfx x.pfx;have g3:=Ur (so a.area x.area) (cX a.pfx x.pfx);have ho:=aeR a x;unfold orC at ho;generalize (if so a.area x.area=0 then cX a.pfx x.pfx else so a.area x.area)=V at*
    generalize so a.area x.area=V1 at*;generalize cX a.pfx x.pfx=V2 at*;dsimp only
    by_cases hq:oD a x=true
    ·have hV: ¬0≤V:=fun h=>by rw[ho.1 h] at hq;cases hq
     rw[show (if (!oD a x)=true then (16:Int) else lR (done++[x]) r)=lR (done++[x]) r from by simp[hq]]
     refine evl ?_
     repeat' (first|refine bc ?_|refine kZ [(127,_,_)] ⟨rfl,pz trivial⟩ (g3) ?_|(refine ae ?_ ?_<;>intro h))
     all_goals try (exfalso;omega)
     refine ab [36,1,34,35] [65] ?_;exact ih _ _ _
    ·have hV:0≤V:=ho.2 (by simpa using hq)
     rw[show (if (!oD a x)=true then (16:Int) else lR (done++[x]) r)=16 from by simp[hq]]
     refine evl ?_
     repeat' (first|refine bc ?_|refine kZ [(127,_,_)] ⟨rfl,pz trivial⟩ (g3) ?_|(refine ae ?_ ?_<;>intro h))
     all_goals try (exfalso;omega)
     refine ag ?_;rfl
theorem QT (q:LSC)(hc:q.ifs.length<2^40)(hrg:q.ranges.length<2^40)(hok: ∀x∈q.ifs,x.ok)(hrok: ∀x∈q.ranges,x.pfx.ok):ah G 437 [.agg q.enc] [] ⟨.int .i64 (lsE q),[]⟩:=by
 have m1:=ml q.ifs Ifc.enc;have m2:=ml q.ranges ARange.enc;have h1:=RK q.ifs hc hok;unfold lsE
 by_cases a:q.router=0
 ·rw[Ad a]
  exact gvA (F:=sd)
 rw[Ac a]
 by_cases b:q.ifs= []
 ·have hz:q.ifs.length=0:=by rw[b];rfl
  rw[Ad b];refine gvB (F:=sd) ?_
  all_goals try (exfalso;omega)
  all_goals (refine ag ?_;rfl)
 have hz:q.ifs.length≠0:=fun h=>b (AI h)
 rw[Ac b]
 by_cases c1:16<q.ifs.length
 ·rw[Ad c1]
  refine gvB (F:=sd) ?_
  all_goals try (exfalso;omega)
  all_goals (refine ag ?_;rfl)
 rw[Ac c1]
 by_cases c2:64<q.ranges.length
 ·rw[Ad c2]
  refine gvB (F:=sd) ?_
  all_goals try (exfalso;omega)
  all_goals (refine ag ?_;rfl)
 rw[Ac c2];have hL:=fun T H c=>FB q hrg hrok q.ranges [] T H c 0 rfl rfl
 have hlsE:(if ba ifE q.ifs=0 then UZ q else ba ifE q.ifs)=if ciE q.ifs=0 then lR [] q.ranges else ciE q.ifs:=by
  unfold ciE UZ
  (repeat' split)<;>first|rfl|omega|(simp_all;done)
 rw[hlsE];generalize ciE q.ifs=E at*;generalize lR [] q.ranges=F at*
 by_cases h0:E=0
 ·subst h0
  rw[Ad rfl];refine gvB (F:=sd) ?_
  all_goals try (exfalso;omega)
  refine ab [36,1,34,35] [65] ?_;rw[m2];exact hL _ _ _
 ·rw[Ac h0]
  refine gvB (F:=sd) ?_
  all_goals try (exfalso;omega)
  all_goals (refine ag ?_;rfl)
end Go.AM.IR
namespace Go.AM.IR
def wu:Option Pol→Pol
 |none=>⟨[],[],0⟩
 |some x=>x
def wt (o:Option Pol):Ret:=⟨.tup [.agg (wu o).enc,.bool o.isSome],[]⟩
section
variable {kv:AV→Prop} {a b:List UInt8}
theorem ahs (n: ¬a=b)(h:kv (.bool true)): ∃v,bv .neq (.str a) (.str b)=some v∧kv v:=⟨.bool true,by show some (AV.bool (!(a==b)))=_;simp[n],h⟩
theorem aht (n:a=b)(h:kv (.bool false)): ∃v,bv .neq (.str a) (.str b)=some v∧kv v:=⟨.bool false,by show some (AV.bool (!(a==b)))=_;simp[n],h⟩
end
theorem Fb (l:List Trm)(hf: ∀x∈l,x.goodT)(p:Pol)(hp:p.terms=l)(g4:Nat)(hl:l.length<2^40)(ln:Int)(hln:ln=l.length): ∀(rest done:List Trm)(g8 g k:Nat)(es:List (List AV))(T:TV)(H:aw)(c:Nat)(n:Int)(e:l=done++rest)(hn:n=done.length)(hk:k=done.length)(hes:es=done.map Trm.enc),Ev G ⟨YJ,⟨(28,.sl 4 (l.map Trm.enc))::(29,.int .i64 ln)::(30,.int .i64 n)::(8,.ref 72 g8 0)::(4,.ref 68 g4 0)::T,(72,some (g8,.cells [.str p.name,.vs 114 g k,.int .i64 p.dflt]))::(114,some (g,.vec 4 es))::(68,some (g4,.cells [.str [],.con (.slice none 0 0),.int .i64 0]))::H,c⟩,[.cell 4 (some 3),.t 5],0⟩ (wt (some p))
 | [],done,g8,g,k,es,T,H,c,n,e,hn,hk,hes=>by
  have hd:=md0 e;have hll:=ml l Trm.enc;obtain rfl:l=done:=by simpa using e
  clear e;subst hes hk;have hdl:=ml l Trm.enc;refine kn [(114,_,_)] [8,4,28,29,30] [72,68] ⟨rfl,frP,trivial⟩ ?_;repeat ((conv=>whnf);first|refine frA ?_|intro T H)
  refine evA ?_;refine ag ?_;(conv=>whnf);refine Go.AM.finC ?_
  simp[wt,wu,Pol.enc,hp]
 |x::r,done,g8,g,k,es,T,H,c,n,e,hn,hk,hes=>by
  have hd:=md e;have hll:=ml l Trm.enc;have hx:=mx Trm.enc e hn;subst hes hk;have hdl:=ml done Trm.enc;have q1:=(hf x (by simp[e])).ms
  have q2:=(hf x (by simp[e])).acz
  have m1:=ml x.mats Mat.enc;have m2:=ml x.acts Actn.enc;refine evl ?_
  repeat' (first|refine bc ?_|refine kB [(102,_,_),(106,_,_)] ⟨rfl,pz ⟨rfl,pz trivial⟩⟩ ?_|(refine ae ?_ ?_<;>intro h))
  refine ab [28,29,30,8,4] [72,114,68] ?_;exact Fb l hf p hp g4 hl ln hln r (done++[x]) _ _ _ _ _ _ _ (n+1) (by simp[e]) (by simp[hn]<;>omega) (by simp) (by simp[Trm.enc])
theorem E9 (l:List Pol)(hf: ∀x∈l,x.terms.length<2^40∧ ∀t∈x.terms,t.goodT)(k:List UInt8)(g4:Nat)(hl:l.length<2^40)(ln:Int)(hln:ln=l.length): ∀(rest done:List Pol)(T:TV)(H:aw)(c:Nat)(n:Int)(e:l=done++rest)(hn:n=done.length),Ev G ⟨YI,⟨(12,.sl 3 (l.map Pol.enc))::(13,.int .i64 ln)::(14,.int .i64 n)::(4,.ref 68 g4 0)::(1,.str k)::T,(68,some (g4,.cells [.str [],.con (.slice none 0 0),.int .i64 0]))::H,c⟩,[.cell 4 (some 3),.t 5],0⟩ (wt (gz rest k))
 | [],done,  T,H,c,n,e,hn=>by
  have hd:=md0 e;have hll:=ml l Pol.enc;refine evA ?_;refine eU [] [(68,some (_,.cells ((wu none).enc)))] trivial ⟨⟨rfl,leA⟩,trivial⟩ ?_;refine ag ?_;(conv=>whnf);refine Go.AM.finC ?_;rfl
 |x::r,done,  T,H,c,n,e,hn=>by
  have hd:=md e;have hll:=ml l Pol.enc;have hx:=mx Pol.enc e hn;have hq:=hf x (by simp[e])
  have hq1:=hq.1;have m1:=ml x.terms Trm.enc
  by_cases hk:x.name=k
  ·rw[gz,Ad hk]
   refine evl ?_
   repeat' ((conv=>whnf);first|refine aht hk ?_|refine au ?_|(refine ae ?_ ?_<;>intro h))
   refine lf 114 4 [] [(72,some (_,.cells [.str x.name,.vs 114 _ 0,.int .i64 x.dflt]))] trivial ⟨⟨rfl,.refl _,LeP.nilV _ _ _,.refl _,trivial⟩,trivial⟩ ?_;refine ab [28,29,30,8,4] [72,114,68] ?_;rw[m1];exact Fb x.terms hq.2 x rfl _ hq1 _ rfl x.terms [] _ _ _ _ _ _ _ 0 rfl rfl rfl rfl
  ·rw[gz,Ac hk]
   refine evl ?_
   repeat' ((conv=>whnf);first|refine ahs hk ?_|refine au ?_|(refine ae ?_ ?_<;>intro h))
   refine ab [12,13,14,4,1] [68] ?_;exact E9 l hf k g4 hl ln hln r (done++[x])  _ _ _ (n+1) (by simp[e]) (by simp[hn]<;>omega)
theorem sD (s:PSet)(hs:s.good)(k:List UInt8):ah G 566 [.agg s.enc,.str k] [] (wt (gz s.pols k)):=by
 have hll:=ml s.pols Pol.enc;refine gvB (F:=Nu) ?_;refine ab [12,13,14,4,1] [68] ?_;rw[hll];exact E9 s.pols (fun x hx=>(hs.pol x hx).2) k _ hs.d _ rfl s.pols [] _ _ _ 0 rfl rfl
theorem gq (n a b:Int):ah G 562 [.int .i64 n,.int .i64 a,.int .i64 b] [] ⟨.bool (!wi n a b),[]⟩:=by
 unfold wi
 by_cases h1:n<a
 ·rw[An (fun q=>by omega)]
  refine gvB (F:=Nv) ?_;refine ag ?_;first|rfl|simp[h1]
 ·by_cases h2:n>b
  ·rw[An (fun q=>by omega)]
   refine gvB (F:=Nv) ?_;refine ag ?_;first|rfl|simp[h2]
  ·rw[Al ⟨by omega,by omega⟩]
   refine gvB (F:=Nv) ?_;refine ag ?_;first|rfl|simp[h2]
theorem kC (n a b:Int):ah G 613 [.int .i64 n,.int .i64 a,.int .i64 b] [] ⟨.bool (!wi n a b),[]⟩:=by
 unfold wi
 by_cases h1:n<a
 ·rw[An (fun q=>by omega)]
  refine gvB (F:=Nq) ?_;refine ag ?_;first|rfl|simp[h1]
 ·by_cases h2:n>b
  ·rw[An (fun q=>by omega)]
   refine gvB (F:=Nq) ?_;refine ag ?_;first|rfl|simp[h2]
  ·rw[Al ⟨by omega,by omega⟩]
   refine gvB (F:=Nq) ?_;refine ag ?_;first|rfl|simp[h2]
theorem tu (q:PVC)(g:q.pols.good)(k:List UInt8):ah G 615 [.agg q.enc,.str k] [] ⟨.bool (!jk q.pols k),[]⟩:=by
 have h1:ah G 566 [.agg [.sl 2 (q.pols.prefixes.map PList.enc),.sl 2 (q.pols.paths.map PathL.enc),.sl 2 (q.pols.comms.map ComL.enc),.sl 3 (q.pols.pols.map Pol.enc)],.str k] [] (wt (gz q.pols.pols k)):=sD q.pols g k;unfold jk;unfold wt at h1;generalize gz q.pols.pols k=o at*;have hp:=pf (wu o);generalize hP:wu o=P at*;obtain ⟨nm,ts,d⟩:=P;have h1:ah G 566 [.agg [.sl 2 (q.pols.prefixes.map PList.enc),.sl 2 (q.pols.paths.map PathL.enc),.sl 2 (q.pols.comms.map ComL.enc),.sl 3 (q.pols.pols.map Pol.enc)],.str k] [] ⟨.tup [.agg [.str nm,.sl 4 (ts.map Trm.enc),.int .i64 d],.bool o.isSome],[]⟩:=h1;cases o with
 |none=>
  by_cases hk:k= []
  ·subst hk
   refine gvC (F:=Nn) ?_
   repeat' ((conv=>whnf);first|refine Ue ?_|refine au ?_|(refine ae ?_ ?_<;>intro h))
   refine ag ?_;rfl
  ·rw[An hk]
   refine gvC (F:=Nn) ?_
   repeat' ((conv=>whnf);first|refine wl hk ?_|refine au ?_|(refine ae ?_ ?_<;>intro h))
   refine ag ?_;rfl
 |some x=>
  refine gvB (F:=Nn) ?_;refine ag ?_;simp
end Go.AM.IR
namespace Go.AM.IR
theorem afp (c:DampC):fd c=if wi c.half 1 86400=true then if wi c.reuse 1 20000=true then if wi c.suppress (c.reuse+1) 20000=true then if wi c.maxTime c.half (16*c.half)=true then 0 else 5 else 5 else 5 else 5:=by
 simp only[fd,wi,AO]
 repeat' split
 all_goals first|rfl|(exfalso;omega)
theorem uj (c:DampC):ah G 564 [.agg c.enc] [] ⟨.int .i64 (fd c),[]⟩:=by
 have h1:=kC c.half 1 86400;have h2:=kC c.reuse 1 20000;have h3:=kC c.suppress (c.reuse+1) 20000;have h4:=kC c.maxTime c.half (16*c.half);rw[afp]
 by_cases w1:wi c.half 1 86400=true
 ·rw[Ad w1]
  rw[w1] at h1;have w1':1≤c.half∧c.half≤86400:=by simpa[wi] using w1
  obtain ⟨u1,u2⟩:=w1'
  by_cases w2:wi c.reuse 1 20000=true
  ·rw[Ad w2]
   rw[w2] at h2;have w2':1≤c.reuse∧c.reuse≤20000:=by simpa[wi] using w2
   obtain ⟨u3,u4⟩:=w2'
   by_cases w3:wi c.suppress (c.reuse+1) 20000=true
   ·rw[Ad w3]
    rw[w3] at h3
    by_cases w4:wi c.maxTime c.half (16*c.half)=true
    ·rw[Ad w4]
     rw[w4] at h4;exact gvA (F:=xk)
    ·rw[Ac w4]
     rw[AR] at w4;rw[w4] at h4;exact gvA (F:=xk)
   ·rw[Ac w3]
    rw[AR] at w3;rw[w3] at h3;exact gvA (F:=xk)
  ·rw[Ac w2]
   rw[AR] at w2;rw[w2] at h2;exact gvA (F:=xk)
 ·rw[Ac w1]
  rw[AR] at w1;rw[w1] at h1;exact gvA (F:=xk)
def D9 (c:PVC)(p:PeerC):Bool:=if p.kind=2∧c.confed=0 then false else if (p.asn=c.asn↔p.kind=3) then !decide (p.asn=c.confed) else false
theorem Pw (c:PVC)(p:PeerC):ah G 614 [.agg c.enc,.agg p.enc] [] ⟨.bool (D9 c p),[]⟩:=by
 by_cases h:p.kind=2∧c.confed=0
 ·rw[D9,Ad h]
  obtain ⟨ha,hb⟩:=h;refine gvC (F:=nr) ?_
  repeat' ((conv=>whnf);first|refine bj ha ?_|refine bj hb ?_|refine au ?_|(refine ae ?_ ?_<;>intro h))
  refine ag ?_;rfl
 rw[D9,Ac h]
 by_cases k:p.kind=2
 ·have kb: ¬c.confed=0:=fun q=>h ⟨k,q⟩
  have k3: ¬p.kind=3:=by omega
  by_cases a:p.asn=c.asn
  ·rw[Ac (by simp[a,k3])]
   refine gvC (F:=nr) ?_
   repeat' ((conv=>whnf);first|refine bj k ?_|refine aY kb ?_|refine aY k3 ?_|refine bj a ?_|refine au ?_|(refine ae ?_ ?_<;>intro h))
   refine ag ?_;rfl
  ·rw[Ad (by simp[a,k3])]
   by_cases d:p.asn=c.confed
   ·rw[Al d]
    refine gvC (F:=nr) ?_
    repeat' ((conv=>whnf);first|refine bj k ?_|refine aY kb ?_|refine aY k3 ?_|refine aY a ?_|refine bb d ?_|refine au ?_|(refine ae ?_ ?_<;>intro h))
    refine ag ?_;rfl
   ·rw[An d]
    refine gvC (F:=nr) ?_
    repeat' ((conv=>whnf);first|refine bj k ?_|refine aY kb ?_|refine aY k3 ?_|refine aY a ?_|refine bh d ?_|refine au ?_|(refine ae ?_ ?_<;>intro h))
    refine ag ?_;rfl
 ·by_cases k3:p.kind=3
  ·by_cases a:p.asn=c.asn
   ·rw[Ad (by simp[a,k3])]
    by_cases d:p.asn=c.confed
    ·rw[Al d]
     refine gvC (F:=nr) ?_
     repeat' ((conv=>whnf);first|refine aY k ?_|refine bj k3 ?_|refine bj a ?_|refine bb d ?_|refine au ?_|(refine ae ?_ ?_<;>intro h))
     refine ag ?_;rfl
    ·rw[An d]
     refine gvC (F:=nr) ?_
     repeat' ((conv=>whnf);first|refine aY k ?_|refine bj k3 ?_|refine bj a ?_|refine bh d ?_|refine au ?_|(refine ae ?_ ?_<;>intro h))
     refine ag ?_;rfl
   ·rw[Ac (by simp[a,k3])]
    refine gvC (F:=nr) ?_
    repeat' ((conv=>whnf);first|refine aY k ?_|refine bj k3 ?_|refine aY a ?_|refine au ?_|(refine ae ?_ ?_<;>intro h))
    refine ag ?_;rfl
  ·by_cases a:p.asn=c.asn
   ·rw[Ac (by simp[a,k3])]
    refine gvC (F:=nr) ?_
    repeat' ((conv=>whnf);first|refine aY k ?_|refine aY k3 ?_|refine bj a ?_|refine au ?_|(refine ae ?_ ?_<;>intro h))
    refine ag ?_;rfl
   ·rw[Ad (by simp[a,k3])]
    by_cases d:p.asn=c.confed
    ·rw[Al d]
     refine gvC (F:=nr) ?_
     repeat' ((conv=>whnf);first|refine aY k ?_|refine aY k3 ?_|refine aY a ?_|refine bb d ?_|refine au ?_|(refine ae ?_ ?_<;>intro h))
     refine ag ?_;rfl
    ·rw[An d]
     refine gvC (F:=nr) ?_
     repeat' ((conv=>whnf);first|refine aY k ?_|refine aY k3 ?_|refine aY a ?_|refine bh d ?_|refine au ?_|(refine ae ?_ ?_<;>intro h))
     refine ag ?_;rfl
theorem aeM (c:PVC)(p:PeerC):pkE c p=if wi p.kind 1 3=true then if wi p.asn 1 4294967295=true then if D9 c p=true then 0 else 14 else 5 else 15:=by
 by_cases w:wi p.kind 1 3=true
 ·have w':1≤p.kind∧p.kind≤3:=by simpa[wi] using w
  rw[Ad w]
  by_cases v:wi p.asn 1 4294967295=true
  ·have v':1≤p.asn∧p.asn≤4294967295:=by simpa[wi] using v
   rw[Ad v,pkE,Ac (by omega),Ac (by omega),Ac (by omega),Ac (by omega)]
   unfold D9
   by_cases k:p.kind=3<;>by_cases a:p.asn=c.asn<;>by_cases d:p.asn=c.confed<;>by_cases e:p.kind=2<;>by_cases g:c.confed=0<;>simp[k,a,d,e,g]<;>first|done|omega|(simp_all;done)|(exfalso;omega)
  ·have v': ¬(1≤p.asn∧p.asn≤4294967295):=by simpa[wi] using v
   rw[Ac v,pkE,Ac (by omega),Ac (by omega)]
   by_cases v2:p.asn<1
   ·rw[Ad v2]
   ·rw[Ac v2,Ad (by omega)]
 ·have w': ¬(1≤p.kind∧p.kind≤3):=by simpa[wi] using w
  rw[Ac w,pkE]
  by_cases v2:p.kind<1
  ·rw[Ad v2]
  ·rw[Ac v2,Ad (by omega)]
def nwE:List Pfx→List Pfx→Int
 |_,[]=>0
 |d,x::r=>if aW x=false then 1 else if (match d.getLast? with|some a=>decide (0≤cX a x)|none=>false)=true then 16 else nwE (d++[x]) r
theorem LZ (l:List Pfx)(hl:l.length<2^40)(hok: ∀x∈l,x.ok): ∀(rest done:List Pfx)(T:TV)(H:aw)(c:Nat)(n:Int)(e:l=done++rest)(hn:n=done.length),
  Ev G ⟨acq,⟨(7,.int .i64 n)::(0,.sl 2 (l.map Pfx.enc))::(5,.sl 2 (l.map Pfx.enc))::(6,.int .i64 l.length)::T,H,c⟩,[.t 2],0⟩ ⟨.int .i64 (nwE done rest),[]⟩
 | [],done,T,H,c,n,e,hn=>by
  have hd:=md0 e;refine evA ?_;refine ag ?_;rfl
 |x::r,done,T,H,c,n,e,hn=>by
  have hd:=md e;have m1:=ml l Pfx.enc;have hx:=mx Pfx.enc e hn;have hxo:=hok x (by simp[e])
  have f1:=dZ x hxo;rw[nwE];cases vx:aW x with
  |false=>
   rw[vx] at f1;rw[Ad rfl];refine evA ?_;refine ag ?_;rfl
  |true=>
  rw[vx] at f1;rw[Ac (by simp)]
  have ih:=fun T H c=>LZ l hl hok r (done++[x]) T H c (n+1) (by simp[e]) (by simp[hn])
  rcases List.eq_nil_or_concat done with h0|⟨d,a,h0⟩
  ·subst h0
   obtain rfl:n=0:=hn;rw[Ac (by simp)]
   refine evA ?_;refine ab [7,0,5,6] [] ?_;exact ih _ _ _
  ·have g1:=uq a x
   have hl0:done.getLast?=some a:=by rw[h0];simp
   have hdl:done.length=d.length+1:=by rw[h0];simp
   have n1:(0:Int)<n:=by omega
   have ha:(l.map Pfx.enc)[(n-1).toNat]? =some a.enc:=by
    rw[show (n-1).toNat=d.length from by omega,e,h0];simp
   rw[hl0];dsimp only
   by_cases ho:0≤cX a x
   ·rw[Ad (by simpa using ho)]
    generalize cX a x=Z at*;refine evA ?_;refine ag ?_;rfl
   ·rw[Ac (by simpa using ho)]
    generalize cX a x=Z at*;refine evA ?_;refine ab [7,0,5,6] [] ?_;exact ih _ _ _
theorem Mf (l:List Pfx)(hl:l.length<2^40)(hok: ∀x∈l,x.ok):ah G 563 [.sl 2 (l.map Pfx.enc)] [] ⟨.int .i64 (nwE [] l),[]⟩:=by
 have m1:=ml l Pfx.enc;refine gvB (F:=VU) ?_;refine ab [7,0,5,6] [] ?_;rw[m1];exact LZ l hl hok l [] _ _ _ 0 rfl rfl
end Go.AM.IR
