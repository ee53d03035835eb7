/- What the functions of this program give, on the abstract machine. -/
import Derived.Test.YtcmipbleijmpjaaGreatDoorDataJ
import Derived.Test.YtcmipbleijmpjaaGreatDoorDataK
import Derived.Test.YtcmipbleijmpjaaGreatDoorDataG
import Derived.Test.YtcmipbleijmpjaaGreatDoorDataL
set_option linter.unusedVariables false
set_option linter.unusedSimpArgs false
set_option maxHeartbeats 4000000
set_option maxRecDepth 20000
namespace Go.AM.IR
theorem rBl {p q:Bool} (h:p=q):(⟨.bool p,[]⟩:Ret)=⟨.bool q,[]⟩:=by rw[h]
def EC (x:Nat) (n:Int):Pfx:=⟨((bu x (bI n):Nat):Int),n⟩
theorem Mn (x:Nat) (n:Int) (hx:x<4294967296):aq G 245 [.int .u32 (x:Int),.int .i64 n] [] ⟨.agg (EC x n).enc,[]⟩:=by
 have h:=qW x n hx
 refine ab (F:=f245) rfl rfl (am 300 _ _ _ _ ?_)
 repeat' (first|refine ae ?_|(refine aa ?_ ?_<;>intro h))
 refine ag ?_;(conv=>whnf);refine Go.AM.finC ?_
 rfl
def eqP (p q:Pfx):Bool:=decide (p.addr=q.addr∧p.len=q.len)
def ta (p:Pfx) (x:Nat):Bool:=ba p&&eqP (EC x p.len) p
theorem rg (p:Pfx) (h:p.ok) (x:Nat) (hx:x<4294967296):aq G 235 [.agg p.enc,.int .u32 (x:Int)] [] ⟨.bool (ta p x),[]⟩:=by
 have hv:=eW p h
 have ho:=Mn x p.len hx
 unfold ta
 generalize EC x p.len=k at*
 cases hvp:ba p
 ·rw[hvp] at hv
  exact gvA (F:=Rk)
 ·rw[hvp] at hv
  refine ab (F:=Rk) rfl rfl (am 300 _ _ _ _ ?_)
  repeat' (first|refine ae ?_|(refine aa ?_ ?_<;>intro h))
  refine ag ?_
  refine rBl ?_
  rw[eqP,Bool.eq_iff_iff];simp
theorem xb {a:Int} (h:okU a):a=(a.toNat:Nat)∧a.toNat<4294967296:=by unfold okU at h;omega
def md (p q:Pfx):Bool:=ba q&&(decide (p.len≤q.len)&&ta p q.addr.toNat)
theorem sg (p q:Pfx) (hp:p.ok) (hq:q.ok):aq G 237 [.agg p.enc,.agg q.enc] [] ⟨.bool (md p q),[]⟩:=by
 obtain ⟨e,hx⟩:=xb hq.addr
 have hv:=eW q hq
 have hc:=rg p hp q.addr.toNat hx
 rw[←e] at hc
 unfold md
 generalize ta p q.addr.toNat=ct at*
 cases hvp:ba q
 ·rw[hvp] at hv
  exact gvA (F:=JQ)
 ·rw[hvp] at hv
  by_cases hl:p.len≤q.len
  ·rw[show decide (p.len≤q.len)=true from by simp[hl]]
   exact gvA (F:=JQ)
  ·rw[show decide (p.len≤q.len)=false from by simp[hl]]
   exact gvA (F:=JQ)
theorem Dv (p q:Pfx) (hp:p.ok) (hq:q.ok):aq G 241 [.agg p.enc,.agg q.enc] [] ⟨.bool (md p q||md q p),[]⟩:=by
 have h1:=sg p q hp hq
 have h2:=sg q p hq hp
 generalize md p q=a at*
 generalize md q p=b at*
 cases a
 ·exact gvA (F:=f241)
 ·exact gvA (F:=f241)
theorem sr (p q:Pfx):aq G 172 [.agg p.enc,.agg q.enc] [] ⟨.int .i64 (cU p q),[]⟩:=by
 have hee:(p=q)↔ (p.addr=q.addr∧p.len=q.len):=by cases p;cases q;simp
 by_cases h1:p.addr<q.addr
 ·rw[show cU p q= -1 from by simp[cU,h1]]
  refine ab (F:=f172) rfl rfl (am 300 _ _ _ _ ?_)
  repeat' (first|refine ae ?_|(refine aa ?_ ?_<;>intro h))
  all_goals (refine ag ?_;first|rfl|(exfalso;omega))
 ·by_cases h2:p.addr=q.addr
  ·by_cases h3:p.len<q.len
   ·rw[show cU p q= -1 from by simp[cU,h2,h3]]
    refine ab (F:=f172) rfl rfl (am 300 _ _ _ _ ?_)
    repeat' (first|refine ae ?_|(refine aa ?_ ?_<;>intro h))
    all_goals (refine ag ?_;first|rfl|(exfalso;omega))
   ·by_cases h4:p.len=q.len
    ·rw[show cU p q=0 from by simp[cU,h2,h4,hee]]
     refine ab (F:=f172) rfl rfl (am 300 _ _ _ _ ?_)
     repeat' (first|refine ae ?_|(refine aa ?_ ?_<;>intro h))
     all_goals (refine ag ?_;first|rfl|(exfalso;omega))
    ·rw[show cU p q=1 from by simp[cU,h2,h3,h4,hee]]
     refine ab (F:=f172) rfl rfl (am 300 _ _ _ _ ?_)
     repeat' (first|refine ae ?_|(refine aa ?_ ?_<;>intro h))
     all_goals (refine ag ?_;first|rfl|(exfalso;omega))
  ·rw[show cU p q=1 from by simp[cU,h1,h2,hee]]
   refine ab (F:=f172) rfl rfl (am 300 _ _ _ _ ?_)
   repeat' (first|refine ae ?_|(refine aa ?_ ?_<;>intro h))
   all_goals (refine ag ?_;first|rfl|(exfalso;omega))
def qR (x y:Int):Int:=if x<y then-1 else if y<x then 1 else 0
theorem tK (x:Int):aq G 56 [.int .u32 x] [] ⟨.bool false,[]⟩:=by
 refine ab (F:=f56) rfl rfl (am 300 _ _ _ _ ?_)
 repeat' (first|refine ae ?_|(refine aa ?_ ?_<;>intro h))
 all_goals try (exfalso;first|omega|(simp_all;done))
 all_goals (refine ag ?_;first|rfl|simp)
theorem Na (x y:Int):aq G 43 [.int .u32 x,.int .u32 y] [] ⟨.int .i64 (qR x y),[]⟩:=by
 have h1:=tK x
 have h2:=tK y
 unfold qR
 by_cases a:x<y
 ·rw[if_pos a]
  exact gvA (F:=f43)
 ·by_cases b:y<x
  ·rw[if_neg a,if_pos b]
   exact gvA (F:=f43)
  ·rw[if_neg a,if_neg b]
   exact gvA (F:=f43)
theorem QE (x y:Int):aq G 41 [.sl 1 [[.int .i64 x],[.int .i64 y]]] [] ⟨.int .i64 (if x=0 then y else x),[]⟩:=by
 have hx:([[.int .i64 x],[.int .i64 y]]:List (List AV))[(0:Int).toNat]? =some [.int .i64 x]:=rfl
 have hy:([[.int .i64 x],[.int .i64 y]]:List (List AV))[(0+1:Int).toNat]? =some [.int .i64 y]:=rfl
 have hl:([[.int .i64 x],[.int .i64 y]]:List (List AV)).length=2:=rfl
 by_cases a:x=0
 ·subst a
  rw[if_pos rfl]
  by_cases b:y=0
  ·subst b
   refine ab (F:=f41) rfl rfl (am 300 _ _ _ _ ?_)
   repeat' (first|refine ae ?_|(refine aa ?_ ?_<;>intro h))
   refine evl ?_
   repeat' (first|refine ae ?_|(refine aa ?_ ?_<;>intro h))
   refine evl ?_
   repeat' (first|refine ae ?_|(refine aa ?_ ?_<;>intro h))
   refine evl ?_
   repeat' (first|refine ae ?_|(refine aa ?_ ?_<;>intro h))
   refine ag ?_;rfl
  ·refine ab (F:=f41) rfl rfl (am 300 _ _ _ _ ?_)
   repeat' (first|refine ae ?_|(refine aa ?_ ?_<;>intro h))
   refine evl ?_
   repeat' (first|refine ae ?_|(refine aa ?_ ?_<;>intro h))
   refine evl ?_
   repeat' (first|refine ae ?_|(refine aa ?_ ?_<;>intro h))
   refine ag ?_;rfl
 ·rw[if_neg a]
  refine ab (F:=f41) rfl rfl (am 300 _ _ _ _ ?_)
  repeat' (first|refine ae ?_|(refine aa ?_ ?_<;>intro h))
  refine evl ?_
  repeat' (first|refine ae ?_|(refine aa ?_ ?_<;>intro h))
  refine ag ?_;rfl
end Go.AM.IR
namespace Go.AM.IR
theorem iB (n a b:Int):aq G 612 [.int .i64 n,.int .i64 a,.int .i64 b] [] ⟨.bool (wi n a b),[]⟩:=by
 unfold wi
 by_cases h1:a≤n
 ·by_cases h2:n≤b
  ·rw[decide_eq_true ⟨h1,h2⟩]
   refine ab (F:=IL) rfl rfl (am 300 _ _ _ _ ?_)
   repeat' (first|refine ae ?_|(refine aa ?_ ?_<;>intro h))
   refine ag ?_;first|rfl|simp[h1,h2]
  ·rw[decide_eq_false (fun q=>h2 q.2)]
   refine ab (F:=IL) rfl rfl (am 300 _ _ _ _ ?_)
   repeat' (first|refine ae ?_|(refine aa ?_ ?_<;>intro h))
   refine ag ?_;first|rfl|simp[h2]
 ·rw[decide_eq_false (fun q=>h1 q.1)]
  refine ab (F:=IL) rfl rfl (am 300 _ _ _ _ ?_)
  repeat' (first|refine ae ?_|(refine aa ?_ ?_<;>intro h))
  refine ag ?_;first|rfl|simp[h1]
theorem zL (p:Pfx) (a:Int):ta p a.toNat=(ba p&&inP p a):=by
 unfold ta
 cases hv:ba p with
 |false=>rfl
 |true=>
  have l:=of_decide_eq_true hv
  rw[Bool.true_and,Bool.true_and,eqP,inP,EC]
  have hc:bI p.len=p.len.toNat:=by unfold bI;split<;>(try split)<;>omega
  rw[hc]
  simp
theorem MI (x:Ifc) (hx:x.ok):aq G 561 [.agg x.enc] [] ⟨.int .i64 (ifE x),[]⟩:=by
 obtain ⟨hp,ha⟩:x.pfx.ok∧okU x.addr:=⟨hx.2.1,hx.2.2.1⟩
 obtain ⟨e,hn⟩:=xb ha
 have h1:=iB x.kind 1 3
 have h2:=rg x.pfx hp x.addr.toNat hn
 rw[←e,zL] at h2
 have h2:aq G 235 [.agg [.int .u32 x.pfx.addr,.int .i64 x.pfx.len],.int .u32 x.addr] [] ⟨.bool (ba x.pfx&&inP x.pfx x.addr),[]⟩:=h2
 have h3:=iB x.cost 1 65535
 have h4:=iB x.prio 0 255
 have h5:=iB x.hello 1 65535
 have h6:=iB x.dead x.hello 65535
 unfold ifE
 generalize wi x.kind 1 3=K at*
 generalize wi x.cost 1 65535=A at*
 generalize wi x.prio 0 255=B at*
 generalize wi x.hello 1 65535=C at*
 generalize wi x.dead x.hello 65535=D at*
 generalize ba x.pfx=V at*
 generalize inP x.pfx x.addr=I at*
 cases K
 ·exact gvA (F:=nv)
 by_cases a0:x.addr=0
 ·have hr:(if V=false then (1:Int) else if x.addr=0 then 1 else if I=false then 1 else if A=false then 5 else if B=false then 5 else if C=false then 5 else if D=false then 5 else 0)=1:=by cases V<;>simp[a0]
  rw[if_neg (by simp),hr]
  exact gvA (F:=nv)
 cases V
 ·exact gvA (F:=nv)
 cases I
 ·refine ab (F:=nv) rfl rfl (am 300 _ _ _ _ ?_)
  repeat' (first|refine ae ?_|(refine aa ?_ ?_<;>intro h))
  refine ag ?_
  simp[a0]
 rw[if_neg (by simp),if_neg (by simp),if_neg a0,if_neg (by simp)]
 cases A
 ·exact gvA (F:=nv)
 cases B
 ·exact gvA (F:=nv)
 cases C
 ·exact gvA (F:=nv)
 cases D
 ·exact gvA (F:=nv)
 ·exact gvA (F:=nv)
theorem abP (p q:Pfx) (hp:p.ok) (hq:q.ok) (vp:ba p=true) (vq:ba q=true):(md p q||md q p)=ovE p q:=by
 have lp:=of_decide_eq_true vp
 have lq:=of_decide_eq_true vq
 obtain ⟨ep,_⟩:=xb hp.1
 obtain ⟨eq,_⟩:=xb hq.1
 have c1:md p q=(decide (p.len≤q.len)&&inP p q.addr):=by
  unfold md;rw[zL,vp,vq];simp
 have c2:md q p=(decide (q.len≤p.len)&&inP q p.addr):=by
  unfold md;rw[zL,vp,vq];simp
 rw[c1,c2]
 unfold ovE inP
 rw[Bool.eq_iff_iff]
 simp only[Bool.or_eq_true,Bool.and_eq_true,decide_eq_true_eq]
 rcases Int.lt_trichotomy p.len q.len with h|h|h
 ·rw[Int.min_eq_left (by omega)]
  constructor
  ·rintro (⟨_,w⟩|⟨w,_⟩)<;>omega
  ·intro w;left;omega
 ·rw[h,Int.min_self]
  rw[h] at lp
  constructor
  ·rintro (⟨_,w⟩|⟨_,w⟩)<;>omega
  ·intro w;left;omega
 ·rw[Int.min_eq_right (by omega)]
  constructor
  ·rintro (⟨w,_⟩|⟨_,w⟩)<;>omega
  ·intro w;right;omega
end Go.AM.IR
namespace Go.AM.IR
def ciE (l:List Ifc):Int:=if bb ifE l=0 then (if ovT [] l=true then 7 else 0) else bb ifE l
theorem Pd (l pre:List Ifc) (hl:l.length<2^40) (x:Ifc) (g7:Nat) (n:Int) (hn0:0≤n) (hn1:n<2^40) (hp:pre.length<2^40) (hx:x.pfx.ok∧ba x.pfx=true) (hok: ∀y∈pre,y.pfx.ok∧ba y.pfx=true) (R:Ret)
  (go:pre.any (fun y=>ovE x.pfx y.pfx)=false→ ∀(T:List (Nat×AV)) (H:ax) (c:Nat),Ev G ⟨BP,⟨(24,.int .i64 (n+1))::(0,.sl 9 (l.map Ifc.enc))::(22,.sl 9 (l.map Ifc.enc))::(23,.int .i64 l.length)::T,H,c⟩,[.t 2],0⟩ R)
  (hR:pre.any (fun y=>ovE x.pfx y.pfx)=true→R=⟨.int .i64 7,[]⟩): ∀(rest d:List Ifc) (T:List (Nat×AV)) (H:ax) (c:Nat) (k:Int) (e:pre=d++rest) (hk:k=d.length) (hd:d.any (fun y=>ovE x.pfx y.pfx)=false),
  Ev G ⟨S8,⟨(33,.int .i64 k)::(7,.ref 71 g7 0)::(31,.sl 9 (pre.map Ifc.enc))::(0,.sl 9 (l.map Ifc.enc))::(22,.sl 9 (l.map Ifc.enc))::(23,.int .i64 l.length)::(24,.int .i64 n)::(32,.int .i64 pre.length)::T,(71,some (g7,.cells x.enc))::H,c⟩,[.t 2],0⟩ R
 | [],d,T,H,c,k,e,hk,hd=>by
  have hle:pre.length=d.length:=by simp[e]
  obtain rfl:pre=d:=by simpa using e
  refine evl ?_
  repeat' (first|refine ae ?_|(refine aa ?_ ?_<;>intro h))
  refine ah [24,0,22,23] [] ?_
  exact go hd _ _ _
 |y::r,d,T,H,c,k,e,hk,hd=>by
  have hle:pre.length=d.length+(r.length+1):=by simp[e]
  have hll:(pre.map Ifc.enc).length=pre.length:=by simp
  have hy:(pre.map Ifc.enc)[k.toNat]? =some y.enc:=by simp[e,hk]
  obtain ⟨q1,q2⟩:=hok y (by simp[e])
  have h1:=Dv x.pfx y.pfx hx.1 q1
  rw[abP x.pfx y.pfx hx.1 q1 hx.2 q2] at h1
  have h1:aq G 241 [.agg [.int .u32 x.pfx.addr,.int .i64 x.pfx.len],.agg [.int .u32 y.pfx.addr,.int .i64 y.pfx.len]] [] ⟨.bool (ovE x.pfx y.pfx),[]⟩:=h1
  cases ho:ovE x.pfx y.pfx with
  |true=>
   rw[ho] at h1
   rw[hR (by rw[e];simp[ho])]
   refine evl ?_
   repeat' (first|refine ae ?_|(refine aa ?_ ?_<;>intro h))
   refine ag ?_;rfl
  |false=>
   rw[ho] at h1
   have ih:=fun T H c=>Pd l pre hl x g7 n hn0 hn1 hp hx hok R go hR r (d++[y]) T H c (k+1) (by simp[e]) (by simp[hk]) (by simp[hd,ho])
   refine evl ?_
   repeat' (first|refine ae ?_|(refine aa ?_ ?_<;>intro h))
   refine ah [33,7,31,0,22,23,24,32] [71] ?_
   exact ih _ _ _
theorem Cz (l:List Ifc) (hl:l.length<2^40) (hok: ∀y∈l,y.pfx.ok∧ba y.pfx=true): ∀(rest d:List Ifc) (T:List (Nat×AV)) (H:ax) (c:Nat) (n:Int) (e:l=d++rest) (hn:n=d.length),
  Ev G ⟨BP,⟨(24,.int .i64 n)::(0,.sl 9 (l.map Ifc.enc))::(22,.sl 9 (l.map Ifc.enc))::(23,.int .i64 l.length)::T,H,c⟩,[.t 2],0⟩ ⟨.int .i64 (if ovT d rest=true then 7 else 0),[]⟩
 | [],d,T,H,c,n,e,hn=>by
  have hle:l.length=d.length:=by simp[e]
  rw[ovT,if_neg (by simp)]
  refine evl ?_
  repeat' (first|refine ae ?_|(refine aa ?_ ?_<;>intro h))
  refine ag ?_;rfl
 |x::r,d,T,H,c,n,e,hn=>by
  have hle:l.length=d.length+(r.length+1):=by simp[e]
  have hll:(l.map Ifc.enc).length=l.length:=by simp
  have hx:(l.map Ifc.enc)[n.toNat]? =some x.enc:=by simp[e,hn]
  have hE:List.take (n.toNat-0) (List.drop 0 (l.map Ifc.enc))=d.map Ifc.enc:=by rw[e,hn];simp
  have hL:(List.take (n.toNat-0) (List.drop 0 (l.map Ifc.enc))).length=d.length:=by rw[hE];simp
  rw[ovT]
  refine evl ?_
  repeat' (first|refine ae ?_|(refine aa ?_ ?_<;>intro h))
  refine ah [33,7,31,0,22,23,24,32] [71] ?_
  rw[hL,hE]
  refine Pd l d hl x _ n (by omega) (by omega) (by omega) (hok x (by simp[e])) (fun y hy=>hok y (by simp[e,hy])) _ (fun h0 T H c=>?_) (fun h1=>?_) d [] _ _ _ 0 rfl rfl rfl
  ·rw[h0,Bool.false_or]
   exact Cz l hl hok r (d++[x]) T H c (n+1) (by simp[e]) (by simp[hn])
  ·rw[h1,Bool.true_or,if_pos rfl]
theorem SD {x:Ifc} (h:ifE x=0):ba x.pfx=true:=by
 unfold ifE at h
 split at h
 ·omega
 split at h
 ·omega
 ·rename_i h2;simpa using h2
theorem tN: ∀ {l:List Ifc},bb ifE l=0→ ∀y∈l,ba y.pfx=true
 |x::r,h,y,hy=>by
  rw[bb] at h
  split at h
  ·rename_i h0
   rcases List.mem_cons.1 hy with rfl|hy
   ·exact SD h0
   ·exact tN h y hy
  ·rename_i h0;exact absurd h h0
theorem Kp (l:List Ifc) (hl:l.length<2^40) (hok: ∀y∈l,y.ok): ∀(rest d:List Ifc) (T:List (Nat×AV)) (H:ax) (c:Nat) (n:Int) (e:l=d++rest) (hn:n=d.length) (hz:bb ifE l=bb ifE rest),
  Ev G ⟨Yt,⟨(12,.int .i64 n)::(10,.sl 9 (l.map Ifc.enc))::(0,.sl 9 (l.map Ifc.enc))::(11,.int .i64 l.length)::T,H,c⟩,[.t 2],0⟩ ⟨.int .i64 (ciE l),[]⟩
 | [],d,T,H,c,n,e,hn,hz=>by
  have hle:l.length=d.length:=by simp[e]
  have hll:(l.map Ifc.enc).length=l.length:=by simp
  have h0:bb ifE l=0:=hz
  have hv:=tN h0
  rw[ciE,if_pos h0]
  refine evl ?_
  repeat' (first|refine ae ?_|(refine aa ?_ ?_<;>intro h))
  refine ah [24,0,22,23] [] ?_
  rw[hll]
  exact Cz l hl (fun y hy=>⟨(hok y hy).2.1,hv y hy⟩) l [] _ _ _ 0 rfl rfl
 |x::r,d,T,H,c,n,e,hn,hz=>by
  have hle:l.length=d.length+(r.length+1):=by simp[e]
  have hll:(l.map Ifc.enc).length=l.length:=by simp
  have hx:(l.map Ifc.enc)[n.toNat]? =some x.enc:=by simp[e,hn]
  have h1:=MI x (hok x (by simp[e]))
  rw[bb] at hz
  have ih:=fun hz T H c=>Kp l hl hok r (d++[x]) T H c (n+1) (by simp[e]) (by simp[hn]) hz
  generalize ifE x=E at*
  by_cases h0:E=0
  ·rw[if_pos h0] at hz
   subst h0
   refine evl ?_
   repeat' (first|refine ae ?_|(refine aa ?_ ?_<;>intro h))
   refine ah [12,10,0,11] [] ?_
   exact ih hz _ _ _
  ·rw[if_neg h0] at hz
   rw[ciE,hz,if_neg h0]
   refine evl ?_
   repeat' (first|refine ae ?_|(refine aa ?_ ?_<;>intro h))
   refine ag ?_;rfl
theorem Nh (l:List Ifc) (hl:l.length<2^40) (hok: ∀y∈l,y.ok):aq G 490 [.sl 9 (l.map Ifc.enc)] [] ⟨.int .i64 (ciE l),[]⟩:=by
 have hll:(l.map Ifc.enc).length=l.length:=by simp
 refine ab (F:=Yu) rfl rfl (am 300 _ _ _ _ ?_)
 repeat' (first|refine ae ?_|(refine aa ?_ ?_<;>intro h))
 refine ah [12,10,0,11] [] ?_
 rw[hll]
 exact Kp l hl hok l [] _ _ _ 0 rfl rfl rfl
end Go.AM.IR
namespace Go.AM.IR
def orC (a x:ARange):Int:=if qR a.area x.area=0 then cU a.pfx x.pfx else qR a.area x.area
theorem aaq (a x:ARange):(0≤orC a x↔nh a x=false):=by
 have hee:(a.pfx=x.pfx)↔ (a.pfx.addr=x.pfx.addr∧a.pfx.len=x.pfx.len):=by
  obtain ⟨_,⟨_,_⟩,_⟩:=a;obtain ⟨_,⟨_,_⟩,_⟩:=x;simp
 unfold orC nh qR cU
 simp only[decide_eq_false_iff_not,hee]
 (repeat' split)<;>omega
theorem Br (q:LSC) (hc:q.ranges.length<2^40) (hok: ∀x∈q.ranges,x.pfx.ok): ∀(rest done:List ARange) (T:List (Nat×AV)) (H:ax) (c:Nat) (n:Int) (e:q.ranges=done++rest) (hn:n=done.length),
  Ev G ⟨Tq,⟨(36,.int .i64 n)::(1,.ref 65 1 0)::(34,.sl 4 (q.ranges.map ARange.enc))::(35,.int .i64 q.ranges.length)::T,(65,some (1,.cells q.enc))::H,c⟩,[.t 2],0⟩ ⟨.int .i64 (ku done rest),[]⟩
 | [],done,T,H,c,n,e,hn=>by
  have hd:q.ranges.length=done.length:=by simp[e]
  rw[ku]
  refine evl ?_
  repeat' (first|refine ae ?_|(refine aa ?_ ?_<;>intro h))
  refine ag ?_;rfl
 |x::r,done,T,H,c,n,e,hn=>by
  have hd:q.ranges.length=done.length+(r.length+1):=by simp[e]
  have m1:(q.ranges.map ARange.enc).length=q.ranges.length:=by simp
  have hx:(q.ranges.map ARange.enc)[n.toNat]? =some x.enc:=by simp[e,hn]
  have hv:aq G 178 [.agg [.int .u32 x.pfx.addr,.int .i64 x.pfx.len]] [] ⟨.bool (ba x.pfx),[]⟩:=eW x.pfx (hok x (by simp[e]))
  have ih:=fun T H c=>Br q hc hok r (done++[x]) T H c (n+1) (by simp[e]) (by simp[hn])
  rw[ku]
  cases hvp:ba x.pfx with
  |false=>
   rw[hvp] at hv
   rw[if_pos rfl]
   refine evl ?_
   repeat' (first|refine ae ?_|(refine aa ?_ ?_<;>intro h))
   refine ag ?_;rfl
  |true=>
   rw[hvp] at hv
   rw[if_neg (by simp)]
   cases hl:done.getLast? with
   |none=>
    have h0:done= []:=by simpa using hl
    subst h0
    obtain rfl:n=0:=by simpa using hn
    rw[if_neg (by simp)]
    refine evl ?_
    repeat' (first|refine ae ?_|(refine aa ?_ ?_<;>intro h))
    refine ah [36,1,34,35] [65] ?_
    exact ih _ _ _
   |some a=>
    have hne:0<done.length:=by
     cases done with
     |nil=>simp at hl
     |cons y s=>simp
    have ha:(q.ranges.map ARange.enc)[(n-1).toNat]? =some a.enc:=by
     rw[List.getLast?_eq_getElem?] at hl
     have:(n-1).toNat=done.length-1:=by omega
     rw[this,List.getElem?_map,e,List.getElem?_append_left (by omega),hl];rfl
    have hp:(0:Int)<n:=by omega
    have g1:=Na a.area x.area
    have g2:aq G 172 [.agg [.int .u32 a.pfx.addr,.int .i64 a.pfx.len],.agg [.int .u32 x.pfx.addr,.int .i64 x.pfx.len]] [] ⟨.int .i64 (cU a.pfx x.pfx),[]⟩:=sr a.pfx x.pfx
    have g3:=QE (qR a.area x.area) (cU a.pfx x.pfx)
    have ho:=aaq a x
    unfold orC at ho
    generalize (if qR a.area x.area=0 then cU a.pfx x.pfx else qR a.area x.area)=V at*
    generalize qR a.area x.area=V1 at*
    generalize cU a.pfx x.pfx=V2 at*
    dsimp only
    by_cases hq:nh a x=true
    ·have hV: ¬0≤V:=fun h=>by rw[ho.1 h] at hq;cases hq
     rw[show (if (!nh a x)=true then (16:Int) else ku (done++[x]) r)=ku (done++[x]) r from by simp[hq]]
     refine evl ?_
     repeat' (first|refine ae ?_|refine kZ [(127,_,_)] ⟨rfl,pz trivial⟩ (g3) ?_|(refine aa ?_ ?_<;>intro h))
     all_goals try (exfalso;omega)
     refine ah [36,1,34,35] [65] ?_
     exact ih _ _ _
    ·have hV:0≤V:=ho.2 (by simpa using hq)
     rw[show (if (!nh a x)=true then (16:Int) else ku (done++[x]) r)=16 from by simp[hq]]
     refine evl ?_
     repeat' (first|refine ae ?_|refine kZ [(127,_,_)] ⟨rfl,pz trivial⟩ (g3) ?_|(refine aa ?_ ?_<;>intro h))
     all_goals try (exfalso;omega)
     refine ag ?_;rfl
theorem Mz (q:LSC) (hc:q.ifs.length<2^40) (hrg:q.ranges.length<2^40) (hok: ∀x∈q.ifs,x.ok) (hrok: ∀x∈q.ranges,x.pfx.ok):aq G 437 [.agg q.enc] [] ⟨.int .i64 (lsE q),[]⟩:=by
 have m1:(q.ifs.map Ifc.enc).length=q.ifs.length:=by simp
 have m2:(q.ranges.map ARange.enc).length=q.ranges.length:=by simp
 have h1:=Nh q.ifs hc hok
 unfold lsE
 by_cases a:q.router=0
 ·rw[if_pos a]
  exact gvA (F:=r9)
 rw[if_neg a]
 by_cases b:q.ifs= []
 ·have hz:q.ifs.length=0:=by rw[b];rfl
  rw[if_pos b]
  refine ab (F:=r9) rfl rfl (am 300 _ _ _ _ ?_)
  repeat' (first|refine ae ?_|(refine aa ?_ ?_<;>intro h))
  all_goals try (exfalso;omega)
  all_goals (refine ag ?_;rfl)
 have hz:q.ifs.length≠0:=fun h=>b (List.eq_nil_of_length_eq_zero h)
 rw[if_neg b]
 by_cases c1:16<q.ifs.length
 ·rw[if_pos c1]
  refine ab (F:=r9) rfl rfl (am 300 _ _ _ _ ?_)
  repeat' (first|refine ae ?_|(refine aa ?_ ?_<;>intro h))
  all_goals try (exfalso;omega)
  all_goals (refine ag ?_;rfl)
 rw[if_neg c1]
 by_cases c2:64<q.ranges.length
 ·rw[if_pos c2]
  refine ab (F:=r9) rfl rfl (am 300 _ _ _ _ ?_)
  repeat' (first|refine ae ?_|(refine aa ?_ ?_<;>intro h))
  all_goals try (exfalso;omega)
  all_goals (refine ag ?_;rfl)
 rw[if_neg c2]
 have hL:=fun T H c=>Br q hrg hrok q.ranges [] T H c 0 rfl rfl
 have hlsE:(if bb ifE q.ifs=0 then QK q else bb ifE q.ifs)=if ciE q.ifs=0 then ku [] q.ranges else ciE q.ifs:=by
  unfold ciE QK
  (repeat' split)<;>first|rfl|omega|(simp_all;done)
 rw[hlsE]
 generalize ciE q.ifs=E at*
 generalize ku [] q.ranges=F at*
 by_cases h0:E=0
 ·subst h0
  rw[if_pos rfl]
  refine ab (F:=r9) rfl rfl (am 300 _ _ _ _ ?_)
  repeat' (first|refine ae ?_|(refine aa ?_ ?_<;>intro h))
  all_goals try (exfalso;omega)
  refine ah [36,1,34,35] [65] ?_
  rw[m2]
  exact hL _ _ _
 ·rw[if_neg h0]
  refine ab (F:=r9) rfl rfl (am 300 _ _ _ _ ?_)
  repeat' (first|refine ae ?_|(refine aa ?_ ?_<;>intro h))
  all_goals try (exfalso;omega)
  all_goals (refine ag ?_;rfl)
end Go.AM.IR
namespace Go.AM.IR
def uj:Option Pol→Pol
 |none=>⟨[],[],0⟩
 |some x=>x
def ui (o:Option Pol):Ret:=⟨.tup [.agg (uj o).enc,.bool o.isSome],[]⟩
section
variable {kv:AV→Prop} {a b:List UInt8}
theorem adG (n: ¬a=b) (h:kv (.bool true)): ∃v,bv .neq (.str a) (.str b)=some v∧kv v:=⟨.bool true,by show some (AV.bool (!(a==b)))=_;simp[n],h⟩
theorem adH (n:a=b) (h:kv (.bool false)): ∃v,bv .neq (.str a) (.str b)=some v∧kv v:=⟨.bool false,by show some (AV.bool (!(a==b)))=_;simp[n],h⟩
end
theorem AH (l:List Trm) (hf: ∀x∈l,x.goodT) (p:Pol) (hp:p.terms=l) (g4:Nat) (hl:l.length<2^40) (ln:Int) (hln:ln=l.length): ∀(rest done:List Trm) (g8 g k:Nat) (es:List (List AV)) (T:List (Nat×AV)) (H:ax) (c:Nat) (n:Int) (e:l=done++rest) (hn:n=done.length) (hk:k=done.length) (hes:es=done.map Trm.enc),Ev G ⟨SS,⟨(28,.sl 4 (l.map Trm.enc))::(29,.int .i64 ln)::(30,.int .i64 n)::(8,.ref 72 g8 0)::(4,.ref 68 g4 0)::T,(72,some (g8,.cells [.str p.name,.vs 114 g k,.int .i64 p.dflt]))::(114,some (g,.vec 4 es))::(68,some (g4,.cells [.str [],.con (.slice none 0 0),.int .i64 0]))::H,c⟩,[.cell 4 (some 3),.t 5],0⟩ (ui (some p))
 | [],done,g8,g,k,es,T,H,c,n,e,hn,hk,hes=>by
  have hd:l.length=done.length:=by simp[e]
  have hll:(l.map Trm.enc).length=l.length:=by simp
  obtain rfl:l=done:=by simpa using e
  clear e
  subst hes hk
  have hdl:(l.map Trm.enc).length=l.length:=by simp
  refine jL [(114,_,_)] [8,4,28,29,30] [72,68] ⟨rfl,frP,trivial⟩ ?_;repeat ((conv=>whnf);first|refine frA ?_|intro T H)
  refine evl ?_
  repeat' (first|refine ae ?_|(refine aa ?_ ?_<;>intro h))
  refine ag ?_;(conv=>whnf);refine Go.AM.finC ?_
  simp[ui,uj,Pol.enc,hp]
 |x::r,done,g8,g,k,es,T,H,c,n,e,hn,hk,hes=>by
  have hd:l.length=done.length+(r.length+1):=by simp[e]
  have hll:(l.map Trm.enc).length=l.length:=by simp
  have hx:(l.map Trm.enc)[n.toNat]? =some (Trm.enc x):=by simp[e,hn]
  subst hes hk
  have hdl:(done.map Trm.enc).length=done.length:=by simp
  have q1:=(hf x (by simp[e])).ms
  have q2:=(hf x (by simp[e])).acz
  have m1:(x.mats.map Mat.enc).length=x.mats.length:=by simp
  have m2:(x.acts.map Actn.enc).length=x.acts.length:=by simp
  refine evl ?_
  repeat' (first|refine ae ?_|refine kB [(102,_,_),(106,_,_)] ⟨rfl,pz ⟨rfl,pz trivial⟩⟩ ?_|(refine aa ?_ ?_<;>intro h))
  refine ah [28,29,30,8,4] [72,114,68] ?_;exact AH l hf p hp g4 hl ln hln r (done++[x]) _ _ _ _ _ _ _ (n+1) (by simp[e]) (by simp[hn]<;>omega) (by simp) (by simp[Trm.enc])
theorem AG (l:List Pol) (hf: ∀x∈l,x.terms.length<2^40∧ ∀t∈x.terms,t.goodT) (k:List UInt8) (g4:Nat) (hl:l.length<2^40) (ln:Int) (hln:ln=l.length): ∀(rest done:List Pol)  (T:List (Nat×AV)) (H:ax) (c:Nat) (n:Int) (e:l=done++rest) (hn:n=done.length),Ev G ⟨SR,⟨(12,.sl 3 (l.map Pol.enc))::(13,.int .i64 ln)::(14,.int .i64 n)::(4,.ref 68 g4 0)::(1,.str k)::T,(68,some (g4,.cells [.str [],.con (.slice none 0 0),.int .i64 0]))::H,c⟩,[.cell 4 (some 3),.t 5],0⟩ (ui (f8 rest k))
 | [],done,  T,H,c,n,e,hn=>by
  have hd:l.length=done.length:=by simp[e]
  have hll:(l.map Pol.enc).length=l.length:=by simp
  refine evl ?_
  repeat' (first|refine ae ?_|(refine aa ?_ ?_<;>intro h))
  refine ec [] [(68,some (_,.cells ((uj none).enc)))] trivial ⟨⟨rfl,leA⟩,trivial⟩ ?_
  refine ag ?_;(conv=>whnf);refine Go.AM.finC ?_;rfl
 |x::r,done,  T,H,c,n,e,hn=>by
  have hd:l.length=done.length+(r.length+1):=by simp[e]
  have hll:(l.map Pol.enc).length=l.length:=by simp
  have hx:(l.map Pol.enc)[n.toNat]? =some (Pol.enc x):=by simp[e,hn]
  have hq:=hf x (by simp[e])
  have hq1:=hq.1
  have m1:(x.terms.map Trm.enc).length=x.terms.length:=by simp
  by_cases hk:x.name=k
  ·rw[f8,if_pos hk]
   refine evl ?_
   repeat' ((conv=>whnf);first|refine adH hk ?_|refine ay ?_|(refine aa ?_ ?_<;>intro h))
   refine ka 114 4 [] [(72,some (_,.cells [.str x.name,.vs 114 _ 0,.int .i64 x.dflt]))] trivial ⟨⟨rfl,.refl _,LeP.nilV _ _ _,.refl _,trivial⟩,trivial⟩ ?_
   refine ah [28,29,30,8,4] [72,114,68] ?_
   rw[m1]
   exact AH x.terms hq.2 x rfl _ hq1 _ rfl x.terms [] _ _ _ _ _ _ _ 0 rfl rfl rfl rfl
  ·rw[f8,if_neg hk]
   refine evl ?_
   repeat' ((conv=>whnf);first|refine adG hk ?_|refine ay ?_|(refine aa ?_ ?_<;>intro h))
   refine ah [12,13,14,4,1] [68] ?_;exact AG l hf k g4 hl ln hln r (done++[x])  _ _ _ (n+1) (by simp[e]) (by simp[hn]<;>omega)
theorem rb (s:PSet) (hs:s.good) (k:List UInt8):aq G 566 [.agg s.enc,.str k] [] (ui (f8 s.pols k)):=by
 have hll:(s.pols.map Pol.enc).length=s.pols.length:=by simp
 refine ab (F:=XV) rfl rfl (am 300 _ _ _ _ ?_)
 repeat' (first|refine ae ?_|(refine aa ?_ ?_<;>intro h))
 refine ah [12,13,14,4,1] [68] ?_
 rw[hll]
 exact AG s.pols (fun x hx=>(hs.pol x hx).2) k _ hs.d _ rfl s.pols [] _ _ _ 0 rfl rfl
theorem fU (n a b:Int):aq G 562 [.int .i64 n,.int .i64 a,.int .i64 b] [] ⟨.bool (!wi n a b),[]⟩:=by
 unfold wi
 by_cases h1:n<a
 ·rw[decide_eq_false (fun q=>by omega)]
  refine ab (F:=IV) rfl rfl (am 300 _ _ _ _ ?_)
  repeat' (first|refine ae ?_|(refine aa ?_ ?_<;>intro h))
  refine ag ?_;first|rfl|simp[h1]
 ·by_cases h2:n>b
  ·rw[decide_eq_false (fun q=>by omega)]
   refine ab (F:=IV) rfl rfl (am 300 _ _ _ _ ?_)
   repeat' (first|refine ae ?_|(refine aa ?_ ?_<;>intro h))
   refine ag ?_;first|rfl|simp[h2]
  ·rw[decide_eq_true ⟨by omega,by omega⟩]
   refine ab (F:=IV) rfl rfl (am 300 _ _ _ _ ?_)
   repeat' (first|refine ae ?_|(refine aa ?_ ?_<;>intro h))
   refine ag ?_;first|rfl|simp[h2]
theorem jW (n a b:Int):aq G 613 [.int .i64 n,.int .i64 a,.int .i64 b] [] ⟨.bool (!wi n a b),[]⟩:=by
 unfold wi
 by_cases h1:n<a
 ·rw[decide_eq_false (fun q=>by omega)]
  refine ab (F:=IK) rfl rfl (am 300 _ _ _ _ ?_)
  repeat' (first|refine ae ?_|(refine aa ?_ ?_<;>intro h))
  refine ag ?_;first|rfl|simp[h1]
 ·by_cases h2:n>b
  ·rw[decide_eq_false (fun q=>by omega)]
   refine ab (F:=IK) rfl rfl (am 300 _ _ _ _ ?_)
   repeat' (first|refine ae ?_|(refine aa ?_ ?_<;>intro h))
   refine ag ?_;first|rfl|simp[h2]
  ·rw[decide_eq_true ⟨by omega,by omega⟩]
   refine ab (F:=IK) rfl rfl (am 300 _ _ _ _ ?_)
   repeat' (first|refine ae ?_|(refine aa ?_ ?_<;>intro h))
   refine ag ?_;first|rfl|simp[h2]
theorem rI (q:PVC) (g:q.pols.good) (k:List UInt8):aq G 615 [.agg q.enc,.str k] [] ⟨.bool (!iL q.pols k),[]⟩:=by
 have h1:aq G 566 [.agg [.sl 2 (q.pols.prefixes.map PList.enc),.sl 2 (q.pols.paths.map PathL.enc),.sl 2 (q.pols.comms.map ComL.enc),.sl 3 (q.pols.pols.map Pol.enc)],.str k] [] (ui (f8 q.pols.pols k)):=rb q.pols g k
 unfold iL
 unfold ui at h1
 generalize f8 q.pols.pols k=o at*
 have hp:=nJ (uj o)
 generalize hP:uj o=P at*
 obtain ⟨nm,ts,d⟩:=P
 have h1:aq G 566 [.agg [.sl 2 (q.pols.prefixes.map PList.enc),.sl 2 (q.pols.paths.map PathL.enc),.sl 2 (q.pols.comms.map ComL.enc),.sl 3 (q.pols.pols.map Pol.enc)],.str k] [] ⟨.tup [.agg [.str nm,.sl 4 (ts.map Trm.enc),.int .i64 d],.bool o.isSome],[]⟩:=h1
 cases o with
 |none=>
  by_cases hk:k= []
  ·subst hk
   refine ab (F:=IJ) rfl rfl (am 300 _ _ _ _ ?_)
   repeat' ((conv=>whnf);first|refine VK ?_|refine ay ?_|(refine aa ?_ ?_<;>intro h))
   refine ag ?_;rfl
  ·rw[decide_eq_false hk]
   refine ab (F:=IJ) rfl rfl (am 300 _ _ _ _ ?_)
   repeat' ((conv=>whnf);first|refine Fq hk ?_|refine ay ?_|(refine aa ?_ ?_<;>intro h))
   refine ag ?_;rfl
 |some x=>
  refine ab (F:=IJ) rfl rfl (am 300 _ _ _ _ ?_)
  repeat' (first|refine ae ?_|(refine aa ?_ ?_<;>intro h))
  refine ag ?_;simp
end Go.AM.IR
namespace Go.AM.IR
theorem aaV (c:DampC):e9 c=if wi c.half 1 86400=true then if wi c.reuse 1 20000=true then if wi c.suppress (c.reuse+1) 20000=true then if wi c.maxTime c.half (16*c.half)=true then 0 else 5 else 5 else 5 else 5:=by
 simp only[e9,wi,decide_eq_true_eq]
 repeat' split
 all_goals first|rfl|(exfalso;omega)
theorem sd (c:DampC):aq G 564 [.agg c.enc] [] ⟨.int .i64 (e9 c),[]⟩:=by
 have h1:=jW c.half 1 86400
 have h2:=jW c.reuse 1 20000
 have h3:=jW c.suppress (c.reuse+1) 20000
 have h4:=jW c.maxTime c.half (16*c.half)
 rw[aaV]
 by_cases w1:wi c.half 1 86400=true
 ·rw[if_pos w1]
  rw[w1] at h1
  have w1':1≤c.half∧c.half≤86400:=by simpa[wi] using w1
  obtain ⟨u1,u2⟩:=w1'
  by_cases w2:wi c.reuse 1 20000=true
  ·rw[if_pos w2]
   rw[w2] at h2
   have w2':1≤c.reuse∧c.reuse≤20000:=by simpa[wi] using w2
   obtain ⟨u3,u4⟩:=w2'
   by_cases w3:wi c.suppress (c.reuse+1) 20000=true
   ·rw[if_pos w3]
    rw[w3] at h3
    by_cases w4:wi c.maxTime c.half (16*c.half)=true
    ·rw[if_pos w4]
     rw[w4] at h4
     exact gvA (F:=uQ)
    ·rw[if_neg w4]
     rw[Bool.not_eq_true] at w4
     rw[w4] at h4
     exact gvA (F:=uQ)
   ·rw[if_neg w3]
    rw[Bool.not_eq_true] at w3
    rw[w3] at h3
    exact gvA (F:=uQ)
  ·rw[if_neg w2]
   rw[Bool.not_eq_true] at w2
   rw[w2] at h2
   exact gvA (F:=uQ)
 ·rw[if_neg w1]
  rw[Bool.not_eq_true] at w1
  rw[w1] at h1
  exact gvA (F:=uQ)
def z6 (c:PVC) (p:PeerC):Bool:=if p.kind=2∧c.confed=0 then false else if (p.asn=c.asn↔p.kind=3) then !decide (p.asn=c.confed) else false
theorem Lc (c:PVC) (p:PeerC):aq G 614 [.agg c.enc,.agg p.enc] [] ⟨.bool (z6 c p),[]⟩:=by
 by_cases h:p.kind=2∧c.confed=0
 ·rw[z6,if_pos h]
  obtain ⟨ha,hb⟩:=h
  refine ab (F:=ma) rfl rfl (am 300 _ _ _ _ ?_)
  repeat' ((conv=>whnf);first|refine bp ha ?_|refine bp hb ?_|refine ay ?_|(refine aa ?_ ?_<;>intro h))
  refine ag ?_;rfl
 rw[z6,if_neg h]
 by_cases k:p.kind=2
 ·have kb: ¬c.confed=0:=fun q=>h ⟨k,q⟩
  have k3: ¬p.kind=3:=by omega
  by_cases a:p.asn=c.asn
  ·rw[if_neg (by simp[a,k3])]
   refine ab (F:=ma) rfl rfl (am 300 _ _ _ _ ?_)
   repeat' ((conv=>whnf);first|refine bp k ?_|refine aY kb ?_|refine aY k3 ?_|refine bp a ?_|refine ay ?_|(refine aa ?_ ?_<;>intro h))
   refine ag ?_;rfl
  ·rw[if_pos (by simp[a,k3])]
   by_cases d:p.asn=c.confed
   ·rw[decide_eq_true d]
    refine ab (F:=ma) rfl rfl (am 300 _ _ _ _ ?_)
    repeat' ((conv=>whnf);first|refine bp k ?_|refine aY kb ?_|refine aY k3 ?_|refine aY a ?_|refine bc d ?_|refine ay ?_|(refine aa ?_ ?_<;>intro h))
    refine ag ?_;rfl
   ·rw[decide_eq_false d]
    refine ab (F:=ma) rfl rfl (am 300 _ _ _ _ ?_)
    repeat' ((conv=>whnf);first|refine bp k ?_|refine aY kb ?_|refine aY k3 ?_|refine aY a ?_|refine bj d ?_|refine ay ?_|(refine aa ?_ ?_<;>intro h))
    refine ag ?_;rfl
 ·by_cases k3:p.kind=3
  ·by_cases a:p.asn=c.asn
   ·rw[if_pos (by simp[a,k3])]
    by_cases d:p.asn=c.confed
    ·rw[decide_eq_true d]
     refine ab (F:=ma) rfl rfl (am 300 _ _ _ _ ?_)
     repeat' ((conv=>whnf);first|refine aY k ?_|refine bp k3 ?_|refine bp a ?_|refine bc d ?_|refine ay ?_|(refine aa ?_ ?_<;>intro h))
     refine ag ?_;rfl
    ·rw[decide_eq_false d]
     refine ab (F:=ma) rfl rfl (am 300 _ _ _ _ ?_)
     repeat' ((conv=>whnf);first|refine aY k ?_|refine bp k3 ?_|refine bp a ?_|refine bj d ?_|refine ay ?_|(refine aa ?_ ?_<;>intro h))
     refine ag ?_;rfl
   ·rw[if_neg (by simp[a,k3])]
    refine ab (F:=ma) rfl rfl (am 300 _ _ _ _ ?_)
    repeat' ((conv=>whnf);first|refine aY k ?_|refine bp k3 ?_|refine aY a ?_|refine ay ?_|(refine aa ?_ ?_<;>intro h))
    refine ag ?_;rfl
  ·by_cases a:p.asn=c.asn
   ·rw[if_neg (by simp[a,k3])]
    refine ab (F:=ma) rfl rfl (am 300 _ _ _ _ ?_)
    repeat' ((conv=>whnf);first|refine aY k ?_|refine aY k3 ?_|refine bp a ?_|refine ay ?_|(refine aa ?_ ?_<;>intro h))
    refine ag ?_;rfl
   ·rw[if_pos (by simp[a,k3])]
    by_cases d:p.asn=c.confed
    ·rw[decide_eq_true d]
     refine ab (F:=ma) rfl rfl (am 300 _ _ _ _ ?_)
     repeat' ((conv=>whnf);first|refine aY k ?_|refine aY k3 ?_|refine aY a ?_|refine bc d ?_|refine ay ?_|(refine aa ?_ ?_<;>intro h))
     refine ag ?_;rfl
    ·rw[decide_eq_false d]
     refine ab (F:=ma) rfl rfl (am 300 _ _ _ _ ?_)
     repeat' ((conv=>whnf);first|refine aY k ?_|refine aY k3 ?_|refine aY a ?_|refine bj d ?_|refine ay ?_|(refine aa ?_ ?_<;>intro h))
     refine ag ?_;rfl
theorem aam (c:PVC) (p:PeerC):pkE c p=if wi p.kind 1 3=true then if wi p.asn 1 4294967295=true then if z6 c p=true then 0 else 14 else 5 else 15:=by
 by_cases w:wi p.kind 1 3=true
 ·have w':1≤p.kind∧p.kind≤3:=by simpa[wi] using w
  rw[if_pos w]
  by_cases v:wi p.asn 1 4294967295=true
  ·have v':1≤p.asn∧p.asn≤4294967295:=by simpa[wi] using v
   rw[if_pos v,pkE,if_neg (by omega),if_neg (by omega),if_neg (by omega),if_neg (by omega)]
   unfold z6
   by_cases k:p.kind=3<;>by_cases a:p.asn=c.asn<;>by_cases d:p.asn=c.confed<;>by_cases e:p.kind=2<;>by_cases g:c.confed=0<;>simp[k,a,d,e,g]<;>first|done|omega|(simp_all;done)|(exfalso;omega)
  ·have v': ¬(1≤p.asn∧p.asn≤4294967295):=by simpa[wi] using v
   rw[if_neg v,pkE,if_neg (by omega),if_neg (by omega)]
   by_cases v2:p.asn<1
   ·rw[if_pos v2]
   ·rw[if_neg v2,if_pos (by omega)]
 ·have w': ¬(1≤p.kind∧p.kind≤3):=by simpa[wi] using w
  rw[if_neg w,pkE]
  by_cases v2:p.kind<1
  ·rw[if_pos v2]
  ·rw[if_neg v2,if_pos (by omega)]
def nwE:List Pfx→List Pfx→Int
 |_,[]=>0
 |d,x::r=>if ba x=false then 1 else if (match d.getLast? with|some a=>decide (0≤cU a x)|none=>false)=true then 16 else nwE (d++[x]) r
theorem Gu (l:List Pfx) (hl:l.length<2^40) (hok: ∀x∈l,x.ok): ∀(rest done:List Pfx) (T:List (Nat×AV)) (H:ax) (c:Nat) (n:Int) (e:l=done++rest) (hn:n=done.length),
  Ev G ⟨XW,⟨(7,.int .i64 n)::(0,.sl 2 (l.map Pfx.enc))::(5,.sl 2 (l.map Pfx.enc))::(6,.int .i64 l.length)::T,H,c⟩,[.t 2],0⟩ ⟨.int .i64 (nwE done rest),[]⟩
 | [],done,T,H,c,n,e,hn=>by
  have hd:l.length=done.length:=by simp[e]
  refine evl ?_
  repeat' (first|refine ae ?_|(refine aa ?_ ?_<;>intro h))
  refine ag ?_;rfl
 |x::r,done,T,H,c,n,e,hn=>by
  have hd:l.length=done.length+(r.length+1):=by simp[e]
  have m1:(l.map Pfx.enc).length=l.length:=by simp
  have hx:(l.map Pfx.enc)[n.toNat]? =some x.enc:=by simp[e,hn]
  have hxo:=hok x (by simp[e])
  have f1:=eW x hxo
  rw[nwE]
  cases vx:ba x with
  |false=>
   rw[vx] at f1
   rw[if_pos rfl]
   refine evl ?_
   repeat' (first|refine ae ?_|(refine aa ?_ ?_<;>intro h))
   refine ag ?_;rfl
  |true=>
  rw[vx] at f1
  rw[if_neg (by simp)]
  have ih:=fun T H c=>Gu l hl hok r (done++[x]) T H c (n+1) (by simp[e]) (by simp[hn])
  rcases List.eq_nil_or_concat done with h0|⟨d,a,h0⟩
  ·subst h0
   obtain rfl:n=0:=hn
   rw[if_neg (by simp)]
   refine evl ?_
   repeat' (first|refine ae ?_|(refine aa ?_ ?_<;>intro h))
   refine ah [7,0,5,6] [] ?_
   exact ih _ _ _
  ·have g1:=sr a x
   have hl0:done.getLast?=some a:=by rw[h0];simp
   have hdl:done.length=d.length+1:=by rw[h0];simp
   have n1:(0:Int)<n:=by omega
   have ha:(l.map Pfx.enc)[(n-1).toNat]? =some a.enc:=by
    rw[show (n-1).toNat=d.length from by omega,e,h0];simp
   rw[hl0]
   dsimp only
   by_cases ho:0≤cU a x
   ·rw[if_pos (by simpa using ho)]
    generalize cU a x=Z at*
    refine evl ?_
    repeat' (first|refine ae ?_|(refine aa ?_ ?_<;>intro h))
    refine ag ?_;rfl
   ·rw[if_neg (by simpa using ho)]
    generalize cU a x=Z at*
    refine evl ?_
    repeat' (first|refine ae ?_|(refine aa ?_ ?_<;>intro h))
    refine ah [7,0,5,6] [] ?_
    exact ih _ _ _
theorem GB (l:List Pfx) (hl:l.length<2^40) (hok: ∀x∈l,x.ok):aq G 563 [.sl 2 (l.map Pfx.enc)] [] ⟨.int .i64 (nwE [] l),[]⟩:=by
 have m1:(l.map Pfx.enc).length=l.length:=by simp
 refine ab (F:=XX) rfl rfl (am 300 _ _ _ _ ?_)
 repeat' (first|refine ae ?_|(refine aa ?_ ?_<;>intro h))
 refine ah [7,0,5,6] [] ?_
 rw[m1]
 exact Gu l hl hok l [] _ _ _ 0 rfl rfl
end Go.AM.IR
namespace Go.AM.IR
theorem abc (q:PVC) (p:PeerC):tlE q p=if p.client=true∧ ¬p.kind=3 then 1 else if¬p.hold=0∧wi p.hold 3 65535=false then 21 else if wi p.restart 0 4095=false then 5 else if iL q.pols p.imp=true then 6 else if iL q.pols p.exp=true then 6 else dE q p:=by
 have e1:(p.hold<3∨65535<p.hold)↔wi p.hold 3 65535=false:=by
  rw[wi,decide_eq_false_iff_not];omega
 rw[tlE]
 simp only[e1]
 by_cases r1:p.restart<0
 ·rw[if_pos r1,if_pos (show wi p.restart 0 4095=false from by rw[wi,decide_eq_false_iff_not];omega)]
 ·by_cases r2:4095<p.restart
  ·rw[if_neg r1,if_pos r2,if_pos (show wi p.restart 0 4095=false from by rw[wi,decide_eq_false_iff_not];omega)]
  ·rw[if_neg r1,if_neg r2,if_neg (show¬wi p.restart 0 4095=false from by rw[wi,decide_eq_false_iff_not];omega)]
   rfl
theorem Ag (q:PVC) (gp:q.pols.good) (p:PeerC) (l:List PeerC) (hl:l.length<2^40): ∀(rest done:List PeerC) (g9:Nat) (T:List (Nat×AV)) (H:ax) (c:Nat) (n:Int) (e:l=done++rest) (hn:n=done.length),
  Ev G ⟨SU,⟨(40,.int .i64 n)::(5,.ref 69 g9 0)::(38,.sl 11 (l.map PeerC.enc))::(2,.ref 66 1 0)::(39,.int .i64 l.length)::T,(66,some (1,.cells q.enc))::(69,some (g9,.cells p.enc))::H,c⟩,[.t 4],0⟩ ⟨.int .i64 (if rest.any (fun y=>decide (y.addr=p.addr)) then 7 else tlE q p),[]⟩
 | [],done,g9,T,H,c,n,e,hn=>by
  obtain rfl:l=done:=by simpa using e
  simp only[List.any_nil,Bool.false_eq_true,if_false]
  rw[abc]
  have h2:=fU p.hold 3 65535
  have h3:=fU p.restart 0 4095
  have h4:=rI q gp p.imp
  have h5:=rI q gp p.exp
  have h6:=sd q.damp
  by_cases c1:p.client=true∧ ¬p.kind=3
  ·rw[if_pos c1]
   obtain ⟨c1,c2⟩:=c1
   refine evl ?_
   repeat' ((conv=>whnf);first|refine bj c2 ?_|refine ay ?_|(refine aa ?_ ?_<;>intro h))
   all_goals first|(refine ag ?_;rfl)|contradiction|(exfalso;simp_all;done)|(exfalso;omega)
  rw[if_neg c1]
  by_cases c0:p.hold=0
  ·rw[if_neg (fun h=>h.1 c0)]
   by_cases c3:wi p.restart 0 4095=false
   ·rw[if_pos c3]
    rw[c3] at h3
    refine evl ?_
    repeat' ((conv=>whnf);first|refine bc c0 ?_|refine ay ?_|(refine aa ?_ ?_<;>intro h))
    all_goals first|(refine ag ?_;rfl)|(exfalso;exact c1 ⟨by assumption,by assumption⟩)|(exfalso;exact c6 (by assumption))|(exfalso;omega)|(exfalso;simp_all;done)|(exfalso;omega)
   rw[if_neg c3]
   rw[Bool.not_eq_false] at c3
   rw[c3] at h3
   by_cases c4:iL q.pols p.imp=true
   ·rw[if_pos c4]
    rw[c4] at h4
    refine evl ?_
    repeat' ((conv=>whnf);first|refine bc c0 ?_|refine ay ?_|(refine aa ?_ ?_<;>intro h))
    all_goals first|(refine ag ?_;rfl)|(exfalso;exact c1 ⟨by assumption,by assumption⟩)|(exfalso;exact c6 (by assumption))|(exfalso;omega)|(exfalso;simp_all;done)|(exfalso;omega)
   rw[if_neg c4]
   rw[Bool.not_eq_true] at c4
   rw[c4] at h4
   by_cases c5:iL q.pols p.exp=true
   ·rw[if_pos c5]
    rw[c5] at h5
    refine evl ?_
    repeat' ((conv=>whnf);first|refine bc c0 ?_|refine ay ?_|(refine aa ?_ ?_<;>intro h))
    all_goals first|(refine ag ?_;rfl)|(exfalso;exact c1 ⟨by assumption,by assumption⟩)|(exfalso;exact c6 (by assumption))|(exfalso;omega)|(exfalso;simp_all;done)|(exfalso;omega)
   rw[if_neg c5]
   rw[Bool.not_eq_true] at c5
   rw[c5] at h5
   by_cases c6:p.damp=false
   ·rw[dE,if_pos c6]
    refine evl ?_
    repeat' ((conv=>whnf);first|refine bc c0 ?_|refine ay ?_|(refine aa ?_ ?_<;>intro h))
    all_goals first|(refine ag ?_;rfl)|(exfalso;exact c1 ⟨by assumption,by assumption⟩)|(exfalso;exact c6 (by assumption))|(exfalso;omega)|(exfalso;simp_all;done)|(exfalso;omega)
   rw[dE,if_neg c6]
   by_cases c7:p.kind=1
   ·rw[if_neg (fun h=>h c7)]
    have c8: ¬p.kind=3:=by omega
    by_cases c9:e9 q.damp=0
    ·rw[if_pos c9]
     rw[c9] at h6
     refine evl ?_
     repeat' ((conv=>whnf);first|refine bc c0 ?_|refine bj c8 ?_|refine bc c7 ?_|refine ay ?_|(refine aa ?_ ?_<;>intro h))
     all_goals first|(refine ag ?_;rfl)|(exfalso;exact c1 ⟨by assumption,by assumption⟩)|(exfalso;exact c6 (by assumption))|(exfalso;omega)|(exfalso;simp_all;done)|(exfalso;omega)
    ·rw[if_neg c9]
     generalize e9 q.damp=E at*
     refine evl ?_
     repeat' ((conv=>whnf);first|refine bc c0 ?_|refine bj c8 ?_|refine bc c7 ?_|refine bj c9 ?_|refine ay ?_|(refine aa ?_ ?_<;>intro h))
     all_goals first|(refine ag ?_;rfl)|(exfalso;exact c1 ⟨by assumption,by assumption⟩)|(exfalso;exact c6 (by assumption))|(exfalso;omega)|(exfalso;simp_all;done)|(exfalso;omega)
   ·rw[if_pos c7]
    refine evl ?_
    repeat' ((conv=>whnf);first|refine bc c0 ?_|refine bj c7 ?_|refine ay ?_|(refine aa ?_ ?_<;>intro h))
    all_goals first|(refine ag ?_;rfl)|(exfalso;exact c1 ⟨by assumption,by assumption⟩)|(exfalso;exact c6 (by assumption))|(exfalso;omega)|(exfalso;simp_all;done)|(exfalso;omega)
  by_cases w2:wi p.hold 3 65535=false
  ·rw[if_pos ⟨c0,w2⟩]
   rw[w2] at h2
   refine evl ?_
   repeat' ((conv=>whnf);first|refine bj c0 ?_|refine ay ?_|(refine aa ?_ ?_<;>intro h))
   all_goals first|(refine ag ?_;rfl)|(exfalso;exact c1 ⟨by assumption,by assumption⟩)|(exfalso;exact c6 (by assumption))|(exfalso;omega)|(exfalso;simp_all;done)|(exfalso;omega)
  rw[if_neg (fun h=>w2 h.2)]
  rw[Bool.not_eq_false] at w2
  rw[w2] at h2
  by_cases c3:wi p.restart 0 4095=false
  ·rw[if_pos c3]
   rw[c3] at h3
   refine evl ?_
   repeat' ((conv=>whnf);first|refine bj c0 ?_|refine ay ?_|(refine aa ?_ ?_<;>intro h))
   all_goals first|(refine ag ?_;rfl)|(exfalso;exact c1 ⟨by assumption,by assumption⟩)|(exfalso;exact c6 (by assumption))|(exfalso;omega)|(exfalso;simp_all;done)|(exfalso;omega)
  rw[if_neg c3]
  rw[Bool.not_eq_false] at c3
  rw[c3] at h3
  by_cases c4:iL q.pols p.imp=true
  ·rw[if_pos c4]
   rw[c4] at h4
   refine evl ?_
   repeat' ((conv=>whnf);first|refine bj c0 ?_|refine ay ?_|(refine aa ?_ ?_<;>intro h))
   all_goals first|(refine ag ?_;rfl)|(exfalso;exact c1 ⟨by assumption,by assumption⟩)|(exfalso;exact c6 (by assumption))|(exfalso;omega)|(exfalso;simp_all;done)|(exfalso;omega)
  rw[if_neg c4]
  rw[Bool.not_eq_true] at c4
  rw[c4] at h4
  by_cases c5:iL q.pols p.exp=true
  ·rw[if_pos c5]
   rw[c5] at h5
   refine evl ?_
   repeat' ((conv=>whnf);first|refine bj c0 ?_|refine ay ?_|(refine aa ?_ ?_<;>intro h))
   all_goals first|(refine ag ?_;rfl)|(exfalso;exact c1 ⟨by assumption,by assumption⟩)|(exfalso;exact c6 (by assumption))|(exfalso;omega)|(exfalso;simp_all;done)|(exfalso;omega)
  rw[if_neg c5]
  rw[Bool.not_eq_true] at c5
  rw[c5] at h5
  by_cases c6:p.damp=false
  ·rw[dE,if_pos c6]
   refine evl ?_
   repeat' ((conv=>whnf);first|refine bj c0 ?_|refine ay ?_|(refine aa ?_ ?_<;>intro h))
   all_goals first|(refine ag ?_;rfl)|(exfalso;exact c1 ⟨by assumption,by assumption⟩)|(exfalso;exact c6 (by assumption))|(exfalso;omega)|(exfalso;simp_all;done)|(exfalso;omega)
  rw[dE,if_neg c6]
  by_cases c7:p.kind=1
  ·rw[if_neg (fun h=>h c7)]
   have c8: ¬p.kind=3:=by omega
   by_cases c9:e9 q.damp=0
   ·rw[if_pos c9]
    rw[c9] at h6
    refine evl ?_
    repeat' ((conv=>whnf);first|refine bj c0 ?_|refine bj c8 ?_|refine bc c7 ?_|refine ay ?_|(refine aa ?_ ?_<;>intro h))
    all_goals first|(refine ag ?_;rfl)|(exfalso;exact c1 ⟨by assumption,by assumption⟩)|(exfalso;exact c6 (by assumption))|(exfalso;omega)|(exfalso;simp_all;done)|(exfalso;omega)
   ·rw[if_neg c9]
    generalize e9 q.damp=E at*
    refine evl ?_
    repeat' ((conv=>whnf);first|refine bj c0 ?_|refine bj c8 ?_|refine bc c7 ?_|refine bj c9 ?_|refine ay ?_|(refine aa ?_ ?_<;>intro h))
    all_goals first|(refine ag ?_;rfl)|(exfalso;exact c1 ⟨by assumption,by assumption⟩)|(exfalso;exact c6 (by assumption))|(exfalso;omega)|(exfalso;simp_all;done)|(exfalso;omega)
  ·rw[if_pos c7]
   refine evl ?_
   repeat' ((conv=>whnf);first|refine bj c0 ?_|refine bj c7 ?_|refine ay ?_|(refine aa ?_ ?_<;>intro h))
   all_goals first|(refine ag ?_;rfl)|(exfalso;exact c1 ⟨by assumption,by assumption⟩)|(exfalso;exact c6 (by assumption))|(exfalso;omega)|(exfalso;simp_all;done)|(exfalso;omega)
 |x::r,done,g9,T,H,c,n,e,hn=>by
  have hd:l.length=done.length+(r.length+1):=by simp[e]
  have m1:(l.map PeerC.enc).length=l.length:=by simp
  have hx:(l.map PeerC.enc)[n.toNat]? =some x.enc:=by simp[e,hn]
  by_cases h:x.addr=p.addr
  ·rw[if_pos (by simp[h])]
   refine evl ?_
   repeat' ((conv=>whnf);first|refine bp h ?_|refine ay ?_|(refine aa ?_ ?_<;>intro h))
   refine ag ?_;rfl
  ·rw[show ((x::r).any fun y=>decide (y.addr=p.addr))=r.any fun y=>decide (y.addr=p.addr) from by simp[h]]
   refine evl ?_
   repeat' ((conv=>whnf);first|refine aY h ?_|refine ay ?_|(refine aa ?_ ?_<;>intro h))
   refine ah [40,5,38,2,39] [66,69] ?_
   exact Ag q gp p l hl r (done++[x]) _ _ _ _ (n+1) (by simp[e]) (by simp[hn])
theorem Dq (q:PVC) (gp:q.pols.good) (hl:q.peers.length<2^40) (i:Nat) (p:PeerC) (hp:q.peers[i]? =some p):aq G 565 [.agg q.enc,.int .i64 i] [] ⟨.int .i64 (peE q (q.peers.take i) p),[]⟩:=by
 have h1:=fU p.kind 1 3
 have h2:=fU p.asn 1 4294967295
 have h3:=Lc q p
 have hi:i<q.peers.length:=(List.getElem?_eq_some_iff.1 hp).1
 have m1:(q.peers.map PeerC.enc).length=q.peers.length:=by simp
 have hx:(q.peers.map PeerC.enc)[((i:Nat):Int).toNat]? =some p.enc:=by simp[hp]
 rw[peE,aam]
 by_cases w1:wi p.kind 1 3=true
 ·rw[if_pos w1]
  rw[w1] at h1
  by_cases w2:wi p.asn 1 4294967295=true
  ·rw[if_pos w2]
   rw[w2] at h2
   by_cases w3:z6 q p=true
   ·rw[if_pos w3,if_pos rfl]
    rw[w3] at h3
    by_cases a1:p.addr=0
    ·rw[if_pos a1]
     refine ab (F:=r6) rfl rfl (am 300 _ _ _ _ ?_)
     repeat' ((conv=>whnf);first|refine bp a1 ?_|refine ay ?_|(refine aa ?_ ?_<;>intro h))
     refine ag ?_;rfl
    by_cases a2:p.loc=0
    ·rw[if_neg a1,if_pos a2]
     refine ab (F:=r6) rfl rfl (am 300 _ _ _ _ ?_)
     repeat' ((conv=>whnf);first|refine aY a1 ?_|refine bp a2 ?_|refine ay ?_|(refine aa ?_ ?_<;>intro h))
     refine ag ?_;rfl
    rw[if_neg a1,if_neg a2]
    refine ab (F:=r6) rfl rfl (am 300 _ _ _ _ ?_)
    repeat' ((conv=>whnf);first|refine aY a1 ?_|refine aY a2 ?_|refine ay ?_|(refine aa ?_ ?_<;>intro h))
    refine ah [40,5,38,2,39] [66,69] ?_
    rw[show List.take (((i:Nat):Int).toNat-0) (List.drop 0 (List.map PeerC.enc q.peers))=List.map PeerC.enc (q.peers.take i) from by simp,List.length_map]
    exact Ag q gp p (q.peers.take i) (by simp;omega) _ [] _ _ _ _ 0 rfl rfl
   ·rw[if_neg w3,if_neg (by decide)]
    rw[Bool.not_eq_true] at w3
    rw[w3] at h3
    exact gvA (F:=r6)
  ·rw[if_neg w2,if_neg (by decide)]
   rw[Bool.not_eq_true] at w2
   rw[w2] at h2
   exact gvA (F:=r6)
 ·rw[if_neg w1,if_neg (by decide)]
  rw[Bool.not_eq_true] at w1
  rw[w1] at h1
  exact gvA (F:=r6)
end Go.AM.IR
