/- What functions of this program give. -/
import Derived.Test.YtomphmeopjpejaaGreatDoorDataK
import Derived.Test.YtomphmeopjpejaaGreatDoorDataI
set_option linter.unusedSectionVars false
set_option linter.unusedVariables false
set_option linter.unusedSimpArgs false
set_option maxHeartbeats 4000000
set_option maxRecDepth 20000
namespace Go.AM.IR
section
variable {k:AV->Prop} {x j:Nat}
end
theorem qn (n:Int):(am n).length<=21:=by
 grind [am,sA]
theorem itoa_gives246 {n:Int}(h0: -9223372036854775808<=n)(h1:n<=9223372036854775807):ag G 246 [.int .i64 n] [] ⟨.str (am n),[]⟩:=by
 show vu _ _=_
 exact Ac ⟨h0,h1⟩
def dots (x:Nat):B5:=am (x/ 16777216:Nat)++46::(am (x/ 65536 % 256:Nat)++46::(am (x/ 256 % 256:Nat)++46::am (x % 256:Nat)))
section
variable {k:AV->Prop} {q:IntKind}
theorem zShrC (m:Nat){x:Nat}{j:Int}(h:k (.int .u32 ((x/ m:Nat):Int)))(hm:m=2^j.toNat)(h0:0<=j)(h1:j<=32): ∃v,bm .shr (.int .u32 (x:Int)) (.int q j)=some v/\k v:=by
 subst hm;refine ⟨_,?_,h⟩;show (if j<0 then none else some (AV.int .u32 ((x:Int).fdiv (2^ (min j.toNat 32)))))=_
 grind
theorem zCat {a b:B5}(h:k (.str (a++b)))(hl:a.length+b.length<2^62:=by first|omega|(simp;omega)): ∃v,bm .add (.str a) (.str b)=some v/\k v:=⟨_,Ac hl,h⟩
end
theorem dec_gives337 {n:Int}(h:okI n):ag G 337 [.int .i64 n] [] ⟨.str (am n),[]⟩:=by
 unfold okI at h;have hi:=itoa_gives246 (n:=n) (by omega) (by omega)
 generalize am n=t at*;exact gvA (F:=f337)
section
variable {kv:AV->Prop} {k:Eff->Prop} {x:Opd} {g key:Nat} {hg:Nat->Cl} {n:Int}
theorem zAdU (h0:n<0)(h1: -9223372036854775808<=n)(h:kv (.int .u64 ((n.natAbs:Nat):Int))): ∃v,bm .add (.int .u64 (-(n+1))) (.int .u64 1)=some v/\kv v:=by
 refine ⟨_,?_,h⟩;show some (AV.int .u64 (IntKind.wrap .u64 (-(n+1)+1)))=_
 grind [tk]
end
theorem dec_gives338 {n:Int}(h:okI n):ag G 338 [.int .i64 n] [] ⟨.str (am n),[]⟩:=by
 unfold okI at h
 by_cases h0:n<0
 ·have hd:=pD 19 n.natAbs (by omega) (by omega) (by omega)
  have e2:am n=45::bT 19 n.natAbs:=by unfold am;rw[Ac h0]
  have hl:=sA 19 n.natAbs;rw[e2];generalize bT 19 n.natAbs=w at*;refine gvC (F:=f338) ?_
  repeat' ((conv=>whnf);first|refine zAdU h0 (by omega) ?_|refine iG ?_|refine aq ?_|apply ae<;>intro h)
  refine ap ?_;rfl
 ·have hd:=pD 19 n.toNat (by omega) (by omega) (by omega)
  have e:((n.toNat:Nat):Int)=n:=by omega
  rw[e] at hd;have e2:am n=bT 19 n.toNat:=by unfold am;rw[Aa (by omega)]
  rw[e2];generalize bT 19 n.toNat=w at*;exact gvA (F:=f338)
def ptext (x n:Nat):B5:=dots x++47::am n
def bf:AV:=.con (.slice none 0 0)
def nmsS (s:PSet):Kn:=⟨s.prefixes.map PList.name,s.paths.map PathL.name,s.comms.map ComL.name,s.pols.map Pol.name⟩
@[simp] theorem aec {α:Type}(g:α->B5)(l:List α):ab (l.map (ah∘g))=true:=by rw[<-List.map_map];exact v8 _
def eaE {α:Type}(nm:α->B5)(sz:α->Nat)(chk:α->Int):List α->List α->Int
 |_,[]=>0
 |d,x::r=>if eW (d.map nm) (nm x)=0 then (if 64<sz x then 4 else if chk x=0 then eaE nm sz chk (d++[x]) r else chk x) else eW (d.map nm) (nm x)
def wPermit:B5:=[112,101,114,109,105,116,32]
def wDeny:B5:=[100,101,110,121,32]
def wC0:B5:=[103,114,97,99,101,102,117,108,45,115,104,117,116,100,111,119,110]
def wC1:B5:=[110,111,45,101,120,112,111,114,116]
def wC2:B5:=[110,111,45,97,100,118,101,114,116,105,115,101]
def wC3:B5:=[110,111,45,101,120,112,111,114,116,45,99,111,110,102,101,100]
def gQ (x:Nat):B5:=if (x:Int)=4294901760 then wC0 else if (x:Int)=4294967041 then wC1 else if (x:Int)=4294967042 then wC2 else if (x:Int)=4294967043 then wC3 else am ((x/ 65536:Nat):Int)++58::am ((x % 65536:Nat):Int)
section
variable {k:AV->Prop}
theorem abd {x:Nat}(hx:x<4294967296)(h:k (.int .u32 ((x % 65536:Nat):Int))): ∃v,bm .and (.int .u32 (x:Int)) (.int .u32 65535)=some v/\k v:=
 ⟨_,by
  show some (AV.int .u32 (intBits .and .u32 (x:Int) ((65535:Nat):Int)))=_
  rw[vM x 65535 hx (by omega),show (65535:Nat)=2^16-1 from rfl,Nat.and_two_pow_sub_one_eq_mod],h⟩
end
section
variable (x:Nat)(hx:x<4294967296)(T:TV)(H:az)(c g:Nat)
include hx
theorem aaT:
  Ev G ⟨pj,⟨(12,.int .i64 4)::(11,.agg [.int .u32 4294901760,.int .u32 4294967041,.int .u32 4294967042,.int .u32 4294967043])::(4,.ref 68 g 0)::(0,.int .u32 (x:Int))::T,(68,some (g,.cells [.str [103,114,97,99,101,102,117,108,45,115,104,117,116,100,111,119,110],.str [110,111,45,101,120,112,111,114,116],.str [110,111,45,97,100,118,101,114,116,105,115,101],.str [110,111,45,101,120,112,111,114,116,45,99,111,110,102,101,100]]))::H,c⟩,[.t 2],0⟩ ⟨.str (am ((x/ 65536:Nat):Int)++58::am ((x % 65536:Nat):Int)),[]⟩:=by
 have d1:=dec_gives337 (n:=((x/ 65536:Nat):Int)) (by unfold okI;omega)
 have d2:=dec_gives337 (n:=((x % 65536:Nat):Int)) (by unfold okI;omega)
 have l1:=qn ((x/ 65536:Nat):Int);have l2:=qn ((x % 65536:Nat):Int);generalize am ((x/ 65536:Nat):Int)=a at*;generalize am ((x % 65536:Nat):Int)=b at*;refine evl ?_
 repeat' ((conv=>whnf);first|refine zShrC 65536 ?_ (by rfl) (by omega) (by omega)|refine abd hx ?_|refine iG ?_|refine aq ?_|apply ae<;>intro h)
 refine ap ?_;simp
theorem aaU:
  Ev G ⟨pj,⟨(12,.int .i64 3)::(11,.agg [.int .u32 4294901760,.int .u32 4294967041,.int .u32 4294967042,.int .u32 4294967043])::(4,.ref 68 g 0)::(0,.int .u32 (x:Int))::T,(68,some (g,.cells [.str [103,114,97,99,101,102,117,108,45,115,104,117,116,100,111,119,110],.str [110,111,45,101,120,112,111,114,116],.str [110,111,45,97,100,118,101,114,116,105,115,101],.str [110,111,45,101,120,112,111,114,116,45,99,111,110,102,101,100]]))::H,c⟩,[.t 2],0⟩ ⟨.str (if (x:Int)=4294967043 then wC3 else am ((x/ 65536:Nat):Int)++58::am ((x % 65536:Nat):Int)),[]⟩:=by
 have ih:=λT H c=>aaT x hx T H c g
 by_cases e:(x:Int)=4294967043
 ·rw[Ac e]
  refine evl ?_
  repeat' ((conv=>whnf);first|refine en e ?_|refine aq ?_|apply ae<;>intro h)
  refine ap ?_;rfl
 ·rw[Aa e]
  refine evl ?_
  repeat' ((conv=>whnf);first|refine fu e ?_|refine aq ?_|apply ae<;>intro h)
  refine au [12,11,4,0] [68] ?_;exact ih _ _ _
theorem aaV:
  Ev G ⟨pj,⟨(12,.int .i64 2)::(11,.agg [.int .u32 4294901760,.int .u32 4294967041,.int .u32 4294967042,.int .u32 4294967043])::(4,.ref 68 g 0)::(0,.int .u32 (x:Int))::T,(68,some (g,.cells [.str [103,114,97,99,101,102,117,108,45,115,104,117,116,100,111,119,110],.str [110,111,45,101,120,112,111,114,116],.str [110,111,45,97,100,118,101,114,116,105,115,101],.str [110,111,45,101,120,112,111,114,116,45,99,111,110,102,101,100]]))::H,c⟩,[.t 2],0⟩ ⟨.str (if (x:Int)=4294967042 then wC2 else if (x:Int)=4294967043 then wC3 else am ((x/ 65536:Nat):Int)++58::am ((x % 65536:Nat):Int)),[]⟩:=by
 have ih:=λT H c=>aaU x hx T H c g
 by_cases e:(x:Int)=4294967042
 ·rw[Ac e]
  refine evl ?_
  repeat' ((conv=>whnf);first|refine en e ?_|refine aq ?_|apply ae<;>intro h)
  refine ap ?_;rfl
 ·rw[Aa e]
  refine evl ?_
  repeat' ((conv=>whnf);first|refine fu e ?_|refine aq ?_|apply ae<;>intro h)
  refine au [12,11,4,0] [68] ?_;exact ih _ _ _
theorem aaW:
  Ev G ⟨pj,⟨(12,.int .i64 1)::(11,.agg [.int .u32 4294901760,.int .u32 4294967041,.int .u32 4294967042,.int .u32 4294967043])::(4,.ref 68 g 0)::(0,.int .u32 (x:Int))::T,(68,some (g,.cells [.str [103,114,97,99,101,102,117,108,45,115,104,117,116,100,111,119,110],.str [110,111,45,101,120,112,111,114,116],.str [110,111,45,97,100,118,101,114,116,105,115,101],.str [110,111,45,101,120,112,111,114,116,45,99,111,110,102,101,100]]))::H,c⟩,[.t 2],0⟩ ⟨.str (if (x:Int)=4294967041 then wC1 else if (x:Int)=4294967042 then wC2 else if (x:Int)=4294967043 then wC3 else am ((x/ 65536:Nat):Int)++58::am ((x % 65536:Nat):Int)),[]⟩:=by
 have ih:=λT H c=>aaV x hx T H c g
 by_cases e:(x:Int)=4294967041
 ·rw[Ac e]
  refine evl ?_
  repeat' ((conv=>whnf);first|refine en e ?_|refine aq ?_|apply ae<;>intro h)
  refine ap ?_;rfl
 ·rw[Aa e]
  refine evl ?_
  repeat' ((conv=>whnf);first|refine fu e ?_|refine aq ?_|apply ae<;>intro h)
  refine au [12,11,4,0] [68] ?_;exact ih _ _ _
theorem aaX:
  Ev G ⟨pj,⟨(12,.int .i64 0)::(11,.agg [.int .u32 4294901760,.int .u32 4294967041,.int .u32 4294967042,.int .u32 4294967043])::(4,.ref 68 g 0)::(0,.int .u32 (x:Int))::T,(68,some (g,.cells [.str [103,114,97,99,101,102,117,108,45,115,104,117,116,100,111,119,110],.str [110,111,45,101,120,112,111,114,116],.str [110,111,45,97,100,118,101,114,116,105,115,101],.str [110,111,45,101,120,112,111,114,116,45,99,111,110,102,101,100]]))::H,c⟩,[.t 2],0⟩ ⟨.str (if (x:Int)=4294901760 then wC0 else if (x:Int)=4294967041 then wC1 else if (x:Int)=4294967042 then wC2 else if (x:Int)=4294967043 then wC3 else am ((x/ 65536:Nat):Int)++58::am ((x % 65536:Nat):Int)),[]⟩:=by
 have ih:=λT H c=>aaW x hx T H c g
 by_cases e:(x:Int)=4294901760
 ·rw[Ac e]
  refine evl ?_
  repeat' ((conv=>whnf);first|refine en e ?_|refine aq ?_|apply ae<;>intro h)
  refine ap ?_;rfl
 ·rw[Aa e]
  refine evl ?_
  repeat' ((conv=>whnf);first|refine fu e ?_|refine aq ?_|apply ae<;>intro h)
  refine au [12,11,4,0] [68] ?_;exact ih _ _ _
theorem Kr:ag G 583 [.int .u32 (x:Int)] [] ⟨.str (gQ x),[]⟩:=by
 have h:ag G 628 [] [] ⟨.tup [.agg [.int .u32 4294901760,.int .u32 4294967041,.int .u32 4294967042,.int .u32 4294967043],.agg [.str [103,114,97,99,101,102,117,108,45,115,104,117,116,100,111,119,110],.str [110,111,45,101,120,112,111,114,116],.str [110,111,45,97,100,118,101,114,116,105,115,101],.str [110,111,45,101,120,112,111,114,116,45,99,111,110,102,101,100]]],[]⟩:=i8 100 rfl rfl rfl;refine gvB (F:=RA) ?_;refine au [12,11,4,0] [68] ?_;exact aaX x hx _ _ _ _
theorem pH:ag G 584 [.int .u32 (x:Int)] [] ⟨.str (gQ x),[]⟩:=by
 have d1:=dec_gives338 (n:=((x/ 65536:Nat):Int)) (by unfold okI;omega)
 have d2:=dec_gives338 (n:=((x % 65536:Nat):Int)) (by unfold okI;omega)
 have l1:=qn ((x/ 65536:Nat):Int);have l2:=qn ((x % 65536:Nat):Int);unfold gQ;generalize am ((x/ 65536:Nat):Int)=a at*;generalize am ((x % 65536:Nat):Int)=b at*;refine gvC (F:=ZU) ?_
 repeat' ((conv=>whnf);first|refine zShrC 65536 ?_ (by rfl) (by omega) (by omega)|refine abd hx ?_|refine iG ?_|refine aq ?_|apply ae<;>intro h)
 all_goals (refine ap ?_;simp[*,wC0,wC1,wC2,wC3])
end
def jE (b:Bool):B5:=bif b then wPermit else wDeny
def rng (a b:Int):B5:=am a++45::am b
def rtail (r:RuleP):B5:=if r.min≠r.pfx.len∨r.max≠r.pfx.len then 32::rng r.min r.max else []
def rtext (r:RuleP):B5:=jE r.permit++(ptext r.pfx.addr.toNat r.pfx.len.toNat++rtail r)
section
variable (e1 e2 e3 e4:B6)(p1:ab e1=true)(p2:ab e2=true)(p3:ab e3=true)(p4:ab e4=true)(k1 k2 k3 k4:CF)(so:Int)(trm:Bool)(nm:B5)(df:Int)(n:Nat)(hn:n=e4.length+1)(l4:e4.length<2^30)(ts:C4)(lt:ts.length<2^30)
include p1 p2 p3 p4 hn l4 lt
theorem fG:ag G 591 [.ref 0 0 0] (bP e1.length e2.length e3.length n so true trm e1 e2 e3 (e4++[[AV.str nm,AV.vs 9 0 ts.length,AV.int .i64 df]]) k1 k2 k3 k4 [.vec 4 (ts.map Trm.enc)]) ⟨.er 4 0 ((n:Int)-1).toNat 0,rP e1.length e2.length e3.length n so true trm (.vec 2 e1) (.vec 2 e2) (.vec 2 e3) (.nest 3 e4 [[AV.str nm,AV.vs 9 0 ts.length,AV.int .i64 df]]) k1 k2 k3 k4 [(true,.vec 4 (ts.map Trm.enc))]⟩:=by
 unfold bP rP;refine gvB (F:=Rq) ?_
 (first|refine da pzC [] de ?_|refine db pzC [] de ?_)
 rfl
theorem ci (tn:B5)(ms:C9)(lm:ms.length<2^30)(acs:C8)(la:acs.length<2^30)(vd:Int)(m:Nat)(hm:m=ts.length+1):ag G 591 [.ref 0 0 0] (bP e1.length e2.length e3.length n so true trm e1 e2 e3 (e4++[[AV.str nm,AV.vs 9 0 m,AV.int .i64 df]]) k1 k2 k3 k4 [.vec 4 (ts.map Trm.enc++[[AV.str tn,AV.vs 10 0 ms.length,AV.vs 11 0 acs.length,AV.int .i64 vd]]),.vec 6 (ms.map Mat.enc),.vec 5 (acs.map Actn.enc)]) ⟨.er 4 0 ((n:Int)-1).toNat 0,rP e1.length e2.length e3.length n so true trm (.vec 2 e1) (.vec 2 e2) (.vec 2 e3) (.nest 3 e4 [[AV.str nm,AV.vs 9 0 m,AV.int .i64 df]]) k1 k2 k3 k4 [(true,.nest 4 (ts.map Trm.enc) [[AV.str tn,AV.vs 10 0 ms.length,AV.vs 11 0 acs.length,AV.int .i64 vd]]),(true,.vec 6 (ms.map Mat.enc)),(true,.vec 5 (acs.map Actn.enc))]⟩:=by
 unfold bP rP;refine gvB (F:=Rq) ?_
 (first|refine da pzD [] iw ?_|refine db pzD [] iw ?_)
 rfl
end
theorem Dl (t:B5)(h:t.length<2^40):Trm.goodT ⟨t,[],[],1⟩:=by
 constructor<;>simp<;>omega
def im:B5:=[100,101,102,97,117,108,116,32,97,99,99,101,112,116]
def il:B5:=[100,101,102,97,117,108,116,32,114,101,106,101,99,116]
def d8:B5:=[116,101,114,109]
section
variable (e1 e2 e3 e4:B6)(p1:ab e1=true)(p2:ab e2=true)(p3:ab e3=true)(p4:ab e4=true)(k1 k2 k3 k4:CF)(so:Int)(trm:Bool)(nm:B5)(df:Int)(n:Nat)(hn:n=e4.length+1)(l4:e4.length<2^30)(ts:C4)(lt:ts.length<2^30)(s:B5)
include p1 p2 p3 p4 hn l4 lt
theorem ahz:ag G 543 [.ref 0 0 0,.str im] (bP e1.length e2.length e3.length n so true trm e1 e2 e3 (e4++[[AV.str nm,AV.vs 9 0 ts.length,AV.int .i64 df]]) k1 k2 k3 k4 [.vec 4 (ts.map Trm.enc)]) ⟨.tup [],rP e1.length e2.length e3.length n so false trm (.vec 2 e1) (.vec 2 e2) (.vec 2 e3) (.nest 3 e4 [[AV.str nm,AV.vs 9 0 ts.length,AV.int .i64 1]]) k1 k2 k3 k4 [(true,.vec 4 (ts.map Trm.enc))]⟩:=by
 unfold bP rP;have h0:=aE im (by decide)
 have hL:=fG e1 e2 e3 e4 p1 p2 p3 p4 k1 k2 k3 k4 so trm nm df n hn l4 ts lt;have hx: ∀x:B7,(e4++[x])[((n:Int)-1).toNat]? =some x:=λx=>by rw[hn];simp
 have hset: ∀y x:B7,(e4++[y]).set ((n:Int)-1).toNat x=e4++[x]:=λy x=>by rw[hn];simp
 unfold im at*;generalize aw _=ct at*;obtain ⟨w,t⟩:=ct;dsimp only at*;refine gvB (F:=su) ?_
 (conv=>whnf)
 refine kP pzC [] cu trivial hL ?_
 repeat' ((conv=>whnf);first|refine bj ?_|refine xr (hx _) ?_|refine aq ?_|apply ae<;>intro h)
 (conv=>whnf)
 rw[hset]
 (first|refine da pzC [] de ?_|refine db pzC [] de ?_)
 rfl
theorem ahy:ag G 543 [.ref 0 0 0,.str il] (bP e1.length e2.length e3.length n so true trm e1 e2 e3 (e4++[[AV.str nm,AV.vs 9 0 ts.length,AV.int .i64 df]]) k1 k2 k3 k4 [.vec 4 (ts.map Trm.enc)]) ⟨.tup [],rP e1.length e2.length e3.length n so false trm (.vec 2 e1) (.vec 2 e2) (.vec 2 e3) (.nest 3 e4 [[AV.str nm,AV.vs 9 0 ts.length,AV.int .i64 2]]) k1 k2 k3 k4 [(true,.vec 4 (ts.map Trm.enc))]⟩:=by
 unfold bP rP;have h0:=aE il (by decide)
 have hL:=fG e1 e2 e3 e4 p1 p2 p3 p4 k1 k2 k3 k4 so trm nm df n hn l4 ts lt;have hx: ∀x:B7,(e4++[x])[((n:Int)-1).toNat]? =some x:=λx=>by rw[hn];simp
 have hset: ∀y x:B7,(e4++[y]).set ((n:Int)-1).toNat x=e4++[x]:=λy x=>by rw[hn];simp
 unfold il at*;generalize aw _=ct at*;obtain ⟨w,t⟩:=ct;dsimp only at*;refine gvB (F:=su) ?_
 (conv=>whnf)
 refine kP pzC [] cu trivial hL ?_
 repeat' ((conv=>whnf);first|refine aG (by decide) ?_|refine bj ?_|refine xr (hx _) ?_|refine aq ?_|apply ae<;>intro h)
 (conv=>whnf)
 rw[hset]
 (first|refine da pzC [] de ?_|refine db pzC [] de ?_)
 rfl
section
variable (hs:s.length<4294967281)(d1:s≠im)(d2:s≠il)
include hs d1 d2
theorem adK (hw:(aw s).1≠d8):ag G 543 [.ref 0 0 0,.str s] (bP e1.length e2.length e3.length n so true trm e1 e2 e3 (e4++[[AV.str nm,AV.vs 9 0 ts.length,AV.int .i64 df]]) k1 k2 k3 k4 [.vec 4 (ts.map Trm.enc)]) ⟨pnV (.ifc 138 (.agg [.int .i64 2])),rP e1.length e2.length e3.length n so true trm (.vec 2 e1) (.vec 2 e2) (.vec 2 e3) (.nest 3 e4 [[AV.str nm,AV.vs 9 0 ts.length,AV.int .i64 df]]) k1 k2 k3 k4 [(true,.vec 4 (ts.map Trm.enc))]⟩:=by
 unfold bP rP;have h0:=aE s (by omega)
 have hL:=fG e1 e2 e3 e4 p1 p2 p3 p4 k1 k2 k3 k4 so trm nm df n hn l4 ts lt;unfold im at d1;unfold il at d2;generalize aw s=ct at*;obtain ⟨w,t⟩:=ct;dsimp only at*;unfold d8 at hw;have h2:=λ(_:True)=>aU false
 refine gvB (F:=su) ?_
 (conv=>whnf)
 refine kP pzC [] cu trivial hL ?_
 repeat' ((conv=>whnf);first|refine aG d1 ?_|refine aG d2 ?_|refine aG hw ?_|refine aq ?_|apply ae<;>intro h)
 (conv=>whnf)
 refine CallG.stop ?_;refine aH 586 (h2 trivial) (λQ hr hg=>?_)
 refine kV hg ?_;refine bt pzC [] de ?_;rfl
theorem adH (hw:(aw s).1=d8)(ho: ¬bx (aw s).2=true):ag G 543 [.ref 0 0 0,.str s] (bP e1.length e2.length e3.length n so true trm e1 e2 e3 (e4++[[AV.str nm,AV.vs 9 0 ts.length,AV.int .i64 df]]) k1 k2 k3 k4 [.vec 4 (ts.map Trm.enc)]) ⟨pnV (.ifc 138 (.agg [.int .i64 2])),rP e1.length e2.length e3.length n so true trm (.vec 2 e1) (.vec 2 e2) (.vec 2 e3) (.nest 3 e4 [[AV.str nm,AV.vs 9 0 ts.length,AV.int .i64 df]]) k1 k2 k3 k4 [(true,.vec 4 (ts.map Trm.enc))]⟩:=by
 unfold bP rP;have h0:=aE s (by omega)
 have hL:=fG e1 e2 e3 e4 p1 p2 p3 p4 k1 k2 k3 k4 so trm nm df n hn l4 ts lt;unfold im at d1;unfold il at d2;have htl:(aw s).2.length<4294967281:=B4 (bc s).2 hs;generalize aw s=ct at*;obtain ⟨w,t⟩:=ct;dsimp only at*;unfold d8 at hw;subst hw;have h2:=aU true;rw[Ac rfl] at h2;have h3:=λ(_:True)=>ba t htl
 rw[Aa ho] at h3;refine gvB (F:=su) ?_
 (conv=>whnf)
 refine kP pzC [] cu trivial hL ?_
 repeat' ((conv=>whnf);first|refine aG d1 ?_|refine aG d2 ?_|refine bj ?_|refine aq ?_|apply ae<;>intro h)
 (conv=>whnf)
 refine CallG.stop ?_;refine aH 597 (h3 trivial) (λQ hr hg=>?_)
 refine kV hg ?_;refine bt pzC [] de ?_;rfl
theorem adJ (hw:(aw s).1=d8)(ho:bx (aw s).2=true)(hk:64<=ts.length):ag G 543 [.ref 0 0 0,.str s] (bP e1.length e2.length e3.length n so true trm e1 e2 e3 (e4++[[AV.str nm,AV.vs 9 0 ts.length,AV.int .i64 df]]) k1 k2 k3 k4 [.vec 4 (ts.map Trm.enc)]) ⟨pnV (.ifc 138 (.agg [.int .i64 4])),rP e1.length e2.length e3.length n so true trm (.vec 2 e1) (.vec 2 e2) (.vec 2 e3) (.nest 3 e4 [[AV.str nm,AV.vs 9 0 ts.length,AV.int .i64 df]]) k1 k2 k3 k4 [(true,.vec 4 (ts.map Trm.enc))]⟩:=by
 unfold bP rP;have h0:=aE s (by omega)
 have hL:=fG e1 e2 e3 e4 p1 p2 p3 p4 k1 k2 k3 k4 so trm nm df n hn l4 ts lt;unfold im at d1;unfold il at d2;have htl:(aw s).2.length<4294967281:=B4 (bc s).2 hs;have hx: ∀x:B7,(e4++[x])[((n:Int)-1).toNat]? =some x:=λx=>by rw[hn];simp
 have hset: ∀y x:B7,(e4++[y]).set ((n:Int)-1).toNat x=e4++[x]:=λy x=>by rw[hn];simp
 generalize aw s=ct at*;obtain ⟨w,t⟩:=ct;dsimp only at*;unfold d8 at hw;subst hw;have h2:=aU true;rw[Ac rfl] at h2;have h3:=ba t htl;rw[Ac ho] at h3
 have h4:True->ag G 587 [.int .i64 (ts.length:Int)] [] (pF 4):=λ_=>by
  have:=b8 (ts.length:Int);rwa [Aa (by omega)] at this
 refine gvB (F:=su) ?_
 (conv=>whnf)
 refine kP pzC [] cu trivial hL ?_
 repeat' ((conv=>whnf);first|refine aG d1 ?_|refine aG d2 ?_|refine bj ?_|refine xr (hx _) ?_|refine aq ?_|apply ae<;>intro h)
 (conv=>whnf)
 refine CallG.stop ?_;refine aH 587 (h4 trivial) (λQ hr hg=>?_)
 refine kV hg ?_;refine bt pzC [] de ?_;rfl
end
section
variable (hf:Kn.fit ⟨k1,k2,k3,k4⟩)(s:B5)(hs:s.length<4294967281)(d1:s≠im)(d2:s≠il)(hw:(aw s).1=d8)(ho:bx (aw s).2=true)(hk:ts.length<64)
include hf hs d1 d2 hw ho hk
theorem adI (hc:kG ⟨k1,k2,k3,k4⟩ ts ⟨(aw s).2,[],[],1⟩≠0):ag G 543 [.ref 0 0 0,.str s] (bP e1.length e2.length e3.length n so true trm e1 e2 e3 (e4++[[AV.str nm,AV.vs 9 0 ts.length,AV.int .i64 df]]) k1 k2 k3 k4 [.vec 4 (ts.map Trm.enc)]) ⟨pnV (.ifc 138 (.agg [.int .i64 (kG ⟨k1,k2,k3,k4⟩ ts ⟨(aw s).2,[],[],1⟩)])),rP e1.length e2.length e3.length n so true trm (.vec 2 e1) (.vec 2 e2) (.vec 2 e3) (.nest 3 e4 [[AV.str nm,AV.vs 9 0 ts.length,AV.int .i64 df]]) k1 k2 k3 k4 [(true,.vec 4 (ts.map Trm.enc))]⟩:=by
 unfold bP rP;have h0:=aE s (by omega)
 have hL:=fG e1 e2 e3 e4 p1 p2 p3 p4 k1 k2 k3 k4 so trm nm df n hn l4 ts lt;unfold im at d1;unfold il at d2;have htl:(aw s).2.length<4294967281:=B4 (bc s).2 hs;have hx: ∀x:B7,(e4++[x])[((n:Int)-1).toNat]? =some x:=λx=>by rw[hn];simp
 have hset: ∀y x:B7,(e4++[y]).set ((n:Int)-1).toNat x=e4++[x]:=λy x=>by rw[hn];simp
 generalize aw s=ct at*;obtain ⟨w,t⟩:=ct;dsimp only at*;unfold d8 at hw;subst hw;have h2:=aU true;rw[Ac rfl] at h2;have h3:=ba t htl;rw[Ac ho] at h3
 have h4:ag G 587 [.int .i64 (ts.length:Int)] [] ⟨.tup [],[]⟩:=by
  have:=b8 (ts.length:Int);rwa [Ac (by omega)] at this
 have h5:ag G 582 [.agg [.sl 1 (k1.map ah),.sl 1 (k2.map ah),.sl 1 (k3.map ah),.sl 1 (k4.map ah)],.sl 4 (ts.map Trm.enc),.agg [.str t,.con (.slice none 0 0),.con (.slice none 0 0),.int .i64 1]] [] ⟨.int .i64 (kG ⟨k1,k2,k3,k4⟩ ts ⟨t,[],[],1⟩),[]⟩:=
  Jm rfl (vT ⟨k1,k2,k3,k4⟩ hf ts (by omega) ⟨t,[],[],1⟩ (Dl t (by omega))) ⟨.refl _,.refl _,LeP.agg ⟨.refl _,.nil 6,.nil 5,.refl _,trivial⟩,trivial⟩
 have y1:k1.length=(k1.map ah).length:=by simp
 have y2:k2.length=(k2.map ah).length:=by simp
 have y3:k3.length=(k3.map ah).length:=by simp
 have y4:k4.length=(k4.map ah).length:=by simp
 have y5:ts.length=(ts.map Trm.enc).length:=by simp
 generalize kG _ _ _=er at*;have h6:=λ(_:True)=>bC er
 rw[Aa hc] at h6;refine gvB (F:=su) ?_
 (conv=>whnf)
 refine kP pzC [] cu trivial hL ?_
 repeat' ((conv=>whnf);first|refine aG d1 ?_|refine aG d2 ?_|refine bj ?_|refine xr (hx _) ?_|refine aq ?_|refine kZ [(5,_,_),(6,_,_),(7,_,_),(8,_,_),(9,_,_)] ⟨rfl,pz ⟨rfl,pz ⟨rfl,pz ⟨rfl,pz ⟨rfl,pz trivial⟩⟩⟩⟩⟩ (h5) ?_|apply ae<;>intro h)
 (conv=>whnf)
 refine CallG.stop ?_;refine wn 590 (h6 trivial) (λQ hr hg=>?_)
 refine kV hg ?_;refine bt pzC [] de ?_;rfl
theorem ahx (hc:kG ⟨k1,k2,k3,k4⟩ ts ⟨(aw s).2,[],[],1⟩=0):ag G 543 [.ref 0 0 0,.str s] (bP e1.length e2.length e3.length n so true trm e1 e2 e3 (e4++[[AV.str nm,AV.vs 9 0 ts.length,AV.int .i64 df]]) k1 k2 k3 k4 [.vec 4 (ts.map Trm.enc)]) ⟨.tup [],rP e1.length e2.length e3.length n so true true (.vec 2 e1) (.vec 2 e2) (.vec 2 e3) (.nest 3 e4 [[AV.str nm,AV.vs 9 0 (ts.length+1),AV.int .i64 df]]) k1 k2 k3 k4 [(false,.vec 4 (ts.map Trm.enc++[[.str (aw s).2,.con (.slice none 0 0),.con (.slice none 0 0),.int .i64 0]]))]⟩:=by
 unfold bP rP;have h0:=aE s (by omega)
 have hL:=fG e1 e2 e3 e4 p1 p2 p3 p4 k1 k2 k3 k4 so trm nm df n hn l4 ts lt;unfold im at d1;unfold il at d2;have htl:(aw s).2.length<4294967281:=B4 (bc s).2 hs;have hx: ∀x:B7,(e4++[x])[((n:Int)-1).toNat]? =some x:=λx=>by rw[hn];simp
 have hset: ∀y x:B7,(e4++[y]).set ((n:Int)-1).toNat x=e4++[x]:=λy x=>by rw[hn];simp
 generalize aw s=ct at*;obtain ⟨w,t⟩:=ct;dsimp only at*;unfold d8 at hw;subst hw;have h2:=aU true;rw[Ac rfl] at h2;have h3:=ba t htl;rw[Ac ho] at h3
 have h4:ag G 587 [.int .i64 (ts.length:Int)] [] ⟨.tup [],[]⟩:=by
  have:=b8 (ts.length:Int);rwa [Ac (by omega)] at this
 have h5:ag G 582 [.agg [.sl 1 (k1.map ah),.sl 1 (k2.map ah),.sl 1 (k3.map ah),.sl 1 (k4.map ah)],.sl 4 (ts.map Trm.enc),.agg [.str t,.con (.slice none 0 0),.con (.slice none 0 0),.int .i64 1]] [] ⟨.int .i64 (kG ⟨k1,k2,k3,k4⟩ ts ⟨t,[],[],1⟩),[]⟩:=
  Jm rfl (vT ⟨k1,k2,k3,k4⟩ hf ts (by omega) ⟨t,[],[],1⟩ (Dl t (by omega))) ⟨.refl _,.refl _,LeP.agg ⟨.refl _,.nil 6,.nil 5,.refl _,trivial⟩,trivial⟩
 have y1:k1.length=(k1.map ah).length:=by simp
 have y2:k2.length=(k2.map ah).length:=by simp
 have y3:k3.length=(k3.map ah).length:=by simp
 have y4:k4.length=(k4.map ah).length:=by simp
 have y5:ts.length=(ts.map Trm.enc).length:=by simp
 rw[hc] at h5;have h6:=bC 0;rw[Ac rfl] at h6;refine gvB (F:=su) ?_
 (conv=>whnf)
 refine kP pzC [] cu trivial hL ?_
 repeat' ((conv=>whnf);first|refine aG d1 ?_|refine aG d2 ?_|refine bj ?_|refine xr (hx _) ?_|refine aq ?_|refine kZ [(5,_,_),(6,_,_),(7,_,_),(8,_,_),(9,_,_)] ⟨rfl,pz ⟨rfl,pz ⟨rfl,pz ⟨rfl,pz ⟨rfl,pz trivial⟩⟩⟩⟩⟩ (h5) ?_|apply ae<;>intro h)
 (conv=>whnf)
 rw[hset]
 (first|refine da pzC [] [true,true,true,true,true,true,true,true,true,false] ?_|refine db pzC [] [true,true,true,true,true,true,true,true,true,false] ?_)
 rfl
end
end
end Go.AM.IR
