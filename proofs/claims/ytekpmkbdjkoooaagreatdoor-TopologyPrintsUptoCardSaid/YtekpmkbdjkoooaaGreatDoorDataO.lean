/- What the functions of this program give, on the abstract machine. -/
import Derived.Test.YtekpmkbdjkoooaaGreatDoorDataD
import Derived.Test.YtekpmkbdjkoooaaGreatDoorDataC
import Derived.Test.YtekpmkbdjkoooaaGreatDoorDataL
import Derived.Test.YtekpmkbdjkoooaaGreatDoorDataH
import Derived.Test.YtekpmkbdjkoooaaGreatDoorDataJ
import Derived.Test.YtekpmkbdjkoooaaGreatDoorDataF
import Derived.Test.YtekpmkbdjkoooaaGreatDoorDataN
set_option linter.unusedVariables false
set_option linter.unusedSimpArgs false
set_option maxHeartbeats 4000000
set_option maxRecDepth 20000
namespace Go.AM.IR
theorem adI: ∀f n:Nat,1≤(cz f n).length
 |0,n=>by simp[cz]
 |f+1,n=>by
  simp only[cz];split<;>simp
theorem dp {n:Nat}(h:n<256):1≤(aa n).length∧(aa n).length≤3:=by
 have e:aa n=cz 19 n:=by unfold aa;rw[Ac (by omega),Int.toNat_natCast]
 rw[e];exact ⟨adI 19 n,ul 19 2 n (by omega)⟩
theorem bg (n:Int):(aa n).length≤21:=by
 unfold aa;split
 ·have:=pr 19 n.natAbs
  rw[As];omega
 ·have:=pr 19 n.toNat
  omega
def Uw:Option Ret→List UInt8→Bool
 |some ⟨.str s,[]⟩,l=>s==l
 |_,_=>false
theorem abE {o:Option Ret}{l:List UInt8}(h:Uw o l=true):o=some ⟨.str l,[]⟩:=by
 unfold Uw at h;split at h
 ·rw[beq_iff_eq] at h;rw[h]
 ·cases h
theorem ae5:(List.range 256).all (fun n=>Uw (run G 200 (Wy.start [.int .i64 (n:Int)] [])) (aa n))=true:=by kernel_rfl
theorem tr {n:Nat}(h:n<256):ah G 248 [.int .i64 (n:Int)] [] ⟨.str (aa n),[]⟩:=
 qf 200 rfl rfl (abE (List.all_eq_true.1 ae5 n (List.mem_range.2 h)))
theorem gJ {n:Int}(h0: -9223372036854775808≤n)(h1:n≤9223372036854775807):ah G 246 [.int .i64 n] [] ⟨.str (aa n),[]⟩:=by
 show yV _ _=_
 exact Ad ⟨h0,h1⟩
def bq (x:Nat):List UInt8:=aa (x/ 16777216:Nat)++46::(aa (x/ 65536 % 256:Nat)++46::(aa (x/ 256 % 256:Nat)++46::aa (x % 256:Nat)))
section
variable {k:AV→Prop} {q:IntKind}
theorem ny (m:Nat){x:Nat}{j:Int}(h:k (.int .u32 ((x/ m:Nat):Int)))(hm:m=2^j.toNat)(h0:0≤j)(h1:j≤32): ∃v,bv .shr (.int .u32 (x:Int)) (.int q j)=some v∧k v:=by
 subst hm;refine ⟨_,?_,h⟩;show (if j<0 then none else some (AV.int .u32 ((x:Int).fdiv (2^ (min j.toNat 32)))))=_
 rw[Ac (by omega),show min j.toNat 32=j.toNat by omega]
 congr 2
 rw[Int.fdiv_eq_ediv_of_nonneg _ (by exact Int.le_of_lt (Int.pow_pos (by omega)))]
 simp
theorem qK {x:Nat}(h:k (.int .u32 ((x % 256:Nat):Int)))(hx:x<4294967296): ∃v,bv .and (.int .u32 (x:Int)) (.int .u32 255)=some v∧k v:=
 ⟨_,by
  show some (AV.int .u32 (intBits .and .u32 (x:Int) ((255:Nat):Int)))=_
  rw[u9 x 255 hx (by omega),show (255:Nat)=2^8-1 from rfl,Nat.and_two_pow_sub_one_eq_mod],h⟩
theorem zCat {a b:List UInt8}(h:k (.str (a++b)))(hl:a.length+b.length<2^62:=by first|omega|(simp;omega)): ∃v,bv .add (.str a) (.str b)=some v∧k v:=⟨_,Ad hl,h⟩
end
theorem Jm (a b c d:List UInt8)(h:a.length≤3∧b.length≤3∧c.length≤3∧d.length≤3):ah G 247 [.sl 1 [[.str a],[.str b],[.str c],[.str d]],.str [46]] [] ⟨.str (a++46::(b++46::(c++46::d))),[]⟩:=by
 have hj:Lib.join [a,b,c,d] [46]=a++46::(b++46::(c++46::d)):=by simp[Lib.join,List.intercalate]
 show yU [.sl 1 [[.str a],[.str b],[.str c],[.str d]],.str [46]] []=_
 show (if [a,b,c,d].length≤140737488355328∧(Lib.join [a,b,c,d] [46]).length≤140737488355328 then some (⟨.str (Lib.join [a,b,c,d] [46]),[]⟩:Ret) else none)=_
 rw[hj,Ad];simp;omega
theorem bA {n:Int}(h:okI n):ah G 337 [.int .i64 n] [] ⟨.str (aa n),[]⟩:=by
 unfold okI at h;have hi:=gJ (n:=n) (by omega) (by omega)
 generalize aa n=t at*;exact gvA (F:=f337)
section
variable {kv:AV→Prop} {k:Eff→Prop} {x:Opd} {g key:Nat} {hg:Nat→Option (Nat×Blk)} {n:Int}
theorem zAdU (h0:n<0)(h1: -9223372036854775808≤n)(h:kv (.int .u64 ((n.natAbs:Nat):Int))): ∃v,bv .add (.int .u64 (-(n+1))) (.int .u64 1)=some v∧kv v:=by
 refine ⟨_,?_,h⟩;show some (AV.int .u64 (IntKind.wrap .u64 (-(n+1)+1)))=_
 rw[sO (by omega) (by omega),show-(n+1)+1=((n.natAbs:Nat):Int) by omega]
end
theorem eW {n:Int}(h:okI n):ah G 338 [.int .i64 n] [] ⟨.str (aa n),[]⟩:=by
 unfold okI at h
 by_cases h0:n<0
 ·have hd:=pq 19 n.natAbs (by omega) (by omega) (by omega)
  have e2:aa n=45::cz 19 n.natAbs:=by unfold aa;rw[Ad h0]
  have hl:=pr 19 n.natAbs;rw[e2];generalize cz 19 n.natAbs=w at*;refine gvC (F:=f338) ?_
  repeat' ((conv=>whnf);first|refine zAdU h0 (by omega) ?_|refine bp ?_|refine au ?_|(refine ae ?_ ?_<;>intro h))
  refine ag ?_;rfl
 ·have hd:=pq 19 n.toNat (by omega) (by omega) (by omega)
  have e:((n.toNat:Nat):Int)=n:=by omega
  rw[e] at hd;have e2:aa n=cz 19 n.toNat:=by unfold aa;rw[Ac (by omega)]
  rw[e2];generalize cz 19 n.toNat=w at*;exact gvA (F:=f338)
theorem afI {k:Eff→Prop}{x:Opd}{g key kk gk n:Nat}{cs:List AV}{hg:Nat→Option (Nat×Blk)}(h:k {res:=.vs key g n,wr:=[(key,some (g,.vec 1 (cs.map fun c=>[c]))),(kk,some (g,.vec 1 []))],rd:=[kk]})
  (hk:hg kk=some (gk,.cells cs):=by rfl) (hn:cs.length=n:=by rfl) (hne:kk≠key:=by decide): ∃e,aH (.slarr n 1 x none none none) g key [.ref kk gk 0] hg=some e∧k e:=by
 refine ⟨_,?_,h⟩;simp[aH,s9,hk,hn,hne]
theorem gN (x:Nat)(hx:x<4294967296):ah G 228 [.int .u32 (x:Int)] [] ⟨.str (bq x),[]⟩:=by
 have n3:=tr (n:=x/ 16777216) (by omega)
 have n2:=tr (n:=x/ 65536 % 256) (by omega)
 have n1:=tr (n:=x/ 256 % 256) (by omega)
 have n0:=tr (n:=x % 256) (by omega)
 have l3:=dp (n:=x/ 16777216) (by omega)
 have l2:=dp (n:=x/ 65536 % 256) (by omega)
 have l1:=dp (n:=x/ 256 % 256) (by omega)
 have l0:=dp (n:=x % 256) (by omega)
 unfold bq;generalize aa (x/ 16777216:Nat)=t3 at*;generalize aa (x/ 65536 % 256:Nat)=t2 at*;generalize aa (x/ 256 % 256:Nat)=t1 at*;generalize aa (x % 256:Nat)=t0 at*;refine gvC (F:=adw) ?_
 repeat' ((conv=>whnf);first|refine zCat ?_|refine ny 16777216 ?_ (by rfl) (by omega) (by omega)|refine ny 65536 ?_ (by rfl) (by omega) (by omega)|refine ny 256 ?_ (by rfl) (by omega) (by omega)|refine qK ?_ (by omega)|refine au ?_|(refine ae ?_ ?_<;>intro h))
 refine ag ?_;simp
theorem Xb (x:Nat)(t3 t2 t1 t0 R:List UInt8)(hx:x<4294967296)(n3:ah G 246 [.int .i64 (x/ 16777216 % 256:Nat)] [] ⟨.str t3,[]⟩)(n2:ah G 246 [.int .i64 (x/ 65536 % 256:Nat)] [] ⟨.str t2,[]⟩)(n1:ah G 246 [.int .i64 (x/ 256 % 256:Nat)] [] ⟨.str t1,[]⟩)(n0:ah G 246 [.int .i64 (x/ 1 % 256:Nat)] [] ⟨.str t0,[]⟩)(ej:ah G 247 [.sl 1 [[.str t3],[.str t2],[.str t1],[.str t0]],.str [46]] [] ⟨.str R,[]⟩)(T:TV)(H:aw)(c g:Nat):
  Ev G ⟨pc,⟨(5,.int .i64 4)::(3,.ref 67 g 0)::(0,.int .u32 (x:Int))::T,(67,some (g,.cells [.str t3,.str t2,.str t1,.str t0]))::H,c⟩,[.t 2],0⟩ ⟨.str R,[]⟩:=by
 refine evl ?_
 repeat' ((conv=>whnf);first|refine afI ?_|refine au ?_|refine kZ [(83,_,_)] ⟨rfl,pz trivial⟩ (ej) ?_|(refine ae ?_ ?_<;>intro h))
 refine ag ?_;rfl
theorem Xc (x:Nat)(t3 t2 t1 t0 R:List UInt8)(hx:x<4294967296)(n3:ah G 246 [.int .i64 (x/ 16777216 % 256:Nat)] [] ⟨.str t3,[]⟩)(n2:ah G 246 [.int .i64 (x/ 65536 % 256:Nat)] [] ⟨.str t2,[]⟩)(n1:ah G 246 [.int .i64 (x/ 256 % 256:Nat)] [] ⟨.str t1,[]⟩)(n0:ah G 246 [.int .i64 (x/ 1 % 256:Nat)] [] ⟨.str t0,[]⟩)(ej:ah G 247 [.sl 1 [[.str t3],[.str t2],[.str t1],[.str t0]],.str [46]] [] ⟨.str R,[]⟩)(T:TV)(H:aw)(c g:Nat):
  Ev G ⟨pc,⟨(5,.int .i64 3)::(3,.ref 67 g 0)::(0,.int .u32 (x:Int))::T,(67,some (g,.cells [.str t3,.str t2,.str t1,.str []]))::H,c⟩,[.t 2],0⟩ ⟨.str R,[]⟩:=by
 refine evl ?_
 repeat' ((conv=>whnf);first|refine ny 1 ?_ (by rfl) (by omega) (by omega)|refine qK ?_ (by omega)|refine au ?_|(refine ae ?_ ?_<;>intro h))
 refine ab [5,3,0] [67] ?_;exact Xb x t3 t2 t1 t0 R hx n3 n2 n1 n0 ej _ _ _ _
theorem Xd (x:Nat)(t3 t2 t1 t0 R:List UInt8)(hx:x<4294967296)(n3:ah G 246 [.int .i64 (x/ 16777216 % 256:Nat)] [] ⟨.str t3,[]⟩)(n2:ah G 246 [.int .i64 (x/ 65536 % 256:Nat)] [] ⟨.str t2,[]⟩)(n1:ah G 246 [.int .i64 (x/ 256 % 256:Nat)] [] ⟨.str t1,[]⟩)(n0:ah G 246 [.int .i64 (x/ 1 % 256:Nat)] [] ⟨.str t0,[]⟩)(ej:ah G 247 [.sl 1 [[.str t3],[.str t2],[.str t1],[.str t0]],.str [46]] [] ⟨.str R,[]⟩)(T:TV)(H:aw)(c g:Nat):
  Ev G ⟨pc,⟨(5,.int .i64 2)::(3,.ref 67 g 0)::(0,.int .u32 (x:Int))::T,(67,some (g,.cells [.str t3,.str t2,.str [],.str []]))::H,c⟩,[.t 2],0⟩ ⟨.str R,[]⟩:=by
 refine evl ?_
 repeat' ((conv=>whnf);first|refine ny 256 ?_ (by rfl) (by omega) (by omega)|refine qK ?_ (by omega)|refine au ?_|(refine ae ?_ ?_<;>intro h))
 refine ab [5,3,0] [67] ?_;exact Xc x t3 t2 t1 t0 R hx n3 n2 n1 n0 ej _ _ _ _
theorem Xf (x:Nat)(t3 t2 t1 t0 R:List UInt8)(hx:x<4294967296)(n3:ah G 246 [.int .i64 (x/ 16777216 % 256:Nat)] [] ⟨.str t3,[]⟩)(n2:ah G 246 [.int .i64 (x/ 65536 % 256:Nat)] [] ⟨.str t2,[]⟩)(n1:ah G 246 [.int .i64 (x/ 256 % 256:Nat)] [] ⟨.str t1,[]⟩)(n0:ah G 246 [.int .i64 (x/ 1 % 256:Nat)] [] ⟨.str t0,[]⟩)(ej:ah G 247 [.sl 1 [[.str t3],[.str t2],[.str t1],[.str t0]],.str [46]] [] ⟨.str R,[]⟩)(T:TV)(H:aw)(c g:Nat):
  Ev G ⟨pc,⟨(5,.int .i64 1)::(3,.ref 67 g 0)::(0,.int .u32 (x:Int))::T,(67,some (g,.cells [.str t3,.str [],.str [],.str []]))::H,c⟩,[.t 2],0⟩ ⟨.str R,[]⟩:=by
 refine evl ?_
 repeat' ((conv=>whnf);first|refine ny 65536 ?_ (by rfl) (by omega) (by omega)|refine qK ?_ (by omega)|refine au ?_|(refine ae ?_ ?_<;>intro h))
 refine ab [5,3,0] [67] ?_;exact Xd x t3 t2 t1 t0 R hx n3 n2 n1 n0 ej _ _ _ _
theorem Xg (x:Nat)(t3 t2 t1 t0 R:List UInt8)(hx:x<4294967296)(n3:ah G 246 [.int .i64 (x/ 16777216 % 256:Nat)] [] ⟨.str t3,[]⟩)(n2:ah G 246 [.int .i64 (x/ 65536 % 256:Nat)] [] ⟨.str t2,[]⟩)(n1:ah G 246 [.int .i64 (x/ 256 % 256:Nat)] [] ⟨.str t1,[]⟩)(n0:ah G 246 [.int .i64 (x/ 1 % 256:Nat)] [] ⟨.str t0,[]⟩)(ej:ah G 247 [.sl 1 [[.str t3],[.str t2],[.str t1],[.str t0]],.str [46]] [] ⟨.str R,[]⟩)(T:TV)(H:aw)(c g:Nat):
  Ev G ⟨pc,⟨(5,.int .i64 0)::(3,.ref 67 g 0)::(0,.int .u32 (x:Int))::T,(67,some (g,.cells [.str [],.str [],.str [],.str []]))::H,c⟩,[.t 2],0⟩ ⟨.str R,[]⟩:=by
 refine evl ?_
 repeat' ((conv=>whnf);first|refine ny 16777216 ?_ (by rfl) (by omega) (by omega)|refine qK ?_ (by omega)|refine au ?_|(refine ae ?_ ?_<;>intro h))
 refine ab [5,3,0] [67] ?_;exact Xf x t3 t2 t1 t0 R hx n3 n2 n1 n0 ej _ _ _ _
theorem gQ (x:Nat)(hx:x<4294967296):ah G 227 [.int .u32 (x:Int)] [] ⟨.str (bq x),[]⟩:=by
 have n3:=gJ (n:=(x/ 16777216:Nat)) (by omega) (by omega)
 have n2:=gJ (n:=(x/ 65536 % 256:Nat)) (by omega) (by omega)
 have n1:=gJ (n:=(x/ 256 % 256:Nat)) (by omega) (by omega)
 have n0:=gJ (n:=(x % 256:Nat)) (by omega) (by omega)
 have l3:=dp (n:=x/ 16777216) (by omega)
 have l2:=dp (n:=x/ 65536 % 256) (by omega)
 have l1:=dp (n:=x/ 256 % 256) (by omega)
 have l0:=dp (n:=x % 256) (by omega)
 have ej:=Jm _ _ _ _ ⟨l3.2,l2.2,l1.2,l0.2⟩;have n3:ah G 246 [.int .i64 (x/ 16777216 % 256:Nat)] [] ⟨.str (aa (x/ 16777216:Nat)),[]⟩:=by rw[show x/ 16777216 % 256=x/ 16777216 by omega];exact n3
 have n0:ah G 246 [.int .i64 (x/ 1 % 256:Nat)] [] ⟨.str (aa (x % 256:Nat)),[]⟩:=by rw[Nat.div_one];exact n0
 refine gvB (F:=WC) ?_;refine ab [5,3,0] [67] ?_;exact Xg x _ _ _ _ _ hx n3 n2 n1 n0 ej _ _ _ _
theorem ph {x:Nat}(hx:x<4294967296):(bq x).length≤15:=by
 have l3:=dp (n:=x/ 16777216) (by omega)
 have l2:=dp (n:=x/ 65536 % 256) (by omega)
 have l1:=dp (n:=x/ 256 % 256) (by omega)
 have l0:=dp (n:=x % 256) (by omega)
 unfold bq;simp only[Ar,As];omega
def jX (x n:Nat):List UInt8:=bq x++47::aa n
theorem nA {p:Pfx}(h:aW p=true):0≤p.len∧p.len≤32:=by
 unfold aW at h;rw[AO] at h;exact ⟨h.1,h.2.1⟩
theorem gH (p:Pfx)(h:p.ok):ah G 229 [.agg p.enc] [] ⟨.str (if aW p=true then jX p.addr.toNat p.len.toNat else []),[]⟩:=by
 obtain ⟨e,hx⟩:=dI h.addr;have hv:=dZ p h;have ha:=gQ p.addr.toNat hx;have hd:=ph hx;rw[←e] at ha;cases hvp:aW p
 ·rw[hvp] at hv
  rw[Ac (by simp)]
  exact gvA (F:=WB)
 ·rw[hvp] at hv
  obtain ⟨n0,n1⟩:=nA hvp;have hi:=gJ (n:=p.len) (by omega) (by omega)
  have hil:=dp (n:=p.len.toNat) (by omega)
  rw[Int.toNat_of_nonneg n0] at hil;rw[Ad rfl,jX,Int.toNat_of_nonneg n0];generalize aa p.len=t at*;generalize bq p.addr.toNat=d at*;refine gvC (F:=WB) ?_
  repeat' (first|refine cg ?_|(refine ae ?_ ?_<;>intro h))
  refine ag ?_;simp
theorem gG (p:Pfx)(h:p.ok):ah G 230 [.agg p.enc] [] ⟨.str (if aW p=true then jX p.addr.toNat p.len.toNat else []),[]⟩:=by
 obtain ⟨e,hx⟩:=dI h.addr;have hv:=co p h;have ha:=gN p.addr.toNat hx;have hd:=ph hx;rw[←e] at ha;cases hvp:aW p
 ·rw[hvp] at hv
  rw[Ac (by simp)]
  exact gvA (F:=WA)
 ·rw[hvp] at hv
  obtain ⟨n0,n1⟩:=nA hvp;have hi:=tr (n:=p.len.toNat) (by omega)
  have hil:=dp (n:=p.len.toNat) (by omega)
  rw[Int.toNat_of_nonneg n0] at hil hi;rw[Ad rfl,jX,Int.toNat_of_nonneg n0];generalize aa p.len=t at*;generalize bq p.addr.toNat=d at*;refine gvC (F:=WA) ?_
  repeat' (first|refine cg ?_|(refine ae ?_ ?_<;>intro h))
  refine ag ?_;simp
theorem pQ {x n:Nat}(hx:x<4294967296)(hn:n≤32):(jX x n).length≤19:=by
 have:=ph hx;have:=dp (n:=n) (by omega)
 unfold jX;simp only[Ar,As];omega
def pfT (p:Pfx):List UInt8:=if aW p=true then jX p.addr.toNat p.len.toNat else []
theorem Sy (p:Pfx)(h:p.ok):(pfT p).length≤19:=by
 obtain ⟨_,hx⟩:=dI h.addr;unfold pfT;split
 ·rename_i v
  have:=nA v;exact pQ hx (by omega)
 ·simp
end Go.AM.IR
namespace Go.AM.IR
def v8:List UInt8:=[112,114,101,102,105,120,45,108,105,115,116,32]
def wa:List UInt8:=[112,97,116,104,45,108,105,115,116,32]
def wb:List UInt8:=[99,111,109,109,117,110,105,116,121,45,108,105,115,116,32]
def aaT:List UInt8:=[112,114,111,116,111,99,111,108,32]
def Bj:List UInt8:=[116,97,103,32]
def Bp:List UInt8:=[109,101,116,114,105,99,32]
def Bq:List UInt8:=[110,101,120,116,45,104,111,112,32]
def aaV:List UInt8:=[112,97,116,104,45,108,101,110,103,116,104,32]
def Tr:List UInt8:=[112,114,101,102,32]
def aaX:List UInt8:=[109,101,100,32]
def aaZ:List UInt8:=[97,100,100,32]
def aaY:List UInt8:=[100,101,108,101,116,101,32]
def aaU:List UInt8:=[112,114,101,112,101,110,100,32]
def Bn:List UInt8:=[112,101,114,109,105,116,32]
def Tv:List UInt8:=[100,101,110,121,32]
def aa0:List UInt8:=[97,99,99,101,112,116]
def aaS:List UInt8:=[114,101,106,101,99,116]
def aaW:List UInt8:=[110,101,120,116]
def wC0:List UInt8:=[103,114,97,99,101,102,117,108,45,115,104,117,116,100,111,119,110]
def wC1:List UInt8:=[110,111,45,101,120,112,111,114,116]
def wC2:List UInt8:=[110,111,45,97,100,118,101,114,116,105,115,101]
def wC3:List UInt8:=[110,111,45,101,120,112,111,114,116,45,99,111,110,102,101,100]
def sn (x:Nat):List UInt8:=if (x:Int)=4294901760 then wC0 else if (x:Int)=4294967041 then wC1 else if (x:Int)=4294967042 then wC2 else if (x:Int)=4294967043 then wC3 else aa ((x/ 65536:Nat):Int)++58::aa ((x % 65536:Nat):Int)
theorem xG (x:Nat):(sn x).length≤43:=by
 unfold sn;have h1:=bg ((x/ 65536:Nat):Int);have h2:=bg ((x % 65536:Nat):Int)
 repeat' split
 all_goals first|decide|(simp only[Ar,As];omega)
section
variable {k:AV→Prop}
theorem aeb {x:Nat}(hx:x<4294967296)(h:k (.int .u32 ((x % 65536:Nat):Int))): ∃v,bv .and (.int .u32 (x:Int)) (.int .u32 65535)=some v∧k v:=
 ⟨_,by
  show some (AV.int .u32 (intBits .and .u32 (x:Int) ((65535:Nat):Int)))=_
  rw[u9 x 65535 hx (by omega),show (65535:Nat)=2^16-1 from rfl,Nat.and_two_pow_sub_one_eq_mod],h⟩
end
theorem adN (x:Nat)(hx:x<4294967296)(T:TV)(H:aw)(c g:Nat):
  Ev G ⟨oV,⟨(12,.int .i64 4)::(11,.agg [.int .u32 4294901760,.int .u32 4294967041,.int .u32 4294967042,.int .u32 4294967043])::(4,.ref 68 g 0)::(0,.int .u32 (x:Int))::T,(68,some (g,.cells [.str [103,114,97,99,101,102,117,108,45,115,104,117,116,100,111,119,110],.str [110,111,45,101,120,112,111,114,116],.str [110,111,45,97,100,118,101,114,116,105,115,101],.str [110,111,45,101,120,112,111,114,116,45,99,111,110,102,101,100]]))::H,c⟩,[.t 2],0⟩ ⟨.str (aa ((x/ 65536:Nat):Int)++58::aa ((x % 65536:Nat):Int)),[]⟩:=by
 have d1:=bA (n:=((x/ 65536:Nat):Int)) (by unfold okI;omega)
 have d2:=bA (n:=((x % 65536:Nat):Int)) (by unfold okI;omega)
 have l1:=bg ((x/ 65536:Nat):Int);have l2:=bg ((x % 65536:Nat):Int);generalize aa ((x/ 65536:Nat):Int)=a at*;generalize aa ((x % 65536:Nat):Int)=b at*;refine evl ?_
 repeat' ((conv=>whnf);first|refine ny 65536 ?_ (by rfl) (by omega) (by omega)|refine aeb hx ?_|refine bp ?_|refine au ?_|(refine ae ?_ ?_<;>intro h))
 refine ag ?_;simp
theorem adO (x:Nat)(hx:x<4294967296)(T:TV)(H:aw)(c g:Nat):
  Ev G ⟨oV,⟨(12,.int .i64 3)::(11,.agg [.int .u32 4294901760,.int .u32 4294967041,.int .u32 4294967042,.int .u32 4294967043])::(4,.ref 68 g 0)::(0,.int .u32 (x:Int))::T,(68,some (g,.cells [.str [103,114,97,99,101,102,117,108,45,115,104,117,116,100,111,119,110],.str [110,111,45,101,120,112,111,114,116],.str [110,111,45,97,100,118,101,114,116,105,115,101],.str [110,111,45,101,120,112,111,114,116,45,99,111,110,102,101,100]]))::H,c⟩,[.t 2],0⟩ ⟨.str (if (x:Int)=4294967043 then wC3 else aa ((x/ 65536:Nat):Int)++58::aa ((x % 65536:Nat):Int)),[]⟩:=by
 have ih:=fun T H c=>adN x hx T H c g
 by_cases e:(x:Int)=4294967043
 ·rw[Ad e]
  refine evl ?_
  repeat' ((conv=>whnf);first|refine bj e ?_|refine au ?_|(refine ae ?_ ?_<;>intro h))
  refine ag ?_;rfl
 ·rw[Ac e]
  refine evl ?_
  repeat' ((conv=>whnf);first|refine aY e ?_|refine au ?_|(refine ae ?_ ?_<;>intro h))
  refine ab [12,11,4,0] [68] ?_;exact ih _ _ _
theorem adP (x:Nat)(hx:x<4294967296)(T:TV)(H:aw)(c g:Nat):
  Ev G ⟨oV,⟨(12,.int .i64 2)::(11,.agg [.int .u32 4294901760,.int .u32 4294967041,.int .u32 4294967042,.int .u32 4294967043])::(4,.ref 68 g 0)::(0,.int .u32 (x:Int))::T,(68,some (g,.cells [.str [103,114,97,99,101,102,117,108,45,115,104,117,116,100,111,119,110],.str [110,111,45,101,120,112,111,114,116],.str [110,111,45,97,100,118,101,114,116,105,115,101],.str [110,111,45,101,120,112,111,114,116,45,99,111,110,102,101,100]]))::H,c⟩,[.t 2],0⟩ ⟨.str (if (x:Int)=4294967042 then wC2 else if (x:Int)=4294967043 then wC3 else aa ((x/ 65536:Nat):Int)++58::aa ((x % 65536:Nat):Int)),[]⟩:=by
 have ih:=fun T H c=>adO x hx T H c g
 by_cases e:(x:Int)=4294967042
 ·rw[Ad e]
  refine evl ?_
  repeat' ((conv=>whnf);first|refine bj e ?_|refine au ?_|(refine ae ?_ ?_<;>intro h))
  refine ag ?_;rfl
 ·rw[Ac e]
  refine evl ?_
  repeat' ((conv=>whnf);first|refine aY e ?_|refine au ?_|(refine ae ?_ ?_<;>intro h))
  refine ab [12,11,4,0] [68] ?_;exact ih _ _ _
theorem adQ (x:Nat)(hx:x<4294967296)(T:TV)(H:aw)(c g:Nat):
  Ev G ⟨oV,⟨(12,.int .i64 1)::(11,.agg [.int .u32 4294901760,.int .u32 4294967041,.int .u32 4294967042,.int .u32 4294967043])::(4,.ref 68 g 0)::(0,.int .u32 (x:Int))::T,(68,some (g,.cells [.str [103,114,97,99,101,102,117,108,45,115,104,117,116,100,111,119,110],.str [110,111,45,101,120,112,111,114,116],.str [110,111,45,97,100,118,101,114,116,105,115,101],.str [110,111,45,101,120,112,111,114,116,45,99,111,110,102,101,100]]))::H,c⟩,[.t 2],0⟩ ⟨.str (if (x:Int)=4294967041 then wC1 else if (x:Int)=4294967042 then wC2 else if (x:Int)=4294967043 then wC3 else aa ((x/ 65536:Nat):Int)++58::aa ((x % 65536:Nat):Int)),[]⟩:=by
 have ih:=fun T H c=>adP x hx T H c g
 by_cases e:(x:Int)=4294967041
 ·rw[Ad e]
  refine evl ?_
  repeat' ((conv=>whnf);first|refine bj e ?_|refine au ?_|(refine ae ?_ ?_<;>intro h))
  refine ag ?_;rfl
 ·rw[Ac e]
  refine evl ?_
  repeat' ((conv=>whnf);first|refine aY e ?_|refine au ?_|(refine ae ?_ ?_<;>intro h))
  refine ab [12,11,4,0] [68] ?_;exact ih _ _ _
theorem adR (x:Nat)(hx:x<4294967296)(T:TV)(H:aw)(c g:Nat):
  Ev G ⟨oV,⟨(12,.int .i64 0)::(11,.agg [.int .u32 4294901760,.int .u32 4294967041,.int .u32 4294967042,.int .u32 4294967043])::(4,.ref 68 g 0)::(0,.int .u32 (x:Int))::T,(68,some (g,.cells [.str [103,114,97,99,101,102,117,108,45,115,104,117,116,100,111,119,110],.str [110,111,45,101,120,112,111,114,116],.str [110,111,45,97,100,118,101,114,116,105,115,101],.str [110,111,45,101,120,112,111,114,116,45,99,111,110,102,101,100]]))::H,c⟩,[.t 2],0⟩ ⟨.str (if (x:Int)=4294901760 then wC0 else if (x:Int)=4294967041 then wC1 else if (x:Int)=4294967042 then wC2 else if (x:Int)=4294967043 then wC3 else aa ((x/ 65536:Nat):Int)++58::aa ((x % 65536:Nat):Int)),[]⟩:=by
 have ih:=fun T H c=>adQ x hx T H c g
 by_cases e:(x:Int)=4294901760
 ·rw[Ad e]
  refine evl ?_
  repeat' ((conv=>whnf);first|refine bj e ?_|refine au ?_|(refine ae ?_ ?_<;>intro h))
  refine ag ?_;rfl
 ·rw[Ac e]
  refine evl ?_
  repeat' ((conv=>whnf);first|refine aY e ?_|refine au ?_|(refine ae ?_ ?_<;>intro h))
  refine ab [12,11,4,0] [68] ?_;exact ih _ _ _
theorem Oq (x:Nat)(hx:x<4294967296):ah G 583 [.int .u32 (x:Int)] [] ⟨.str (sn x),[]⟩:=by
 have h:ah G 628 [] [] ⟨.tup [.agg [.int .u32 4294901760,.int .u32 4294967041,.int .u32 4294967042,.int .u32 4294967043],.agg [.str [103,114,97,99,101,102,117,108,45,115,104,117,116,100,111,119,110],.str [110,111,45,101,120,112,111,114,116],.str [110,111,45,97,100,118,101,114,116,105,115,101],.str [110,111,45,101,120,112,111,114,116,45,99,111,110,102,101,100]]],[]⟩:=qf 100 rfl rfl rfl;refine gvB (F:=VK) ?_;refine ab [12,11,4,0] [68] ?_;exact adR x hx _ _ _ _
theorem Om (x:Nat)(hx:x<4294967296):ah G 584 [.int .u32 (x:Int)] [] ⟨.str (sn x),[]⟩:=by
 have d1:=eW (n:=((x/ 65536:Nat):Int)) (by unfold okI;omega)
 have d2:=eW (n:=((x % 65536:Nat):Int)) (by unfold okI;omega)
 have l1:=bg ((x/ 65536:Nat):Int);have l2:=bg ((x % 65536:Nat):Int);unfold sn;generalize aa ((x/ 65536:Nat):Int)=a at*;generalize aa ((x % 65536:Nat):Int)=b at*;refine gvC (F:=ack) ?_
 repeat' ((conv=>whnf);first|refine ny 65536 ?_ (by rfl) (by omega) (by omega)|refine aeb hx ?_|refine bp ?_|refine au ?_|(refine ae ?_ ?_<;>intro h))
 all_goals (refine ag ?_;simp[*,wC0,wC1,wC2,wC3])
def l9 (m:Mat):List UInt8:=if m.kind=1 then v8++m.name else if m.kind=2 then wa++m.name else if m.kind=3 then wb++m.name else if m.kind=4 then aaT++aa m.n else if m.kind=5 then Bj++aa m.n else if m.kind=6 then Bp++aa m.n else if m.kind=7 then Bq++pfT m.pfx else aaV++aa m.n
def mr (a:Actn):List UInt8:=if a.kind=1 then Tr++aa a.n else if a.kind=2 then aaX++aa a.n else if a.kind=3 then Bp++aa a.n else if a.kind=4 then Bj++aa a.n else if a.kind=5 then Bq++bq a.addr.toNat else if a.kind=6 then aaZ++sn a.com.toNat else if a.kind=7 then aaY++sn a.com.toNat else aaU++(aa a.asn++32::aa a.n)
theorem Mr (m:Mat)(h:m.ok)(hl:m.name.length<2^40):ah G 524 [.agg m.enc] [] ⟨.str (l9 m),[]⟩:=by
 have d:=bA h.2.1;have t:ah G 229 [.agg m.pfx.enc] [] ⟨.str (pfT m.pfx),[]⟩:=gH m.pfx h.2.2;have ld:=bg m.n;have lt:=Sy m.pfx h.2.2;unfold l9;clear h;generalize pfT m.pfx=p at*;generalize aa m.n=dn at*;refine gvC (F:=acG) ?_
 repeat' ((conv=>whnf);first|refine bp ?_|refine au ?_|(refine ae ?_ ?_<;>intro h))
 all_goals (refine ag ?_;simp[*,v8,wa,wb,aaT,Bj,Bp,Bq,aaV])
theorem Mq (m:Mat)(h:m.ok)(hl:m.name.length<2^40):ah G 527 [.agg m.enc] [] ⟨.str (l9 m),[]⟩:=by
 have d:=eW h.2.1;have t:ah G 230 [.agg m.pfx.enc] [] ⟨.str (pfT m.pfx),[]⟩:=gG m.pfx h.2.2;have ld:=bg m.n;have lt:=Sy m.pfx h.2.2;unfold l9;clear h;generalize pfT m.pfx=p at*;generalize aa m.n=dn at*;refine gvC (F:=acD) ?_
 repeat' ((conv=>whnf);first|refine bp ?_|refine au ?_|(refine ae ?_ ?_<;>intro h))
 all_goals (refine ag ?_;simp[*,v8,wa,wb,aaT,Bj,Bp,Bq,aaV])
theorem PM (a:Actn)(h:a.ok):ah G 525 [.agg a.enc] [] ⟨.str (mr a),[]⟩:=by
 obtain ⟨h0,h1,h2,h3,h4⟩:=h;obtain ⟨ea,ha⟩:=dI h4;obtain ⟨ec,hc⟩:=dI h3;have d:=bA h1;have d2:=bA h2;have ta:=gQ a.addr.toNat ha;have tc:=Oq a.com.toNat hc;rw[←ea] at ta;rw[←ec] at tc;have l1:=bg a.n;have l2:=bg a.asn;have l3:=ph ha;have l4:=xG a.com.toNat;clear ea ha ec hc h0 h1 h2 h3 h4;unfold mr;generalize aa a.n=dn at*;generalize aa a.asn=da at*;generalize bq a.addr.toNat=dt at*;generalize sn a.com.toNat=ct at*;refine gvC (F:=acF) ?_
 repeat' ((conv=>whnf);first|refine bp ?_|refine au ?_|(refine ae ?_ ?_<;>intro h))
 all_goals (refine ag ?_;simp[*,Tr,aaX,Bp,Bj,Bq,aaZ,aaY,aaU])
theorem PJ (a:Actn)(h:a.ok):ah G 528 [.agg a.enc] [] ⟨.str (mr a),[]⟩:=by
 obtain ⟨h0,h1,h2,h3,h4⟩:=h;obtain ⟨ea,ha⟩:=dI h4;obtain ⟨ec,hc⟩:=dI h3;have d:=eW h1;have d2:=eW h2;have ta:=gN a.addr.toNat ha;have tc:=Om a.com.toNat hc;rw[←ea] at ta;rw[←ec] at tc;have l1:=bg a.n;have l2:=bg a.asn;have l3:=ph ha;have l4:=xG a.com.toNat;clear ea ha ec hc h0 h1 h2 h3 h4;unfold mr;generalize aa a.n=dn at*;generalize aa a.asn=da at*;generalize bq a.addr.toNat=dt at*;generalize sn a.com.toNat=ct at*;refine gvC (F:=acB) ?_
 repeat' ((conv=>whnf);first|refine bp ?_|refine au ?_|(refine ae ?_ ?_<;>intro h))
 all_goals (refine ag ?_;simp[*,Tr,aaX,Bp,Bj,Bq,aaZ,aaY,aaU])
def fB (v:Int):List UInt8:=if v=1 then aa0 else if v=2 then aaS else aaW
theorem lz (v:Int):(fB v).length≤6:=by
 unfold fB
 repeat' split
 all_goals decide
theorem sX (v:Int):ah G 526 [.int .i64 v] [] ⟨.str (fB v),[]⟩:=by
 unfold fB;refine gvC (F:=acE) ?_
 repeat' (first|refine bc ?_|(refine ae ?_ ?_<;>intro h))
 all_goals (refine ag ?_;simp[*,aa0,aaS,aaW])
theorem sW (v:Int):ah G 529 [.int .i64 v] [] ⟨.str (fB v),[]⟩:=by
 unfold fB;refine gvC (F:=acA) ?_
 repeat' (first|refine bc ?_|(refine ae ?_ ?_<;>intro h))
 all_goals (refine ag ?_;simp[*,aa0,aaS,aaW])
def jE (b:Bool):List UInt8:=bif b then Bn else Tv
theorem rB (b:Bool):(jE b).length≤7:=by cases b<;>decide
theorem tn (b:Bool):ah G 452 [.bool b] [] ⟨.str (jE b),[]⟩:=by
 cases b
 ·exact gvA (F:=Wc)
 ·exact gvA (F:=Wc)
theorem tk (b:Bool):ah G 457 [.bool b] [] ⟨.str (jE b),[]⟩:=by
 cases b
 ·exact gvA (F:=V7)
 ·exact gvA (F:=V7)
def jG (n:Int):List UInt8:=if n<0 then [42] else aa n
theorem MQ (n:Int):(jG n).length≤21:=by
 unfold jG;split
 ·decide
 ·exact bg n
theorem tU {n:Int}(h:okI n):ah G 453 [.int .i64 n] [] ⟨.str (jG n),[]⟩:=by
 have d:=bA h;unfold jG
 by_cases e:n<0
 ·rw[Ad e]
  exact gvA (F:=Wb)
 ·rw[Ac e]
  generalize aa n=t at*;exact gvA (F:=Wb)
theorem tR {n:Int}(h:okI n)(hn: -1≤n):ah G 458 [.int .i64 n] [] ⟨.str (jG n),[]⟩:=by
 have d:=eW h;unfold jG
 by_cases e:n<0
 ·rw[Ad e]
  have e2:n= -1:=by omega
  refine gvC (F:=V6) ?_
  repeat' ((conv=>whnf);first|refine bj e2 ?_|refine au ?_|(refine ae ?_ ?_<;>intro h))
  refine ag ?_;rfl
 ·rw[Ac e]
  have e2: ¬n= -1:=by omega
  generalize aa n=t at*;refine gvC (F:=V6) ?_
  repeat' ((conv=>whnf);first|refine aY e2 ?_|refine au ?_|(refine ae ?_ ?_<;>intro h))
  refine ag ?_;rfl
theorem BJ {r:RuleP}(h:ruE r=0):aW r.pfx=true∧r.pfx.len≤r.min∧r.min≤r.max∧r.max≤32∧0≤r.pfx.len:=by
 unfold ruE at h;split at h
 ·rename_i v
  have:=nA v;split at h
  ·cases h
  ·exact ⟨v,by omega,by omega,by omega,by omega⟩
 ·cases h
def rng (a b:Int):List UInt8:=aa a++45::aa b
def yq (r:RuleP):List UInt8:=if r.min≠r.pfx.len∨r.max≠r.pfx.len then 32::rng r.min r.max else []
def i6 (r:RuleP):List UInt8:=jE r.permit++(jX r.pfx.addr.toNat r.pfx.len.toNat++yq r)
def txR (r:RuleP):Ret:=if ruE r=0 then ⟨.tup [.str (i6 r),.int .i64 0],[]⟩ else ⟨.tup [.str [],.int .i64 (ruE r)],[]⟩
theorem JP {x:Int}(h0:0≤x)(h1:x≤32): ∃k:Nat,x=k∧k≤32:=⟨x.toNat,by omega,by omega⟩
theorem IB (r:RuleP)(h:r.ok):ah G 332 [.agg r.enc] [] (txR r):=by
 have hc:=vm r h;unfold txR
 by_cases h0:ruE r=0
 ·rw[h0] at hc
  obtain ⟨v,m1,m2,m3,m0⟩:=BJ h0;rw[Ad h0];have ht:=gH r.pfx h.1;rw[Ad v] at ht;obtain ⟨_,hx⟩:=dI h.1.addr;have hl:=pQ (n:=r.pfx.len.toNat) hx (by omega)
  obtain ⟨a,ea,ha⟩:=JP (x:=r.min) (by omega) (by omega)
  obtain ⟨b,eb,hb⟩:=JP (x:=r.max) (by omega) (by omega)
  have d1:=bA (n:=(a:Int)) (by unfold okI;omega)
  have d2:=bA (n:=(b:Int)) (by unfold okI;omega)
  have l1:=bg (a:Int);have l2:=bg (b:Int);clear h h0 v hx m0 m1 m2 m3;unfold i6 yq rng;obtain ⟨p,⟨x,n⟩,mn,mx⟩:=r;simp only at*;subst ea eb;generalize jX x.toNat n.toNat=t at*;generalize aa (a:Int)=ta at*;generalize aa (b:Int)=tb at*;refine gvC (F:=Wx) ?_
  repeat' ((conv=>whnf);first|refine bp ?_|refine au ?_|(refine ae ?_ ?_<;>intro h))
  all_goals (refine ag ?_;(try simp only at*);simp[jE,Tv,Bn, *])
 ·rw[Ac h0]
  generalize ruE r=k at*;exact gvA (F:=Wx)
theorem IA (r:RuleP)(h:r.ok):ah G 333 [.agg r.enc] [] (txR r):=by
 have hc:=vl r h;unfold txR
 by_cases h0:ruE r=0
 ·rw[h0] at hc
  obtain ⟨v,m1,m2,m3,m0⟩:=BJ h0;rw[Ad h0];have ht:=gG r.pfx h.1;rw[Ad v] at ht;obtain ⟨_,hx⟩:=dI h.1.addr;have hl:=pQ (n:=r.pfx.len.toNat) hx (by omega)
  obtain ⟨a,ea,ha⟩:=JP (x:=r.min) (by omega) (by omega)
  obtain ⟨b,eb,hb⟩:=JP (x:=r.max) (by omega) (by omega)
  have d1:=eW (n:=(a:Int)) (by unfold okI;omega)
  have d2:=eW (n:=(b:Int)) (by unfold okI;omega)
  have l1:=bg (a:Int);have l2:=bg (b:Int);clear h h0 v hx m0 m1 m2 m3;unfold i6 yq rng;obtain ⟨p,⟨x,n⟩,mn,mx⟩:=r;simp only at*;subst ea eb;generalize jX x.toNat n.toNat=t at*;generalize aa (a:Int)=ta at*;generalize aa (b:Int)=tb at*;refine gvC (F:=Wu) ?_
  repeat' ((conv=>whnf);first|refine bp ?_|refine au ?_|(refine ae ?_ ?_<;>intro h))
  all_goals (refine ag ?_;(try simp only at*);simp[jE,Tv,Bn, *])
 ·rw[Ac h0]
  generalize ruE r=k at*;exact gvA (F:=Wu)
end Go.AM.IR
namespace Go.AM.IR
def ax {α:Type}(f:α→List UInt8):List α→List UInt8
 | []=>[]
 |x::r=>f x++ax f r
theorem cY {α:Type}{f:α→List UInt8}{enc:α→List AV}: ∀l:List α,(∀x∈l,(f x).length≤1000*bkL (enc x))→(ax f l).length≤1000*bC (l.map enc)
 | [],_=>by simp[ax]
 |x::r,h=>by
  have h1:=h x (by simp)
  have h2:=cY r (fun y hy=>h y (by simp[hy]))
  rw[ax,Ar,Ao,bC];omega
def mu:List UInt8:=[116,101,114,109,32]
def mJ:List UInt8:=[109,97,116,99,104,32]
def nd:List UInt8:=[110,111,116,32]
def Bm:List UInt8:=[115,101,116,32]
def sU:List UInt8:=[112,111,108,105,99,121,32]
def Br:List UInt8:=[100,101,102,97,117,108,116,32]
def plL (r:RuleP):List UInt8:=i6 r++[10]
def paL (r:PathR):List UInt8:=jE r.permit++r.pattern++[10]
def coL (r:ComR):List UInt8:=jE r.permit++jG r.high++[58]++jG r.low++[10]
def plT (x:PList):List UInt8:=v8++x.name++[10]++ax plL x.rules
def paT (x:PathL):List UInt8:=wa++x.name++[10]++ax paL x.rules
def coT (x:ComL):List UInt8:=wb++x.name++[10]++ax coL x.rules
def gB (m:Mat):List UInt8:=mJ++(bif m.neg then nd else [])++l9 m++[10]
def fJ (a:Actn):List UInt8:=Bm++mr a++[10]
def fc (t:Trm):List UInt8:=mu++t.name++[10]++(ax gB t.mats++(ax fJ t.acts++(fB t.verdict++[10])))
def bV (p:Pol):List UInt8:=sU++p.name++[10]++(ax fc p.terms++(Br++fB p.dflt++[10]))
def dW (s:PSet):List UInt8:=ax plT s.prefixes++(ax paT s.paths++(ax coT s.comms++ax bV s.pols))
def BZ (s:PSet):Ret:=if ca s=0 then (if 65536<(dW s).length then ⟨.tup [.str [],.int .i64 4],[]⟩ else ⟨.tup [.str (dW s),.int .i64 0],[]⟩) else ⟨.tup [.str [],.int .i64 (ca s)],[]⟩
theorem kr (x:Nat):(bq x).length≤87:=by
 have l3:=bg ((x/ 16777216:Nat):Int);have l2:=bg ((x/ 65536 % 256:Nat):Int);have l1:=bg ((x/ 256 % 256:Nat):Int);have l0:=bg ((x % 256:Nat):Int);unfold bq;simp only[Ar,As];omega
theorem yK (x n:Nat):(jX x n).length≤109:=by
 have:=kr x;have:=bg (n:Int);unfold jX;simp only[Ar,As];omega
theorem oz (p:Pfx):(pfT p).length≤109:=by
 unfold pfT;split
 ·exact yK _ _
 ·simp
theorem Uf (r:RuleP):(i6 r).length≤170:=by
 have hl:=yK r.pfx.addr.toNat r.pfx.len.toNat;have l1:=bg r.min;have l2:=bg r.max;have l3:=rB r.permit;unfold i6 yq rng;split
 ·simp only[Ar,As];omega
 ·simp only[Ar,A8];omega
theorem abK (m:Mat):(l9 m).length≤130+m.name.length:=by
 have l1:=bg m.n;have l2:=oz m.pfx;unfold l9
 repeat' split
 all_goals (simp only[Ar];first|(show 12+_≤_;omega)|(show 10+_≤_;omega)|(show 15+_≤_;omega)|(show 9+_≤_;omega)|(show 4+_≤_;omega)|(show 7+_≤_;omega))
theorem ad1 (a:Actn):(mr a).length≤130:=by
 have l1:=bg a.n;have l2:=bg a.asn;have l3:=kr a.addr.toNat;have l4:=xG a.com.toNat;unfold mr
 repeat' split
 all_goals (simp only[Ar,As];first|(show 5+_≤_;omega)|(show 4+_≤_;omega)|(show 7+_≤_;omega)|(show 9+_≤_;omega)|(show 8+_≤_;omega))
theorem abL (m:Mat):(gB m).length≤1000*bkL m.enc:=by
 have h:=abK m;unfold gB;simp only[Mat.enc,bkL,AV.bk,Ar];have h1:mJ.length=6:=rfl;have h2:(bif m.neg then nd else []).length≤4:=by cases m.neg<;>decide
 have h3:([10]:List UInt8).length=1:=rfl;omega
theorem ad2 (a:Actn):(fJ a).length≤1000*bkL a.enc:=by
 have h:=ad1 a;unfold fJ;simp only[Actn.enc,bkL,AV.bk,Ar];have h1:Bm.length=4:=rfl;have h3:([10]:List UInt8).length=1:=rfl;omega
theorem aa2 (t:Trm):(fc t).length≤1000*bkL t.enc:=by
 have h1:=cY (f:=gB) (enc:=Mat.enc) t.mats (fun x _=>abL x)
 have h2:=cY (f:=fJ) (enc:=Actn.enc) t.acts (fun x _=>ad2 x)
 have h3:=lz t.verdict;have h4:mu.length=5:=rfl;have h5:([10]:List UInt8).length=1:=rfl;unfold fc;simp only[Trm.enc,bkL,AV.bk,Ar];omega
theorem Li (p:Pol):(bV p).length≤1000*bkL p.enc:=by
 have h1:=cY (f:=fc) (enc:=Trm.enc) p.terms (fun x _=>aa2 x)
 have h3:=lz p.dflt;have h4:sU.length=7:=rfl;have h6:Br.length=8:=rfl;have h5:([10]:List UInt8).length=1:=rfl;unfold bV;simp only[Pol.enc,bkL,AV.bk,Ar];omega
theorem aeK (x:PList):(plT x).length≤1000*bkL x.enc:=by
 have h1:=cY (f:=plL) (enc:=RuleP.enc) x.rules (fun r _=>by
  have:=Uf r;have h5:([10]:List UInt8).length=1:=rfl;unfold plL;simp only[RuleP.enc,bkL,AV.bk,Ar];omega)
 have h4:v8.length=12:=rfl;have h5:([10]:List UInt8).length=1:=rfl;unfold plT;simp only[PList.enc,bkL,AV.bk,Ar];omega
theorem aeQ (x:PathL):(paT x).length≤1000*bkL x.enc:=by
 have h1:=cY (f:=paL) (enc:=PathR.enc) x.rules (fun r _=>by
  have:=rB r.permit;have h5:([10]:List UInt8).length=1:=rfl;unfold paL;simp only[PathR.enc,bkL,AV.bk,Ar];omega)
 have h4:wa.length=10:=rfl;have h5:([10]:List UInt8).length=1:=rfl;unfold paT;simp only[PathL.enc,bkL,AV.bk,Ar];omega
theorem afs (x:ComL):(coT x).length≤1000*bkL x.enc:=by
 have h1:=cY (f:=coL) (enc:=ComR.enc) x.rules (fun r _=>by
  have:=rB r.permit;have:=MQ r.high;have:=MQ r.low;have h5:([10]:List UInt8).length=1:=rfl;have h6:([58]:List UInt8).length=1:=rfl;unfold coL;simp only[ComR.enc,bkL,AV.bk,Ar];omega)
 have h4:wb.length=15:=rfl;have h5:([10]:List UInt8).length=1:=rfl;unfold coT;simp only[ComL.enc,bkL,AV.bk,Ar];omega
theorem wh (s:PSet):(dW s).length≤1000*bkL s.enc:=by
 have h1:=cY (f:=plT) (enc:=PList.enc) s.prefixes (fun x _=>aeK x)
 have h2:=cY (f:=paT) (enc:=PathL.enc) s.paths (fun x _=>aeQ x)
 have h3:=cY (f:=coT) (enc:=ComL.enc) s.comms (fun x _=>afs x)
 have h4:=cY (f:=bV) (enc:=Pol.enc) s.pols (fun x _=>Li x)
 unfold dW;simp only[PSet.enc,bkL,AV.bk,Ar];omega
theorem vM {α:Type}{f:α→Int}: ∀{l:List α},ba f l=0→ ∀x∈l,f x=0
 |x::r,h,y,hy=>by
  rw[ba] at h
  by_cases e:f x=0
  ·rw[Ad e] at h
   rcases AK.1 hy with rfl|hy
   ·exact e
   ·exact vM h y hy
  ·rw[Ac e] at h;exact absurd h e
theorem r3 {α β:Type}{rule:β→Int}{name:α→List UInt8}{rules:α→List β}: ∀{l:List α}{b:List UInt8}{fst:Bool},gU rule name rules l b fst=0→ ∀x∈l,∀r∈rules x,rule r=0
 |x::t,b,fst,h,y,hy=>by
  rw[gU] at h
  by_cases e:fw (name x) b fst (rules x).length=0
  ·rw[Ad e] at h
   by_cases e2:ba rule (rules x)=0
   ·rw[Ad e2] at h
    rcases AK.1 hy with rfl|hy
    ·exact vM e2
    ·exact r3 h y hy
   ·rw[Ac e2] at h;exact absurd h e2
  ·rw[Ac e] at h;exact absurd h e
theorem vV {s:PSet}(h:ca s=0):(∀x∈s.prefixes,∀r∈x.rules,ruE r=0)∧(∀x∈s.comms,∀r∈x.rules,cy r=0):=by
 unfold ca at h
 by_cases e1:kM s.prefixes=0
 ·rw[Ad e1] at h
  by_cases e2:m8 s.paths=0
  ·rw[Ad e2] at h
   by_cases e3:kL s.comms=0
   ·unfold kM at e1
    unfold kL at e3;constructor
    ·split at e1
     ·cases e1
     ·exact r3 e1
    ·split at e3
     ·cases e3
     ·exact r3 e3
   ·rw[Ac e3] at h;exact absurd h e3
  ·rw[Ac e2] at h;exact absurd h e2
 ·rw[Ac e1] at h;exact absurd h e1
theorem Ib {r:ComR}(h:cy r=0): -1≤r.high∧ -1≤r.low:=by
 unfold cy at h
 repeat' split at h
 all_goals first|omega|cases h
end Go.AM.IR
namespace Go.AM.IR
theorem Ba (l2:List Actn)(ho: ∀x∈l2,x.ok)(P:List AV)(nm:List UInt8)(ms:List (List AV))(v:Int)(g5:Nat)(ls:List (List AV))(len i:Int)(hi:0≤i∧i<2^40)(tot:List UInt8)(htot:tot.length<2^60)(R:Ret)(go: ∀(T:TV) (H:aw) (c:Nat),Ev G ⟨uc,⟨(16,.sl 4 ls)::(17,.int .i64 len)::(18,.int .i64 (i+1))::(3,.str (tot++(fB v++[10])))::(1,.ref 65 1 0)::T,(65,some (1,.cells P))::H,c⟩,[.t 2],0⟩ R)(hl:l2.length<2^40)(ln:Int)(hln:ln=l2.length): ∀(rest done:List Actn)(a:List UInt8)(T:TV)(H:aw)(c:Nat)(n:Int)(e:l2=done++rest)(hn:n=done.length)(ha:a++ax fJ rest=tot),Ev G ⟨YY,⟨(47,.sl 5 (l2.map Actn.enc))::(48,.int .i64 ln)::(49,.int .i64 n)::(3,.str a)::(16,.sl 4 ls)::(17,.int .i64 len)::(18,.int .i64 i)::(1,.ref 65 1 0)::(5,.ref 69 g5 0)::T,(65,some (1,.cells P))::(69,some (g5,.cells [.str nm,.sl 6 ms,.sl 5 (l2.map Actn.enc),.int .i64 v]))::H,c⟩,[.t 2],0⟩ R
 | [],done,a,T,H,c,n,e,hn,ha=>by
  have hd:=md0 e;have hll:=ml l2 Actn.enc;obtain rfl:a=tot:=by simpa[ax] using ha
  have hv:=sX v;have hvl:=lz v;generalize fB v=w at*;refine evl ?_
  repeat' ((conv=>whnf);first|refine bp ?_|refine au ?_|(refine ae ?_ ?_<;>intro h))
  refine ab [16,17,18,3,1] [65] ?_;exact go _ _ _
 |x::r,done,a,T,H,c,n,e,hn,ha=>by
  have hd:=md e;have hll:=ml l2 Actn.enc;have hx:=mx Actn.enc e hn;have h1:=PM x (ho x (by simp[e]))
  have hlen:a.length+(fJ x).length≤tot.length:=by rw[←ha,ax];simp only[Ar];omega
  have ha2:a++(Bm++mr x++[10])++ax fJ r=tot:=by rw[←ha,ax,fJ];simp only[AF]
  have hq:(fJ x).length=4+(mr x).length+1:=by unfold fJ;simp only[Ar];rfl
  generalize mr x=w at*;refine evl ?_
  repeat' ((conv=>whnf);first|refine bp ?_|refine au ?_|(refine ae ?_ ?_<;>intro h))
  refine ab [47,48,49,3,16,17,18,1,5] [65,69] ?_;exact Ba l2 ho P nm ms v g5 ls len i hi tot htot R go hl ln hln r (done++[x]) (a++(Bm++w++[10])) _ _ _ (n+1) (by simp[e]) (by simp[hn]<;>omega) ha2
theorem rX (l2:List Mat)(ho: ∀x∈l2,x.ok∧x.name.length<2^40)(P:List AV)(nm:List UInt8)(acts:List Actn)(hao: ∀x∈acts,x.ok)(hal:acts.length<2^40)(v:Int)(g5:Nat)(ls:List (List AV))(len i:Int)(hi:0≤i∧i<2^40)(tot:List UInt8)(htot:tot.length+(ax fJ acts).length<2^60)(R:Ret)(go: ∀(T:TV) (H:aw) (c:Nat),Ev G ⟨uc,⟨(16,.sl 4 ls)::(17,.int .i64 len)::(18,.int .i64 (i+1))::(3,.str (tot++(ax fJ acts++(fB v++[10]))))::(1,.ref 65 1 0)::T,(65,some (1,.cells P))::H,c⟩,[.t 2],0⟩ R)(hl:l2.length<2^40)(ln:Int)(hln:ln=l2.length): ∀(rest done:List Mat)(a:List UInt8)(T:TV)(H:aw)(c:Nat)(n:Int)(e:l2=done++rest)(hn:n=done.length)(ha:a++ax gB rest=tot),Ev G ⟨YZ,⟨(29,.sl 6 (l2.map Mat.enc))::(30,.int .i64 ln)::(31,.int .i64 n)::(3,.str a)::(16,.sl 4 ls)::(17,.int .i64 len)::(18,.int .i64 i)::(1,.ref 65 1 0)::(5,.ref 69 g5 0)::T,(65,some (1,.cells P))::(69,some (g5,.cells [.str nm,.sl 6 (l2.map Mat.enc),.sl 5 (acts.map Actn.enc),.int .i64 v]))::H,c⟩,[.t 2],0⟩ R
 | [],done,a,T,H,c,n,e,hn,ha=>by
  have hd:=md0 e;have hll:=ml l2 Mat.enc;obtain rfl:a=tot:=by simpa[ax] using ha
  have m1:=ml acts Actn.enc;refine evA ?_;refine ab [47,48,49,3,16,17,18,1,5] [65,69] ?_;rw[m1];refine Ba acts hao P nm _ v g5 ls len i hi (a++ax fJ acts) (by rw[Ar];exact htot) R (fun T H c=>?_) hal _ rfl acts [] a _ _ _ 0 rfl rfl rfl
  rw[AF];exact go T H c
 |x::r,done,a,T,H,c,n,e,hn,ha=>by
  have hd:=md e;have hll:=ml l2 Mat.enc;have hx:=mx Mat.enc e hn;have h1:=Mr x (ho x (by simp[e])).1 (ho x (by simp[e])).2
  have hlen:a.length+(gB x).length≤tot.length:=by rw[←ha,ax];simp only[Ar];omega
  have hq:(gB x).length=6+(bif x.neg then nd else []).length+(l9 x).length+1:=by unfold gB;simp only[Ar];rfl
  have ha2: ∀w,(bif x.neg then nd else [])=w→a++(mJ++w++l9 x++[10])++ax gB r=tot:=by intro w hw;rw[←ha,ax,gB,hw];simp only[AF]
  generalize l9 x=w at*;have hz:nd.length=4:=rfl;cases hneg:x.neg
  ·have ha3:=ha2 [] (by rw[hneg];rfl)
   rw[hneg] at hq;refine evl ?_
   repeat' ((conv=>whnf);first|refine bp ?_|refine au ?_|(refine ae ?_ ?_<;>intro h))
   refine ab [29,30,31,3,16,17,18,1,5] [65,69] ?_;exact rX l2 ho P nm acts hao hal v g5 ls len i hi tot htot R go hl ln hln r (done++[x]) (a++(mJ++[]++w++[10])) _ _ _ (n+1) (by simp[e]) (by simp[hn]<;>omega) ha3
  ·have ha3:=ha2 nd (by rw[hneg];rfl)
   rw[hneg] at hq;simp only[cond_true] at hq;refine evl ?_
   repeat' ((conv=>whnf);first|refine bp ?_|refine au ?_|(refine ae ?_ ?_<;>intro h))
   refine ab [29,30,31,3,16,17,18,1,5] [65,69] ?_;exact rX l2 ho P nm acts hao hal v g5 ls len i hi tot htot R go hl ln hln r (done++[x]) (a++(mJ++nd++w++[10])) _ _ _ (n+1) (by simp[e]) (by simp[hn]<;>omega) ha3
structure Trm.gt (t:Trm):Prop where
 ms: ∀x∈t.mats,x.ok∧x.name.length<2^40
 ml:t.mats.length<2^40
 acz: ∀x∈t.acts,x.ok
 al:t.acts.length<2^40
theorem ya (l:List Trm)(ho: ∀x∈l,x.gt)(nm:List UInt8)(v:Int)(tot:List UInt8)(htot:tot.length<2^60)(hl:l.length<2^40)(ln:Int)(hln:ln=l.length): ∀(rest done:List Trm)(a:List UInt8)(T:TV)(H:aw)(c:Nat)(n:Int)(e:l=done++rest)(hn:n=done.length)(ha:a++ax fc rest=tot),Ev G ⟨uc,⟨(16,.sl 4 (l.map Trm.enc))::(17,.int .i64 ln)::(18,.int .i64 n)::(3,.str a)::(1,.ref 65 1 0)::T,(65,some (1,.cells [.str nm,.sl 4 (l.map Trm.enc),.int .i64 v]))::H,c⟩,[.t 2],0⟩ ⟨.str (tot++Br++fB v++[10]),[]⟩
 | [],done,a,T,H,c,n,e,hn,ha=>by
  have hd:=md0 e;have hll:=ml l Trm.enc;obtain rfl:a=tot:=by simpa[ax] using ha
  have hv:=sX v;have hvl:=lz v;generalize fB v=w at*;refine evl ?_
  repeat' ((conv=>whnf);first|refine bp ?_|refine au ?_|(refine ae ?_ ?_<;>intro h))
  refine ag ?_;rfl
 |x::r,done,a,T,H,c,n,e,hn,ha=>by
  have hd:=md e;have hll:=ml l Trm.enc;have hx:=mx Trm.enc e hn;have g:=ho x (by simp[e])
  have hlen:a.length+(fc x).length≤tot.length:=by rw[←ha,ax];simp only[Ar];omega
  have hq:(fc x).length=5+x.name.length+1+((ax gB x.mats).length+((ax fJ x.acts).length+((fB x.verdict).length+1))):=by unfold fc;simp only[Ar];rfl
  have m1:=ml x.mats Mat.enc;have ha2:a++fc x++ax fc r=tot:=by rw[←ha,ax];simp only[AF]
  refine evl ?_
  repeat' ((conv=>whnf);first|refine bp ?_|refine au ?_|(refine ae ?_ ?_<;>intro h))
  refine ab [29,30,31,3,16,17,18,1,5] [65,69] ?_;rw[m1];refine rX x.mats g.ms _ x.name x.acts g.acz g.al x.verdict _ _ ln n (by omega) (a++(mu++x.name++[10])++ax gB x.mats) (by have:mu.length=5:=rfl;have:([10]:List UInt8).length=1:=rfl;simp only[Ar];omega) _ (fun T H c=>?_) g.ml _ rfl x.mats [] (a++(mu++x.name++[10])) _ _ _ 0 rfl rfl rfl
  rw[show a++(mu++x.name++[10])++ax gB x.mats++(ax fJ x.acts++(fB x.verdict++[10]))=a++fc x from by rw[fc];simp only[AF]]
  exact ya l ho nm v tot htot hl ln hln r (done++[x]) (a++fc x) T H c (n+1) (by simp[e]) (by simp[hn]<;>omega) ha2
structure Pol.gt (p:Pol):Prop where
 ts: ∀x∈p.terms,x.gt
 tl:p.terms.length<2^40
 len:(bV p).length<2^50
theorem Lc (p:Pol)(g:p.gt):ah G 454 [.agg p.enc] [] ⟨.str (bV p),[]⟩:=by
 have hq:(bV p).length=7+p.name.length+1+((ax fc p.terms).length+(8+(fB p.dflt).length+1)):=by unfold bV;simp only[Ar];rfl
 have g3:=g.len;have m1:=ml p.terms Trm.enc;refine gvC (F:=Di) ?_
 repeat' ((conv=>whnf);first|refine bp ?_|refine au ?_|(refine ae ?_ ?_<;>intro h))
 refine ab [16,17,18,3,1] [65] ?_;rw[m1,show bV p=sU++p.name++[10]++ax fc p.terms++Br++fB p.dflt++[10] from by rw[bV];simp only[AF]]
 exact ya p.terms g.ts p.name p.dflt (sU++p.name++[10]++ax fc p.terms) (by have:sU.length=7:=rfl;have:([10]:List UInt8).length=1:=rfl;simp only[Ar];omega) g.tl _ rfl p.terms [] _ _ _ _ 0 rfl rfl rfl
end Go.AM.IR
namespace Go.AM.IR
theorem AY (l2:List Actn)(ho: ∀x∈l2,x.ok)(P:List AV)(nm:List UInt8)(ms:List (List AV))(v:Int)(g5:Nat)(ls:List (List AV))(len i:Int)(hi:0≤i∧i<2^40)(tot:List UInt8)(htot:tot.length<2^60)(R:Ret)(go: ∀(T:TV) (H:aw) (c:Nat),Ev G ⟨ua,⟨(15,.sl 4 ls)::(16,.int .i64 len)::(17,.int .i64 (i+1))::(3,.str (tot++(fB v++[10])))::(1,.ref 65 1 0)::T,(65,some (1,.cells P))::H,c⟩,[.t 2],0⟩ R)(hl:l2.length<2^40)(ln:Int)(hln:ln=l2.length): ∀(rest done:List Actn)(a:List UInt8)(T:TV)(H:aw)(c:Nat)(n:Int)(e:l2=done++rest)(hn:n=done.length)(ha:a++ax fJ rest=tot),Ev G ⟨YW,⟨(47,.sl 5 (l2.map Actn.enc))::(48,.int .i64 ln)::(49,.int .i64 n)::(3,.str a)::(15,.sl 4 ls)::(16,.int .i64 len)::(17,.int .i64 i)::(1,.ref 65 1 0)::(5,.ref 69 g5 0)::T,(65,some (1,.cells P))::(69,some (g5,.cells [.str nm,.sl 6 ms,.sl 5 (l2.map Actn.enc),.int .i64 v]))::H,c⟩,[.t 2],0⟩ R
 | [],done,a,T,H,c,n,e,hn,ha=>by
  have hd:=md0 e;have hll:=ml l2 Actn.enc;obtain rfl:a=tot:=by simpa[ax] using ha
  have hv:=sW v;have hvl:=lz v;generalize fB v=w at*;refine evl ?_
  repeat' ((conv=>whnf);first|refine bp ?_|refine au ?_|(refine ae ?_ ?_<;>intro h))
  refine ab [15,16,17,3,1] [65] ?_;exact go _ _ _
 |x::r,done,a,T,H,c,n,e,hn,ha=>by
  have hd:=md e;have hll:=ml l2 Actn.enc;have hx:=mx Actn.enc e hn;have h1:=PJ x (ho x (by simp[e]))
  have hlen:a.length+(fJ x).length≤tot.length:=by rw[←ha,ax];simp only[Ar];omega
  have ha2:a++(Bm++mr x++[10])++ax fJ r=tot:=by rw[←ha,ax,fJ];simp only[AF]
  have hq:(fJ x).length=4+(mr x).length+1:=by unfold fJ;simp only[Ar];rfl
  generalize mr x=w at*;refine evl ?_
  repeat' ((conv=>whnf);first|refine bp ?_|refine au ?_|(refine ae ?_ ?_<;>intro h))
  refine ab [47,48,49,3,15,16,17,1,5] [65,69] ?_;exact AY l2 ho P nm ms v g5 ls len i hi tot htot R go hl ln hln r (done++[x]) (a++(Bm++w++[10])) _ _ _ (n+1) (by simp[e]) (by simp[hn]<;>omega) ha2
theorem rU (l2:List Mat)(ho: ∀x∈l2,x.ok∧x.name.length<2^40)(P:List AV)(nm:List UInt8)(acts:List Actn)(hao: ∀x∈acts,x.ok)(hal:acts.length<2^40)(v:Int)(g5:Nat)(ls:List (List AV))(len i:Int)(hi:0≤i∧i<2^40)(tot:List UInt8)(htot:tot.length+(ax fJ acts).length<2^60)(R:Ret)(go: ∀(T:TV) (H:aw) (c:Nat),Ev G ⟨ua,⟨(15,.sl 4 ls)::(16,.int .i64 len)::(17,.int .i64 (i+1))::(3,.str (tot++(ax fJ acts++(fB v++[10]))))::(1,.ref 65 1 0)::T,(65,some (1,.cells P))::H,c⟩,[.t 2],0⟩ R)(hl:l2.length<2^40)(ln:Int)(hln:ln=l2.length): ∀(rest done:List Mat)(a:List UInt8)(T:TV)(H:aw)(c:Nat)(n:Int)(e:l2=done++rest)(hn:n=done.length)(ha:a++ax gB rest=tot),Ev G ⟨YX,⟨(28,.sl 6 (l2.map Mat.enc))::(29,.int .i64 ln)::(30,.int .i64 n)::(3,.str a)::(15,.sl 4 ls)::(16,.int .i64 len)::(17,.int .i64 i)::(1,.ref 65 1 0)::(5,.ref 69 g5 0)::T,(65,some (1,.cells P))::(69,some (g5,.cells [.str nm,.sl 6 (l2.map Mat.enc),.sl 5 (acts.map Actn.enc),.int .i64 v]))::H,c⟩,[.t 2],0⟩ R
 | [],done,a,T,H,c,n,e,hn,ha=>by
  have hd:=md0 e;have hll:=ml l2 Mat.enc;obtain rfl:a=tot:=by simpa[ax] using ha
  have m1:=ml acts Actn.enc;refine evA ?_;refine ab [47,48,49,3,15,16,17,1,5] [65,69] ?_;rw[m1];refine AY acts hao P nm _ v g5 ls len i hi (a++ax fJ acts) (by rw[Ar];exact htot) R (fun T H c=>?_) hal _ rfl acts [] a _ _ _ 0 rfl rfl rfl
  rw[AF];exact go T H c
 |x::r,done,a,T,H,c,n,e,hn,ha=>by
  have hd:=md e;have hll:=ml l2 Mat.enc;have hx:=mx Mat.enc e hn;have h1:=Mq x (ho x (by simp[e])).1 (ho x (by simp[e])).2
  have hlen:a.length+(gB x).length≤tot.length:=by rw[←ha,ax];simp only[Ar];omega
  have hq:(gB x).length=6+(bif x.neg then nd else []).length+(l9 x).length+1:=by unfold gB;simp only[Ar];rfl
  have ha2: ∀w,(bif x.neg then nd else [])=w→a++(mJ++w++l9 x++[10])++ax gB r=tot:=by intro w hw;rw[←ha,ax,gB,hw];simp only[AF]
  generalize l9 x=w at*;have hz:nd.length=4:=rfl;cases hneg:x.neg
  ·have ha3:=ha2 [] (by rw[hneg];rfl)
   rw[hneg] at hq;refine evl ?_
   repeat' ((conv=>whnf);first|refine bp ?_|refine au ?_|(refine ae ?_ ?_<;>intro h))
   refine ab [28,29,30,3,15,16,17,1,5] [65,69] ?_;exact rU l2 ho P nm acts hao hal v g5 ls len i hi tot htot R go hl ln hln r (done++[x]) (a++mJ++(w++[10])) _ _ _ (n+1) (by simp[e]) (by simp[hn]<;>omega) (by rw[←ha3];simp)
  ·have ha3:=ha2 nd (by rw[hneg];rfl)
   rw[hneg] at hq;simp only[cond_true] at hq;refine evl ?_
   repeat' ((conv=>whnf);first|refine bp ?_|refine au ?_|(refine ae ?_ ?_<;>intro h))
   refine ab [28,29,30,3,15,16,17,1,5] [65,69] ?_;exact rU l2 ho P nm acts hao hal v g5 ls len i hi tot htot R go hl ln hln r (done++[x]) (a++mJ++nd++(w++[10])) _ _ _ (n+1) (by simp[e]) (by simp[hn]<;>omega) (by rw[←ha3];simp)
theorem xZ (l:List Trm)(ho: ∀x∈l,x.gt)(nm:List UInt8)(v:Int)(tot:List UInt8)(htot:tot.length<2^60)(hl:l.length<2^40)(ln:Int)(hln:ln=l.length): ∀(rest done:List Trm)(a:List UInt8)(T:TV)(H:aw)(c:Nat)(n:Int)(e:l=done++rest)(hn:n=done.length)(ha:a++ax fc rest=tot),Ev G ⟨ua,⟨(15,.sl 4 (l.map Trm.enc))::(16,.int .i64 ln)::(17,.int .i64 n)::(3,.str a)::(1,.ref 65 1 0)::T,(65,some (1,.cells [.str nm,.sl 4 (l.map Trm.enc),.int .i64 v]))::H,c⟩,[.t 2],0⟩ ⟨.str (tot++Br++fB v++[10]),[]⟩
 | [],done,a,T,H,c,n,e,hn,ha=>by
  have hd:=md0 e;have hll:=ml l Trm.enc;obtain rfl:a=tot:=by simpa[ax] using ha
  have hv:=sW v;have hvl:=lz v;generalize fB v=w at*;refine evl ?_
  repeat' ((conv=>whnf);first|refine bp ?_|refine au ?_|(refine ae ?_ ?_<;>intro h))
  refine ag ?_;rfl
 |x::r,done,a,T,H,c,n,e,hn,ha=>by
  have hd:=md e;have hll:=ml l Trm.enc;have hx:=mx Trm.enc e hn;have g:=ho x (by simp[e])
  have hlen:a.length+(fc x).length≤tot.length:=by rw[←ha,ax];simp only[Ar];omega
  have hq:(fc x).length=5+x.name.length+1+((ax gB x.mats).length+((ax fJ x.acts).length+((fB x.verdict).length+1))):=by unfold fc;simp only[Ar];rfl
  have m1:=ml x.mats Mat.enc;have ha2:a++fc x++ax fc r=tot:=by rw[←ha,ax];simp only[AF]
  refine evl ?_
  repeat' ((conv=>whnf);first|refine bp ?_|refine au ?_|(refine ae ?_ ?_<;>intro h))
  refine ab [28,29,30,3,15,16,17,1,5] [65,69] ?_;rw[m1];refine rU x.mats g.ms _ x.name x.acts g.acz g.al x.verdict _ _ ln n (by omega) (a++(mu++x.name++[10])++ax gB x.mats) (by have:mu.length=5:=rfl;have:([10]:List UInt8).length=1:=rfl;simp only[Ar];omega) _ (fun T H c=>?_) g.ml _ rfl x.mats [] (a++(mu++x.name++[10])) _ _ _ 0 rfl rfl rfl
  rw[show a++(mu++x.name++[10])++ax gB x.mats++(ax fJ x.acts++(fB x.verdict++[10]))=a++fc x from by rw[fc];simp only[AF]]
  exact xZ l ho nm v tot htot hl ln hln r (done++[x]) (a++fc x) T H c (n+1) (by simp[e]) (by simp[hn]<;>omega) ha2
theorem K9 (p:Pol)(g:p.gt):ah G 459 [.agg p.enc] [] ⟨.str (bV p),[]⟩:=by
 have hq:(bV p).length=7+p.name.length+1+((ax fc p.terms).length+(8+(fB p.dflt).length+1)):=by unfold bV;simp only[Ar];rfl
 have g3:=g.len;have m1:=ml p.terms Trm.enc;refine gvC (F:=Dh) ?_
 repeat' ((conv=>whnf);first|refine bp ?_|refine au ?_|(refine ae ?_ ?_<;>intro h))
 refine ab [15,16,17,3,1] [65] ?_;rw[m1,show bV p=sU++p.name++[10]++ax fc p.terms++Br++fB p.dflt++[10] from by rw[bV];simp only[AF]]
 exact xZ p.terms g.ts p.name p.dflt (sU++p.name++[10]++ax fc p.terms) (by have:sU.length=7:=rfl;have:([10]:List UInt8).length=1:=rfl;simp only[Ar];omega) g.tl _ rfl p.terms [] _ _ _ _ 0 rfl rfl rfl
end Go.AM.IR
namespace Go.AM.IR
theorem yN (l:List Pol)(ho: ∀x∈l,x.gt)(tot:List UInt8)(htot:tot.length<2^60)(hl:l.length<2^40)(ln:Int)(hln:ln=l.length): ∀(rest done:List Pol)(a:List UInt8)(T:TV)(H:aw)(c:Nat)(n:Int)(e:l=done++rest)(hn:n=done.length)(ha:a++ax bV rest=tot),Ev G ⟨ZK,⟨(127,.sl 3 (l.map Pol.enc))::(128,.int .i64 ln)::(129,.int .i64 n)::(5,.str a)::T,H,c⟩,[.t 2,.t 3],0⟩ (if 65536<tot.length then ⟨.tup [.str [],.int .i64 4],[]⟩ else ⟨.tup [.str tot,.int .i64 0],[]⟩)
 | [],done,a,T,H,c,n,e,hn,ha=>by
  have hd:=md0 e;have hll:=ml l Pol.enc;obtain rfl:a=tot:=by simpa[ax] using ha
  by_cases z:65536<a.length
  ·rw[Ad z]
   have z2:(a.length:Int)>65536:=by omega
   refine evA ?_;refine ag ?_;rfl
  ·rw[Ac z]
   have z2: ¬(a.length:Int)>65536:=by omega
   refine evA ?_;refine ag ?_;rfl
 |x::r,done,a,T,H,c,n,e,hn,ha=>by
  have hd:=md e;have hll:=ml l Pol.enc;have hx:=mx Pol.enc e hn;have h1:=Lc x (ho x (by simp[e]))
  have hlen:a.length+(bV x).length≤tot.length:=by rw[←ha,ax];simp only[Ar];omega
  have ha2:a++bV x++ax bV r=tot:=by rw[←ha,ax];simp only[AF]
  have hz:(a++bV x).length=a.length+(bV x).length:=Ar;generalize bV x=w at*
  by_cases z:65536<a.length+w.length
  ·have z2:((a++w).length:Int)>65536:=by omega
   rw[Ad (by omega)]
   refine evl ?_
   repeat' ((conv=>whnf);first|refine bp ?_|refine au ?_|(refine ae ?_ ?_<;>intro h))
   refine ag ?_;rfl
  ·have z2: ¬((a++w).length:Int)>65536:=by omega
   refine evl ?_
   repeat' ((conv=>whnf);first|refine bp ?_|refine au ?_|(refine ae ?_ ?_<;>intro h))
   refine ab [127,128,129,5] [] ?_;exact yN l ho tot htot hl ln hln r (done++[x]) (a++w) _ _ _ (n+1) (by simp[e]) (by simp[hn]<;>omega) ha2
theorem Ox (l2:List ComR)(ho: ∀x∈l2,x.ok∧cy x=0)(P:List AV)(ls:List (List AV))(len i:Int)(hi:0≤i∧i<2^40)(tot:List UInt8)(htot:tot.length<2^60)(R:Ret)(go: ∀(T:TV) (H:aw) (c:Nat),Ev G ⟨Gv,⟨(90,.sl 2 ls)::(91,.int .i64 len)::(92,.int .i64 (i+1))::(5,.str tot)::(1,.ref 65 1 0)::T,(65,some (1,.cells P))::H,c⟩,[.t 2,.t 3],0⟩ R)(hl:l2.length<2^40)(ln:Int)(hln:ln=l2.length): ∀(rest done:List ComR)(a:List UInt8)(T:TV)(H:aw)(c:Nat)(n:Int)(e:l2=done++rest)(hn:n=done.length)(ha:a++ax coL rest=tot),Ev G ⟨ZL,⟨(103,.sl 3 (l2.map ComR.enc))::(104,.int .i64 ln)::(105,.int .i64 n)::(5,.str a)::(90,.sl 2 ls)::(91,.int .i64 len)::(92,.int .i64 i)::(1,.ref 65 1 0)::T,(65,some (1,.cells P))::H,c⟩,[.t 2,.t 3],0⟩ R
 | [],done,a,T,H,c,n,e,hn,ha=>by
  have hd:=md0 e;have hll:=ml l2 ComR.enc;obtain rfl:a=tot:=by simpa[ax] using ha
  refine evA ?_;refine ab [90,91,92,5,1] [65] ?_;exact go _ _ _
 |x::r,done,a,T,H,c,n,e,hn,ha=>by
  have hd:=md e;have hll:=ml l2 ComR.enc;have hx:=mx ComR.enc e hn;have hlen:a.length+(coL x).length≤tot.length:=by rw[←ha,ax];simp only[Ar];omega
  have ha2:a++coL x++ax coL r=tot:=by rw[←ha,ax];simp only[AF]
  rw[coL] at ha2;have h0:=Ib (ho x (by simp[e])).2
  have h1:=tn x.permit;have h2:=tU (ho x (by simp[e])).1.1
  have h3:=tU (ho x (by simp[e])).1.2
  have hq:(coL x).length=(jE x.permit).length+(jG x.high).length+1+(jG x.low).length+1:=by unfold coL;simp only[Ar];rfl
  generalize jE x.permit=w at*;generalize jG x.high=u1 at*;generalize jG x.low=u2 at*;refine evl ?_
  repeat' ((conv=>whnf);first|refine bp ?_|refine au ?_|(refine ae ?_ ?_<;>intro h))
  refine ab [103,104,105,5,90,91,92,1] [65] ?_;exact Ox l2 ho P ls len i hi tot htot R go hl ln hln r (done++[x]) (a++(w++u1++[58]++u2++[10])) _ _ _ (n+1) (by simp[e]) (by simp[hn]<;>omega) ha2
theorem Ii (l:List ComL)(s:PSet)(ho: ∀x∈l,(∀r∈x.rules,r.ok∧cy r=0)∧x.rules.length<2^40)(gs: ∀x∈s.pols,x.gt)(hlm:s.pols.length<2^40)(tot:List UInt8)(htot:(tot++(ax bV s.pols)).length<2^60)(hl:l.length<2^40)(ln:Int)(hln:ln=l.length): ∀(rest done:List ComL)(a:List UInt8)(T:TV)(H:aw)(c:Nat)(n:Int)(e:l=done++rest)(hn:n=done.length)(ha:a++ax coT rest=tot),Ev G ⟨Gv,⟨(90,.sl 2 (l.map ComL.enc))::(91,.int .i64 ln)::(92,.int .i64 n)::(5,.str a)::(1,.ref 65 1 0)::T,(65,some (1,.cells s.enc))::H,c⟩,[.t 2,.t 3],0⟩ (if 65536<(tot++(ax bV s.pols)).length then ⟨.tup [.str [],.int .i64 4],[]⟩ else ⟨.tup [.str (tot++(ax bV s.pols)),.int .i64 0],[]⟩)
 | [],done,a,T,H,c,n,e,hn,ha=>by
  have hd:=md0 e;have hll:=ml l ComL.enc;obtain rfl:a=tot:=by simpa[ax] using ha
  have m1:=ml s.pols Pol.enc;simp only[Ar] at htot;refine evA ?_;refine ab [127,128,129,5] [] ?_;rw[m1];exact yN s.pols gs (a++ax bV s.pols) (by rw[Ar];omega) hlm _ rfl s.pols [] a _ _ _ 0 rfl rfl rfl
 |x::r,done,a,T,H,c,n,e,hn,ha=>by
  have hd:=md e;have hll:=ml l ComL.enc;have hx:=mx ComL.enc e hn;have g:=ho x (by simp[e])
  have hlen:a.length+(coT x).length≤tot.length:=by rw[←ha,ax];simp only[Ar];omega
  have hq:(coT x).length=15+x.name.length+1+(ax coL x.rules).length:=by unfold coT;simp only[Ar];rfl
  have htot2:tot.length<2^60:=by rw[Ar] at htot;omega
  have m1:=ml x.rules ComR.enc;have ha2:a++coT x++ax coT r=tot:=by rw[←ha,ax];simp only[AF]
  refine evl ?_
  repeat' ((conv=>whnf);first|refine bp ?_|refine au ?_|(refine ae ?_ ?_<;>intro h))
  refine ab [103,104,105,5,90,91,92,1] [65] ?_;rw[m1];refine Ox x.rules g.1 _ _ ln n (by omega) (a++coT x) (by rw[Ar];omega) _ (fun T H c=>?_) g.2 _ rfl x.rules [] (a++(wb++x.name++[10])) _ _ _ 0 rfl rfl (by rw[coT];simp only[AF])
  exact Ii l s ho gs hlm tot htot hl ln hln r (done++[x]) (a++coT x) T H c (n+1) (by simp[e]) (by simp[hn]<;>omega) ha2
theorem Lz (l2:List PathR)(ho: ∀x∈l2,True)(P:List AV)(ls:List (List AV))(len i:Int)(hi:0≤i∧i<2^40)(tot:List UInt8)(htot:tot.length<2^60)(R:Ret)(go: ∀(T:TV) (H:aw) (c:Nat),Ev G ⟨Gw,⟨(59,.sl 2 ls)::(60,.int .i64 len)::(61,.int .i64 (i+1))::(5,.str tot)::(1,.ref 65 1 0)::T,(65,some (1,.cells P))::H,c⟩,[.t 2,.t 3],0⟩ R)(hl:l2.length<2^40)(ln:Int)(hln:ln=l2.length): ∀(rest done:List PathR)(a:List UInt8)(T:TV)(H:aw)(c:Nat)(n:Int)(e:l2=done++rest)(hn:n=done.length)(ha:a++ax paL rest=tot),Ev G ⟨ZM,⟨(72,.sl 2 (l2.map PathR.enc))::(73,.int .i64 ln)::(74,.int .i64 n)::(5,.str a)::(59,.sl 2 ls)::(60,.int .i64 len)::(61,.int .i64 i)::(1,.ref 65 1 0)::T,(65,some (1,.cells P))::H,c⟩,[.t 2,.t 3],0⟩ R
 | [],done,a,T,H,c,n,e,hn,ha=>by
  have hd:=md0 e;have hll:=ml l2 PathR.enc;obtain rfl:a=tot:=by simpa[ax] using ha
  refine evA ?_;refine ab [59,60,61,5,1] [65] ?_;exact go _ _ _
 |x::r,done,a,T,H,c,n,e,hn,ha=>by
  have hd:=md e;have hll:=ml l2 PathR.enc;have hx:=mx PathR.enc e hn;have hlen:a.length+(paL x).length≤tot.length:=by rw[←ha,ax];simp only[Ar];omega
  have ha2:a++paL x++ax paL r=tot:=by rw[←ha,ax];simp only[AF]
  rw[paL] at ha2;have h1:=tn x.permit;have hq:(paL x).length=(jE x.permit).length+x.pattern.length+1:=by unfold paL;simp only[Ar];rfl
  generalize jE x.permit=w at*;refine evl ?_
  repeat' ((conv=>whnf);first|refine bp ?_|refine au ?_|(refine ae ?_ ?_<;>intro h))
  refine ab [72,73,74,5,59,60,61,1] [65] ?_;exact Lz l2 ho P ls len i hi tot htot R go hl ln hln r (done++[x]) (a++(w++x.pattern++[10])) _ _ _ (n+1) (by simp[e]) (by simp[hn]<;>omega) ha2
theorem Fh (l:List PathL)(s:PSet)(ho: ∀x∈l,(∀r∈x.rules,True)∧x.rules.length<2^40)(gc: ∀x∈s.comms,(∀r∈x.rules,r.ok∧cy r=0)∧x.rules.length<2^40)(hlc:s.comms.length<2^40)(gs: ∀x∈s.pols,x.gt)(hlm:s.pols.length<2^40)(tot:List UInt8)(htot:(tot++(ax coT s.comms++(ax bV s.pols))).length<2^60)(hl:l.length<2^40)(ln:Int)(hln:ln=l.length): ∀(rest done:List PathL)(a:List UInt8)(T:TV)(H:aw)(c:Nat)(n:Int)(e:l=done++rest)(hn:n=done.length)(ha:a++ax paT rest=tot),Ev G ⟨Gw,⟨(59,.sl 2 (l.map PathL.enc))::(60,.int .i64 ln)::(61,.int .i64 n)::(5,.str a)::(1,.ref 65 1 0)::T,(65,some (1,.cells s.enc))::H,c⟩,[.t 2,.t 3],0⟩ (if 65536<(tot++(ax coT s.comms++(ax bV s.pols))).length then ⟨.tup [.str [],.int .i64 4],[]⟩ else ⟨.tup [.str (tot++(ax coT s.comms++(ax bV s.pols))),.int .i64 0],[]⟩)
 | [],done,a,T,H,c,n,e,hn,ha=>by
  have hd:=md0 e;have hll:=ml l PathL.enc;obtain rfl:a=tot:=by simpa[ax] using ha
  have m1:=ml s.comms ComL.enc;simp only[Ar] at htot;refine evA ?_;refine ab [90,91,92,5,1] [65] ?_;rw[m1];refine (congrArg (Ev G _) ?_).mp (Ii s.comms s gc gs hlm (a++ax coT s.comms) (by simp only[Ar] at htot⊢;omega) hlc _ rfl s.comms [] a _ _ _ 0 rfl rfl rfl)
  simp only[AF]
 |x::r,done,a,T,H,c,n,e,hn,ha=>by
  have hd:=md e;have hll:=ml l PathL.enc;have hx:=mx PathL.enc e hn;have g:=ho x (by simp[e])
  have hlen:a.length+(paT x).length≤tot.length:=by rw[←ha,ax];simp only[Ar];omega
  have hq:(paT x).length=10+x.name.length+1+(ax paL x.rules).length:=by unfold paT;simp only[Ar];rfl
  have htot2:tot.length<2^60:=by rw[Ar] at htot;omega
  have m1:=ml x.rules PathR.enc;have ha2:a++paT x++ax paT r=tot:=by rw[←ha,ax];simp only[AF]
  refine evl ?_
  repeat' ((conv=>whnf);first|refine bp ?_|refine au ?_|(refine ae ?_ ?_<;>intro h))
  refine ab [72,73,74,5,59,60,61,1] [65] ?_;rw[m1];refine Lz x.rules g.1 _ _ ln n (by omega) (a++paT x) (by rw[Ar];omega) _ (fun T H c=>?_) g.2 _ rfl x.rules [] (a++(wa++x.name++[10])) _ _ _ 0 rfl rfl (by rw[paT];simp only[AF])
  exact Fh l s ho gc hlc gs hlm tot htot hl ln hln r (done++[x]) (a++paT x) T H c (n+1) (by simp[e]) (by simp[hn]<;>omega) ha2
theorem Lu (l2:List RuleP)(ho: ∀x∈l2,x.ok∧ruE x=0)(P:List AV)(ls:List (List AV))(len i:Int)(hi:0≤i∧i<2^40)(tot:List UInt8)(htot:tot.length<2^60)(R:Ret)(go: ∀(T:TV) (H:aw) (c:Nat),Ev G ⟨Gy,⟨(28,.sl 2 ls)::(29,.int .i64 len)::(30,.int .i64 (i+1))::(5,.str tot)::(1,.ref 65 1 0)::T,(65,some (1,.cells P))::H,c⟩,[.t 2,.t 3],0⟩ R)(hl:l2.length<2^40)(ln:Int)(hln:ln=l2.length): ∀(rest done:List RuleP)(a:List UInt8)(T:TV)(H:aw)(c:Nat)(n:Int)(e:l2=done++rest)(hn:n=done.length)(ha:a++ax plL rest=tot),Ev G ⟨ZN,⟨(41,.sl 5 (l2.map RuleP.enc))::(42,.int .i64 ln)::(43,.int .i64 n)::(5,.str a)::(28,.sl 2 ls)::(29,.int .i64 len)::(30,.int .i64 i)::(1,.ref 65 1 0)::T,(65,some (1,.cells P))::H,c⟩,[.t 2,.t 3],0⟩ R
 | [],done,a,T,H,c,n,e,hn,ha=>by
  have hd:=md0 e;have hll:=ml l2 RuleP.enc;obtain rfl:a=tot:=by simpa[ax] using ha
  refine evA ?_;refine ab [28,29,30,5,1] [65] ?_;exact go _ _ _
 |x::r,done,a,T,H,c,n,e,hn,ha=>by
  have hd:=md e;have hll:=ml l2 RuleP.enc;have hx:=mx RuleP.enc e hn;have hlen:a.length+(plL x).length≤tot.length:=by rw[←ha,ax];simp only[Ar];omega
  have ha2:a++plL x++ax plL r=tot:=by rw[←ha,ax];simp only[AF]
  rw[plL] at ha2
  have h1:ah G 332 [.agg x.enc] [] ⟨.tup [.str (i6 x),.int .i64 0],[]⟩:=by
   have:=IB x (ho x (by simp[e])).1
   rwa [txR,Ad (ho x (by simp[e])).2] at this
  have hq:(plL x).length=(i6 x).length+1:=by unfold plL;simp only[Ar];rfl
  generalize i6 x=w at*;refine evl ?_
  repeat' ((conv=>whnf);first|refine bp ?_|refine au ?_|(refine ae ?_ ?_<;>intro h))
  refine ab [41,42,43,5,28,29,30,1] [65] ?_;exact Lu l2 ho P ls len i hi tot htot R go hl ln hln r (done++[x]) (a++(w++[10])) _ _ _ (n+1) (by simp[e]) (by simp[hn]<;>omega) ha2
theorem E7 (l:List PList)(s:PSet)(ho: ∀x∈l,(∀r∈x.rules,r.ok∧ruE r=0)∧x.rules.length<2^40)(ga: ∀x∈s.paths,(∀r∈x.rules,True)∧x.rules.length<2^40)(hla:s.paths.length<2^40)(gc: ∀x∈s.comms,(∀r∈x.rules,r.ok∧cy r=0)∧x.rules.length<2^40)(hlc:s.comms.length<2^40)(gs: ∀x∈s.pols,x.gt)(hlm:s.pols.length<2^40)(tot:List UInt8)(htot:(tot++(ax paT s.paths++(ax coT s.comms++(ax bV s.pols)))).length<2^60)(hl:l.length<2^40)(ln:Int)(hln:ln=l.length): ∀(rest done:List PList)(a:List UInt8)(T:TV)(H:aw)(c:Nat)(n:Int)(e:l=done++rest)(hn:n=done.length)(ha:a++ax plT rest=tot),Ev G ⟨Gy,⟨(28,.sl 2 (l.map PList.enc))::(29,.int .i64 ln)::(30,.int .i64 n)::(5,.str a)::(1,.ref 65 1 0)::T,(65,some (1,.cells s.enc))::H,c⟩,[.t 2,.t 3],0⟩ (if 65536<(tot++(ax paT s.paths++(ax coT s.comms++(ax bV s.pols)))).length then ⟨.tup [.str [],.int .i64 4],[]⟩ else ⟨.tup [.str (tot++(ax paT s.paths++(ax coT s.comms++(ax bV s.pols)))),.int .i64 0],[]⟩)
 | [],done,a,T,H,c,n,e,hn,ha=>by
  have hd:=md0 e;have hll:=ml l PList.enc;obtain rfl:a=tot:=by simpa[ax] using ha
  have m1:=ml s.paths PathL.enc;simp only[Ar] at htot;refine evA ?_;refine ab [59,60,61,5,1] [65] ?_;rw[m1];refine (congrArg (Ev G _) ?_).mp (Fh s.paths s ga gc hlc gs hlm (a++ax paT s.paths) (by simp only[Ar] at htot⊢;omega) hla _ rfl s.paths [] a _ _ _ 0 rfl rfl rfl)
  simp only[AF]
 |x::r,done,a,T,H,c,n,e,hn,ha=>by
  have hd:=md e;have hll:=ml l PList.enc;have hx:=mx PList.enc e hn;have g:=ho x (by simp[e])
  have hlen:a.length+(plT x).length≤tot.length:=by rw[←ha,ax];simp only[Ar];omega
  have hq:(plT x).length=12+x.name.length+1+(ax plL x.rules).length:=by unfold plT;simp only[Ar];rfl
  have htot2:tot.length<2^60:=by rw[Ar] at htot;omega
  have m1:=ml x.rules RuleP.enc;have ha2:a++plT x++ax plT r=tot:=by rw[←ha,ax];simp only[AF]
  refine evl ?_
  repeat' ((conv=>whnf);first|refine bp ?_|refine au ?_|(refine ae ?_ ?_<;>intro h))
  refine ab [41,42,43,5,28,29,30,1] [65] ?_;rw[m1];refine Lu x.rules g.1 _ _ ln n (by omega) (a++plT x) (by rw[Ar];omega) _ (fun T H c=>?_) g.2 _ rfl x.rules [] (a++(v8++x.name++[10])) _ _ _ 0 rfl rfl (by rw[plT];simp only[AF])
  exact E7 l s ho ga hla gc hlc gs hlm tot htot hl ln hln r (done++[x]) (a++plT x) T H c (n+1) (by simp[e]) (by simp[hn]<;>omega) ha2
end Go.AM.IR
namespace Go.AM.IR
theorem yM (l:List Pol)(ho: ∀x∈l,x.gt)(tot:List UInt8)(htot:tot.length<2^60)(hl:l.length<2^40)(ln:Int)(hln:ln=l.length): ∀(rest done:List Pol)(a:List UInt8)(T:TV)(H:aw)(c:Nat)(n:Int)(e:l=done++rest)(hn:n=done.length)(ha:a++ax bV rest=tot),Ev G ⟨Zr,⟨(127,.sl 3 (l.map Pol.enc))::(128,.int .i64 ln)::(129,.int .i64 n)::(5,.str a)::T,H,c⟩,[.t 2,.t 3],0⟩ (if 65536<tot.length then ⟨.tup [.str [],.int .i64 4],[]⟩ else ⟨.tup [.str tot,.int .i64 0],[]⟩)
 | [],done,a,T,H,c,n,e,hn,ha=>by
  have hd:=md0 e;have hll:=ml l Pol.enc;obtain rfl:a=tot:=by simpa[ax] using ha
  by_cases z:65536<a.length
  ·rw[Ad z]
   have z2:(a.length:Int)>65536:=by omega
   refine evA ?_;refine ag ?_;rfl
  ·rw[Ac z]
   have z2: ¬(a.length:Int)>65536:=by omega
   refine evA ?_;refine ag ?_;rfl
 |x::r,done,a,T,H,c,n,e,hn,ha=>by
  have hd:=md e;have hll:=ml l Pol.enc;have hx:=mx Pol.enc e hn;have h1:=K9 x (ho x (by simp[e]))
  have hlen:a.length+(bV x).length≤tot.length:=by rw[←ha,ax];simp only[Ar];omega
  have ha2:a++bV x++ax bV r=tot:=by rw[←ha,ax];simp only[AF]
  have hz:(a++bV x).length=a.length+(bV x).length:=Ar;generalize bV x=w at*;refine evl ?_
  repeat' ((conv=>whnf);first|refine bp ?_|refine au ?_|(refine ae ?_ ?_<;>intro h))
  refine ab [127,128,129,5] [] ?_;exact yM l ho tot htot hl ln hln r (done++[x]) (a++w) _ _ _ (n+1) (by simp[e]) (by simp[hn]<;>omega) ha2
theorem Ow (l2:List ComR)(ho: ∀x∈l2,x.ok∧cy x=0)(P:List AV)(ls:List (List AV))(len i:Int)(hi:0≤i∧i<2^40)(tot:List UInt8)(htot:tot.length<2^60)(R:Ret)(go: ∀(T:TV) (H:aw) (c:Nat),Ev G ⟨Gq,⟨(90,.sl 2 ls)::(91,.int .i64 len)::(92,.int .i64 (i+1))::(5,.str tot)::(1,.ref 65 1 0)::T,(65,some (1,.cells P))::H,c⟩,[.t 2,.t 3],0⟩ R)(hl:l2.length<2^40)(ln:Int)(hln:ln=l2.length): ∀(rest done:List ComR)(a:List UInt8)(T:TV)(H:aw)(c:Nat)(n:Int)(e:l2=done++rest)(hn:n=done.length)(ha:a++ax coL rest=tot),Ev G ⟨Zt,⟨(103,.sl 3 (l2.map ComR.enc))::(104,.int .i64 ln)::(105,.int .i64 n)::(5,.str a)::(90,.sl 2 ls)::(91,.int .i64 len)::(92,.int .i64 i)::(1,.ref 65 1 0)::T,(65,some (1,.cells P))::H,c⟩,[.t 2,.t 3],0⟩ R
 | [],done,a,T,H,c,n,e,hn,ha=>by
  have hd:=md0 e;have hll:=ml l2 ComR.enc;obtain rfl:a=tot:=by simpa[ax] using ha
  refine evA ?_;refine ab [90,91,92,5,1] [65] ?_;exact go _ _ _
 |x::r,done,a,T,H,c,n,e,hn,ha=>by
  have hd:=md e;have hll:=ml l2 ComR.enc;have hx:=mx ComR.enc e hn;have hlen:a.length+(coL x).length≤tot.length:=by rw[←ha,ax];simp only[Ar];omega
  have ha2:a++coL x++ax coL r=tot:=by rw[←ha,ax];simp only[AF]
  rw[coL] at ha2;have h0:=Ib (ho x (by simp[e])).2
  have h1:=tk x.permit;have h2:=tR (ho x (by simp[e])).1.1 h0.1
  have h3:=tR (ho x (by simp[e])).1.2 h0.2
  have hq:(coL x).length=(jE x.permit).length+(jG x.high).length+1+(jG x.low).length+1:=by unfold coL;simp only[Ar];rfl
  generalize jE x.permit=w at*;generalize jG x.high=u1 at*;generalize jG x.low=u2 at*;refine evl ?_
  repeat' ((conv=>whnf);first|refine bp ?_|refine au ?_|(refine ae ?_ ?_<;>intro h))
  refine ab [103,104,105,5,90,91,92,1] [65] ?_;exact Ow l2 ho P ls len i hi tot htot R go hl ln hln r (done++[x]) (a++(w++u1++[58]++u2++[10])) _ _ _ (n+1) (by simp[e]) (by simp[hn]<;>omega) ha2
theorem Ig (l:List ComL)(s:PSet)(ho: ∀x∈l,(∀r∈x.rules,r.ok∧cy r=0)∧x.rules.length<2^40)(gs: ∀x∈s.pols,x.gt)(hlm:s.pols.length<2^40)(tot:List UInt8)(htot:(tot++(ax bV s.pols)).length<2^60)(hl:l.length<2^40)(ln:Int)(hln:ln=l.length): ∀(rest done:List ComL)(a:List UInt8)(T:TV)(H:aw)(c:Nat)(n:Int)(e:l=done++rest)(hn:n=done.length)(ha:a++ax coT rest=tot),Ev G ⟨Gq,⟨(90,.sl 2 (l.map ComL.enc))::(91,.int .i64 ln)::(92,.int .i64 n)::(5,.str a)::(1,.ref 65 1 0)::T,(65,some (1,.cells s.enc))::H,c⟩,[.t 2,.t 3],0⟩ (if 65536<(tot++(ax bV s.pols)).length then ⟨.tup [.str [],.int .i64 4],[]⟩ else ⟨.tup [.str (tot++(ax bV s.pols)),.int .i64 0],[]⟩)
 | [],done,a,T,H,c,n,e,hn,ha=>by
  have hd:=md0 e;have hll:=ml l ComL.enc;obtain rfl:a=tot:=by simpa[ax] using ha
  have m1:=ml s.pols Pol.enc;simp only[Ar] at htot;refine evA ?_;refine ab [127,128,129,5] [] ?_;rw[m1];exact yM s.pols gs (a++ax bV s.pols) (by rw[Ar];omega) hlm _ rfl s.pols [] a _ _ _ 0 rfl rfl rfl
 |x::r,done,a,T,H,c,n,e,hn,ha=>by
  have hd:=md e;have hll:=ml l ComL.enc;have hx:=mx ComL.enc e hn;have g:=ho x (by simp[e])
  have hlen:a.length+(coT x).length≤tot.length:=by rw[←ha,ax];simp only[Ar];omega
  have hq:(coT x).length=15+x.name.length+1+(ax coL x.rules).length:=by unfold coT;simp only[Ar];rfl
  have htot2:tot.length<2^60:=by rw[Ar] at htot;omega
  have m1:=ml x.rules ComR.enc;have ha2:a++coT x++ax coT r=tot:=by rw[←ha,ax];simp only[AF]
  refine evl ?_
  repeat' ((conv=>whnf);first|refine bp ?_|refine au ?_|(refine ae ?_ ?_<;>intro h))
  refine ab [103,104,105,5,90,91,92,1] [65] ?_;rw[m1];refine Ow x.rules g.1 _ _ ln n (by omega) (a++coT x) (by rw[Ar];omega) _ (fun T H c=>?_) g.2 _ rfl x.rules [] (a++(wb++x.name++[10])) _ _ _ 0 rfl rfl (by rw[coT];simp only[AF])
  exact Ig l s ho gs hlm tot htot hl ln hln r (done++[x]) (a++coT x) T H c (n+1) (by simp[e]) (by simp[hn]<;>omega) ha2
theorem Ly (l2:List PathR)(ho: ∀x∈l2,True)(P:List AV)(ls:List (List AV))(len i:Int)(hi:0≤i∧i<2^40)(tot:List UInt8)(htot:tot.length<2^60)(R:Ret)(go: ∀(T:TV) (H:aw) (c:Nat),Ev G ⟨Gr,⟨(59,.sl 2 ls)::(60,.int .i64 len)::(61,.int .i64 (i+1))::(5,.str tot)::(1,.ref 65 1 0)::T,(65,some (1,.cells P))::H,c⟩,[.t 2,.t 3],0⟩ R)(hl:l2.length<2^40)(ln:Int)(hln:ln=l2.length): ∀(rest done:List PathR)(a:List UInt8)(T:TV)(H:aw)(c:Nat)(n:Int)(e:l2=done++rest)(hn:n=done.length)(ha:a++ax paL rest=tot),Ev G ⟨Zu,⟨(72,.sl 2 (l2.map PathR.enc))::(73,.int .i64 ln)::(74,.int .i64 n)::(5,.str a)::(59,.sl 2 ls)::(60,.int .i64 len)::(61,.int .i64 i)::(1,.ref 65 1 0)::T,(65,some (1,.cells P))::H,c⟩,[.t 2,.t 3],0⟩ R
 | [],done,a,T,H,c,n,e,hn,ha=>by
  have hd:=md0 e;have hll:=ml l2 PathR.enc;obtain rfl:a=tot:=by simpa[ax] using ha
  refine evA ?_;refine ab [59,60,61,5,1] [65] ?_;exact go _ _ _
 |x::r,done,a,T,H,c,n,e,hn,ha=>by
  have hd:=md e;have hll:=ml l2 PathR.enc;have hx:=mx PathR.enc e hn;have hlen:a.length+(paL x).length≤tot.length:=by rw[←ha,ax];simp only[Ar];omega
  have ha2:a++paL x++ax paL r=tot:=by rw[←ha,ax];simp only[AF]
  rw[paL] at ha2;have h1:=tk x.permit;have hq:(paL x).length=(jE x.permit).length+x.pattern.length+1:=by unfold paL;simp only[Ar];rfl
  generalize jE x.permit=w at*;refine evl ?_
  repeat' ((conv=>whnf);first|refine bp ?_|refine au ?_|(refine ae ?_ ?_<;>intro h))
  refine ab [72,73,74,5,59,60,61,1] [65] ?_;exact Ly l2 ho P ls len i hi tot htot R go hl ln hln r (done++[x]) (a++(w++x.pattern++[10])) _ _ _ (n+1) (by simp[e]) (by simp[hn]<;>omega) ha2
theorem Fg (l:List PathL)(s:PSet)(ho: ∀x∈l,(∀r∈x.rules,True)∧x.rules.length<2^40)(gc: ∀x∈s.comms,(∀r∈x.rules,r.ok∧cy r=0)∧x.rules.length<2^40)(hlc:s.comms.length<2^40)(gs: ∀x∈s.pols,x.gt)(hlm:s.pols.length<2^40)(tot:List UInt8)(htot:(tot++(ax coT s.comms++(ax bV s.pols))).length<2^60)(hl:l.length<2^40)(ln:Int)(hln:ln=l.length): ∀(rest done:List PathL)(a:List UInt8)(T:TV)(H:aw)(c:Nat)(n:Int)(e:l=done++rest)(hn:n=done.length)(ha:a++ax paT rest=tot),Ev G ⟨Gr,⟨(59,.sl 2 (l.map PathL.enc))::(60,.int .i64 ln)::(61,.int .i64 n)::(5,.str a)::(1,.ref 65 1 0)::T,(65,some (1,.cells s.enc))::H,c⟩,[.t 2,.t 3],0⟩ (if 65536<(tot++(ax coT s.comms++(ax bV s.pols))).length then ⟨.tup [.str [],.int .i64 4],[]⟩ else ⟨.tup [.str (tot++(ax coT s.comms++(ax bV s.pols))),.int .i64 0],[]⟩)
 | [],done,a,T,H,c,n,e,hn,ha=>by
  have hd:=md0 e;have hll:=ml l PathL.enc;obtain rfl:a=tot:=by simpa[ax] using ha
  have m1:=ml s.comms ComL.enc;simp only[Ar] at htot;refine evA ?_;refine ab [90,91,92,5,1] [65] ?_;rw[m1];refine (congrArg (Ev G _) ?_).mp (Ig s.comms s gc gs hlm (a++ax coT s.comms) (by simp only[Ar] at htot⊢;omega) hlc _ rfl s.comms [] a _ _ _ 0 rfl rfl rfl)
  simp only[AF]
 |x::r,done,a,T,H,c,n,e,hn,ha=>by
  have hd:=md e;have hll:=ml l PathL.enc;have hx:=mx PathL.enc e hn;have g:=ho x (by simp[e])
  have hlen:a.length+(paT x).length≤tot.length:=by rw[←ha,ax];simp only[Ar];omega
  have hq:(paT x).length=10+x.name.length+1+(ax paL x.rules).length:=by unfold paT;simp only[Ar];rfl
  have htot2:tot.length<2^60:=by rw[Ar] at htot;omega
  have m1:=ml x.rules PathR.enc;have ha2:a++paT x++ax paT r=tot:=by rw[←ha,ax];simp only[AF]
  refine evl ?_
  repeat' ((conv=>whnf);first|refine bp ?_|refine au ?_|(refine ae ?_ ?_<;>intro h))
  refine ab [72,73,74,5,59,60,61,1] [65] ?_;rw[m1];refine Ly x.rules g.1 _ _ ln n (by omega) (a++paT x) (by rw[Ar];omega) _ (fun T H c=>?_) g.2 _ rfl x.rules [] (a++(wa++x.name++[10])) _ _ _ 0 rfl rfl (by rw[paT];simp only[AF])
  exact Fg l s ho gc hlc gs hlm tot htot hl ln hln r (done++[x]) (a++paT x) T H c (n+1) (by simp[e]) (by simp[hn]<;>omega) ha2
theorem Lr (l2:List RuleP)(ho: ∀x∈l2,x.ok∧ruE x=0)(P:List AV)(ls:List (List AV))(len i:Int)(hi:0≤i∧i<2^40)(tot:List UInt8)(htot:tot.length<2^60)(R:Ret)(go: ∀(T:TV) (H:aw) (c:Nat),Ev G ⟨Gu,⟨(28,.sl 2 ls)::(29,.int .i64 len)::(30,.int .i64 (i+1))::(5,.str tot)::(1,.ref 65 1 0)::T,(65,some (1,.cells P))::H,c⟩,[.t 2,.t 3],0⟩ R)(hl:l2.length<2^40)(ln:Int)(hln:ln=l2.length): ∀(rest done:List RuleP)(a:List UInt8)(T:TV)(H:aw)(c:Nat)(n:Int)(e:l2=done++rest)(hn:n=done.length)(ha:a++ax plL rest=tot),Ev G ⟨Zw,⟨(41,.sl 5 (l2.map RuleP.enc))::(42,.int .i64 ln)::(43,.int .i64 n)::(5,.str a)::(28,.sl 2 ls)::(29,.int .i64 len)::(30,.int .i64 i)::(1,.ref 65 1 0)::T,(65,some (1,.cells P))::H,c⟩,[.t 2,.t 3],0⟩ R
 | [],done,a,T,H,c,n,e,hn,ha=>by
  have hd:=md0 e;have hll:=ml l2 RuleP.enc;obtain rfl:a=tot:=by simpa[ax] using ha
  refine evA ?_;refine ab [28,29,30,5,1] [65] ?_;exact go _ _ _
 |x::r,done,a,T,H,c,n,e,hn,ha=>by
  have hd:=md e;have hll:=ml l2 RuleP.enc;have hx:=mx RuleP.enc e hn;have hlen:a.length+(plL x).length≤tot.length:=by rw[←ha,ax];simp only[Ar];omega
  have ha2:a++plL x++ax plL r=tot:=by rw[←ha,ax];simp only[AF]
  rw[plL] at ha2
  have h1:ah G 333 [.agg x.enc] [] ⟨.tup [.str (i6 x),.int .i64 0],[]⟩:=by
   have:=IA x (ho x (by simp[e])).1
   rwa [txR,Ad (ho x (by simp[e])).2] at this
  have hq:(plL x).length=(i6 x).length+1:=by unfold plL;simp only[Ar];rfl
  generalize i6 x=w at*;refine evl ?_
  repeat' ((conv=>whnf);first|refine bp ?_|refine au ?_|(refine ae ?_ ?_<;>intro h))
  refine ab [41,42,43,5,28,29,30,1] [65] ?_;exact Lr l2 ho P ls len i hi tot htot R go hl ln hln r (done++[x]) (a++(w++[10])) _ _ _ (n+1) (by simp[e]) (by simp[hn]<;>omega) ha2
theorem EZ (l:List PList)(s:PSet)(ho: ∀x∈l,(∀r∈x.rules,r.ok∧ruE r=0)∧x.rules.length<2^40)(ga: ∀x∈s.paths,(∀r∈x.rules,True)∧x.rules.length<2^40)(hla:s.paths.length<2^40)(gc: ∀x∈s.comms,(∀r∈x.rules,r.ok∧cy r=0)∧x.rules.length<2^40)(hlc:s.comms.length<2^40)(gs: ∀x∈s.pols,x.gt)(hlm:s.pols.length<2^40)(tot:List UInt8)(htot:(tot++(ax paT s.paths++(ax coT s.comms++(ax bV s.pols)))).length<2^60)(hl:l.length<2^40)(ln:Int)(hln:ln=l.length): ∀(rest done:List PList)(a:List UInt8)(T:TV)(H:aw)(c:Nat)(n:Int)(e:l=done++rest)(hn:n=done.length)(ha:a++ax plT rest=tot),Ev G ⟨Gu,⟨(28,.sl 2 (l.map PList.enc))::(29,.int .i64 ln)::(30,.int .i64 n)::(5,.str a)::(1,.ref 65 1 0)::T,(65,some (1,.cells s.enc))::H,c⟩,[.t 2,.t 3],0⟩ (if 65536<(tot++(ax paT s.paths++(ax coT s.comms++(ax bV s.pols)))).length then ⟨.tup [.str [],.int .i64 4],[]⟩ else ⟨.tup [.str (tot++(ax paT s.paths++(ax coT s.comms++(ax bV s.pols)))),.int .i64 0],[]⟩)
 | [],done,a,T,H,c,n,e,hn,ha=>by
  have hd:=md0 e;have hll:=ml l PList.enc;obtain rfl:a=tot:=by simpa[ax] using ha
  have m1:=ml s.paths PathL.enc;simp only[Ar] at htot;refine evA ?_;refine ab [59,60,61,5,1] [65] ?_;rw[m1];refine (congrArg (Ev G _) ?_).mp (Fg s.paths s ga gc hlc gs hlm (a++ax paT s.paths) (by simp only[Ar] at htot⊢;omega) hla _ rfl s.paths [] a _ _ _ 0 rfl rfl rfl)
  simp only[AF]
 |x::r,done,a,T,H,c,n,e,hn,ha=>by
  have hd:=md e;have hll:=ml l PList.enc;have hx:=mx PList.enc e hn;have g:=ho x (by simp[e])
  have hlen:a.length+(plT x).length≤tot.length:=by rw[←ha,ax];simp only[Ar];omega
  have hq:(plT x).length=12+x.name.length+1+(ax plL x.rules).length:=by unfold plT;simp only[Ar];rfl
  have htot2:tot.length<2^60:=by rw[Ar] at htot;omega
  have m1:=ml x.rules RuleP.enc;have ha2:a++plT x++ax plT r=tot:=by rw[←ha,ax];simp only[AF]
  refine evl ?_
  repeat' ((conv=>whnf);first|refine bp ?_|refine au ?_|(refine ae ?_ ?_<;>intro h))
  refine ab [41,42,43,5,28,29,30,1] [65] ?_;rw[m1];refine Lr x.rules g.1 _ _ ln n (by omega) (a++plT x) (by rw[Ar];omega) _ (fun T H c=>?_) g.2 _ rfl x.rules [] (a++(v8++x.name++[10])) _ _ _ 0 rfl rfl (by rw[plT];simp only[AF])
  exact EZ l s ho ga hla gc hlc gs hlm tot htot hl ln hln r (done++[x]) (a++plT x) T H c (n+1) (by simp[e]) (by simp[hn]<;>omega) ha2
end Go.AM.IR
namespace Go.AM.IR
theorem AX (s:PSet):bC (s.prefixes.map PList.enc)≤bkL s.enc∧bC (s.paths.map PathL.enc)≤bkL s.enc∧bC (s.comms.map ComL.enc)≤bkL s.enc∧bC (s.pols.map Pol.enc)≤bkL s.enc:=by
 simp only[PSet.enc,bkL,AV.bk];omega
theorem Kw (s:PSet)(h:bkL s.enc≤1048576)(x:PList)(hx:x∈s.prefixes):x.rules.length<2^40:=by
 have a:=AX s;have m:=ef (enc:=PList.enc) hx;have n:=xM x;omega
theorem Ku (s:PSet)(h:bkL s.enc≤1048576)(x:PathL)(hx:x∈s.paths):x.rules.length<2^40:=by
 have a:=AX s;have m:=ef (enc:=PathL.enc) hx;have n:=xL x;omega
theorem Sn (s:PSet)(h:bkL s.enc≤1048576)(x:ComL)(hx:x∈s.comms):x.rules.length<2^40:=by
 have a:=AX s;have m:=ef (enc:=ComL.enc) hx;have n:=DY x;omega
theorem agn (t:Trm)(h:bkL t.enc≤1048576)(ok:t.ok):t.gt:=by
 have n1:=bB (enc:=Mat.enc) (fun x=>by have:=Pb x;omega) t.mats
 have n2:=bB (enc:=Actn.enc) (fun x=>by have:=DZ x;omega) t.acts
 simp only[Trm.enc,bkL,AV.bk] at h;refine ⟨fun x hx=>⟨ok.1 x hx,?_⟩,by omega,ok.2.1,by omega⟩
 have m:=ef (enc:=Mat.enc) hx;simp only[Mat.enc,bkL,AV.bk] at m;omega
theorem Yt (s:PSet)(h:bkL s.enc≤1048576)(p:Pol)(hp:p∈s.pols)(ok:p.ok):p.gt:=by
 have a:=AX s;have m:=ef (enc:=Pol.enc) hp;have l:=Li p;have n:=bB (enc:=Trm.enc) (fun x=>by have:=OY x;omega) p.terms
 have e:bC (p.terms.map Trm.enc)≤bkL p.enc:=by simp only[Pol.enc,bkL,AV.bk];omega
 refine ⟨fun t ht=>agn t ?_ (ok.1 t ht),by omega,by omega⟩
 have:=ef (enc:=Trm.enc) ht;omega
theorem KY (s:PSet)(h:bkL s.enc≤1048576)(ok:s.ok):ah G 405 [.agg s.enc] [] (BZ s):=by
 have gd:=tW s h ok;have lm:=ME s;have h1:=lj s gd (by omega) (by omega) (by omega) (by omega)
 rw[BZ]
 by_cases hz:ca s=0
 ·rw[Ad hz]
  rw[hz] at h1;obtain ⟨r1,r2⟩:=vV hz;have lt:=wh s;have m1:=ml s.prefixes PList.enc;have g0: ∀x∈s.prefixes,(∀r∈x.rules,r.ok∧ruE r=0)∧x.rules.length<2^40:=fun x hx=>⟨fun r hr=>⟨ok.1 x hx r hr,r1 x hx r hr⟩,(Kw s h x hx)⟩
  have g1: ∀x∈s.paths,(∀r∈x.rules,True)∧x.rules.length<2^40:=fun x hx=>⟨fun r hr=>trivial,(Ku s h x hx)⟩
  have g2: ∀x∈s.comms,(∀r∈x.rules,r.ok∧cy r=0)∧x.rules.length<2^40:=fun x hx=>⟨fun r hr=>⟨ok.2.2.1 x hx r hr,r2 x hx r hr⟩,(Sn s h x hx)⟩
  have g3: ∀x∈s.pols,x.gt:=fun x hx=>Yt s h x hx (ok.2.2.2 x hx)
  unfold dW at lt⊢;refine gvB (F:=pb) ?_;refine ab [28,29,30,5,1] [65] ?_;rw[m1];exact E7 s.prefixes s g0 g1 (by omega) g2 (by omega) g3 (by omega) (ax plT s.prefixes) (by omega) (by omega) _ rfl s.prefixes [] [] _ _ _ 0 rfl rfl rfl
 ·rw[Ac hz]
  generalize ca s=E at*;refine gvC (F:=pb) ?_
  repeat' ((conv=>whnf);first|refine bh hz ?_|refine au ?_|(refine ae ?_ ?_<;>intro h))
  refine ag ?_;rfl
theorem KX (s:PSet)(h:bkL s.enc≤1048576)(ok:s.ok):ah G 414 [.agg s.enc] [] (BZ s):=by
 have gd:=tW s h ok;have lm:=ME s;have h1:=lr s gd;rw[BZ]
 by_cases hz:ca s=0
 ·rw[Ad hz]
  rw[hz] at h1;obtain ⟨r1,r2⟩:=vV hz;have lt:=wh s;have m1:=ml s.prefixes PList.enc;have g0: ∀x∈s.prefixes,(∀r∈x.rules,r.ok∧ruE r=0)∧x.rules.length<2^40:=fun x hx=>⟨fun r hr=>⟨ok.1 x hx r hr,r1 x hx r hr⟩,(Kw s h x hx)⟩
  have g1: ∀x∈s.paths,(∀r∈x.rules,True)∧x.rules.length<2^40:=fun x hx=>⟨fun r hr=>trivial,(Ku s h x hx)⟩
  have g2: ∀x∈s.comms,(∀r∈x.rules,r.ok∧cy r=0)∧x.rules.length<2^40:=fun x hx=>⟨fun r hr=>⟨ok.2.2.1 x hx r hr,r2 x hx r hr⟩,(Sn s h x hx)⟩
  have g3: ∀x∈s.pols,x.gt:=fun x hx=>Yt s h x hx (ok.2.2.2 x hx)
  unfold dW at lt⊢;refine gvB (F:=o9) ?_;refine ab [28,29,30,5,1] [65] ?_;rw[m1];exact EZ s.prefixes s g0 g1 (by omega) g2 (by omega) g3 (by omega) (ax plT s.prefixes) (by omega) (by omega) _ rfl s.prefixes [] [] _ _ _ 0 rfl rfl rfl
 ·rw[Ac hz]
  generalize ca s=E at*;refine gvC (F:=o9) ?_
  repeat' ((conv=>whnf);first|refine bh hz ?_|refine au ?_|(refine ae ?_ ?_<;>intro h))
  refine ag ?_;rfl
end Go.AM.IR
namespace Go.AM.IR
def spc:List (List UInt8)→List UInt8
 | []=>[]
 |x::r=>[32]++x++spc r
def jw:List (List UInt8)→List UInt8
 | []=>[]
 |x::r=>x++spc r
def bl (l:List (List UInt8)):List UInt8:=jw l++[10]
theorem rZ (l:List NmL)(tot:List UInt8)(htot:tot.length<2^60)(hl:l.length<2^40)(ln:Int)(hln:ln=l.length): ∀(rest done:List NmL)(a:List UInt8)(T:TV)(H:aw)(c:Nat)(n:Int)(e:l=done++rest)(hn:n=done.length)(ha:a++(if n=0 then jw rest else spc rest)=tot),Ev G ⟨adh,⟨(6,.sl 1 (l.map aX))::(7,.int .i64 ln)::(8,.int .i64 n)::(0,.ref 0 0 0)::T,(0,some (0,.cells [.str a]))::H,c⟩,[],1⟩ ⟨.tup [],[(true,.cells [.str (tot++[10])])]⟩
 | [],done,a,T,H,c,n,e,hn,ha=>by
  have hd:=md0 e;have hll:=ml l aX;obtain rfl:a=tot:=by split at ha<;>simpa[jw,spc] using ha
  refine evl ?_
  repeat' ((conv=>whnf);first|refine bp ?_|refine au ?_|(refine ae ?_ ?_<;>intro h))
  refine fX1 ?_;rfl
 |x::r,done,a,T,H,c,n,e,hn,ha=>by
  have hd:=md e;have hll:=ml l aX;have hx:=mx aX e hn
  by_cases z:n=0
  ·rw[Ad z,jw] at ha
   have z2: ¬n>0:=by omega
   have hlen:a.length+x.length≤tot.length:=by rw[←ha];simp only[Ar];omega
   refine evl ?_
   repeat' ((conv=>whnf);first|refine bp ?_|refine au ?_|(refine ae ?_ ?_<;>intro h))
   refine ab [6,7,8,0] [0] ?_;exact rZ l tot htot hl ln hln r (done++[x]) (a++x) _ _ _ (n+1) (by simp[e]) (by simp[hn]<;>omega) (by rw[Ac (by omega),AF];exact ha)
  ·rw[Ac z,spc] at ha
   have z2:n>0:=by omega
   have hlen:a.length+(1+x.length)≤tot.length:=by rw[←ha];simp only[Ar,As,A8];omega
   refine evl ?_
   repeat' ((conv=>whnf);first|refine bp ?_|refine au ?_|(refine ae ?_ ?_<;>intro h))
   refine ab [6,7,8,0] [0] ?_;exact rZ l tot htot hl ln hln r (done++[x]) (a++[32]++x) _ _ _ (n+1) (by simp[e]) (by simp[hn]<;>omega) (by rw[Ac (by omega),←ha];simp only[AF])
theorem bz (l:List (List UInt8))(hl:l.length<2^40)(a:List UInt8)(h:(a++bl l).length<2^60):ah G 406 [.ref 0 0 0,.sl 1 (l.map aX)] [.cells [.str a]] ⟨.tup [],[(true,.cells [.str (a++bl l)])]⟩:=by
 have m1:=ml l aX
 have h2:(a++jw l).length<2^60:=by
  unfold bl at h;simp only[Ar] at h⊢;omega
 refine gvB (F:=Wo) ?_;refine ab [6,7,8,0] [0] ?_;rw[m1,show a++bl l=a++jw l++[10] from by rw[bl];simp only[AF]]
 exact rZ l (a++jw l) h2 hl _ rfl l [] a _ _ _ 0 rfl rfl (by rw[Ad rfl])
theorem rY (l:List NmL)(tot:List UInt8)(htot:tot.length<2^60)(hl:l.length<2^40)(ln:Int)(hln:ln=l.length): ∀(rest done:List NmL)(a:List UInt8)(T:TV)(H:aw)(c:Nat)(n:Int)(e:l=done++rest)(hn:n=done.length)(ha:a++(if n=0 then jw rest else spc rest)=tot),Ev G ⟨adf,⟨(0,.sl 1 (l.map aX))::(6,.int .i64 ln)::(7,.int .i64 n)::(3,.str a)::T,H,c⟩,[.t 2],0⟩ ⟨.str (tot++[10]),[]⟩
 | [],done,a,T,H,c,n,e,hn,ha=>by
  have hd:=md0 e;have hll:=ml l aX;obtain rfl:a=tot:=by split at ha<;>simpa[jw,spc] using ha
  refine evl ?_
  repeat' ((conv=>whnf);first|refine bp ?_|refine au ?_|(refine ae ?_ ?_<;>intro h))
  refine ag ?_;rfl
 |x::r,done,a,T,H,c,n,e,hn,ha=>by
  have hd:=md e;have hll:=ml l aX;have hx:=mx aX e hn
  by_cases z:n=0
  ·rw[Ad z,jw] at ha
   have z2: ¬n>0:=by omega
   have hlen:a.length+x.length≤tot.length:=by rw[←ha];simp only[Ar];omega
   refine evl ?_
   repeat' ((conv=>whnf);first|refine bp ?_|refine au ?_|(refine ae ?_ ?_<;>intro h))
   refine ab [0,6,7,3] [] ?_;exact rY l tot htot hl ln hln r (done++[x]) (a++x) _ _ _ (n+1) (by simp[e]) (by simp[hn]<;>omega) (by rw[Ac (by omega),AF];exact ha)
  ·rw[Ac z,spc] at ha
   have z2:n>0:=by omega
   have hlen:a.length+(1+x.length)≤tot.length:=by rw[←ha];simp only[Ar,As,A8];omega
   refine evl ?_
   repeat' ((conv=>whnf);first|refine bp ?_|refine au ?_|(refine ae ?_ ?_<;>intro h))
   refine ab [0,6,7,3] [] ?_;exact rY l tot htot hl ln hln r (done++[x]) (a++[32]++x) _ _ _ (n+1) (by simp[e]) (by simp[hn]<;>omega) (by rw[Ac (by omega),←ha];simp only[AF])
theorem bN (l:List (List UInt8))(hl:l.length<2^40)(h:(bl l).length<2^60):ah G 409 [.sl 1 (l.map aX)] [] ⟨.str (bl l),[]⟩:=by
 have m1:=ml l aX
 have h2:(jw l).length<2^60:=by
  unfold bl at h;simp only[Ar] at h;omega
 refine gvB (F:=Wm) ?_;refine ab [0,6,7,3] [] ?_;rw[m1];exact rY l (jw l) h2 hl _ rfl l [] [] _ _ _ 0 rfl rfl (by rw[Ad rfl];rfl)
theorem bu {n:Int}(h:okI n):ah G 410 [.int .i64 n] [] ⟨.str (aa n),[]⟩:=by
 have d:=eW h;generalize aa n=t at*;exact gvA (F:=ade)
theorem yZ (l:List Int)(ho: ∀x∈l,okI x)(hl:l.length<2^30)(tot:List (List UInt8))(htot:tot.length<2^30): ∀(rest done:List Int)(a:List (List UInt8))(b:Nat)(T:TV)(H:aw)(c:Nat)(n:Int)(e:l=done++rest)(hn:n=done.length)(hb:b≠0)(ha:a++rest.map aa=tot),
  Ev G ⟨se,⟨(7,.vs 1 0 l.length)::(8,.int .i64 l.length)::(9,.int .i64 n)::(0,.vs 0 b a.length)::T,(0,some (b,.vec 1 (a.map aX)))::(1,some (0,.vec 1 (l.map bT)))::H,c⟩,[.t 4],2⟩ ⟨.vs 0 0 tot.length,[(false,.vec 1 (tot.map aX)),(true,.vec 1 (l.map bT))]⟩
 | [],done,a,b,T,H,c,n,e,hn,hb,ha=>by
  obtain rfl:a=tot:=by simpa using ha
  have hd:=md0 e;have m1:=ml a aX;refine evA ?_
  (conv=>whnf);first|refine nV [(0,_,_),(1,_,_)] [] [false,true] ?_|refine nW [(0,_,_),(1,_,_)] [] [false,true] ?_
  rfl
 |x::r,done,a,b,T,H,c,n,e,hn,hb,ha=>by
  have hd:=md e;have m1:=ml a aX;have m2:=ml l bT;have hx:=mx bT e hn;have h1:=bA (ho x (by simp[e]))
  have hlen:a.length+1+r.length=tot.length:=by rw[←ha];simp;omega
  have hz:a.length<2^30:=by omega
  have e1:(a++[aa x]).map aX=a.map aX++[[.str (aa x)]]:=by simp[aX]
  have e2:(a++[aa x]).length=a.length+1:=by simp
  have ih:=fun T H c b hb=>yZ l ho hl tot htot r (done++[x]) (a++[aa x]) b T H c (n+1) (by simp[e]) (by simp[hn]<;>omega) hb (by rw[←ha];simp)
  rw[e1,e2] at ih;generalize aa x=w at*;refine evA ?_;refine ab [7,8,9,0] [0,1] ?_;exact ih _ _ _ _ (by omega)
theorem gr (l:List Int)(ho: ∀x∈l,okI x)(hl:l.length<2^20)(hn:l≠ [])(w:List (List UInt8))(hw:w.length<2^20):ah G 408 [.vs 0 0 w.length,.vs 1 0 l.length] [.vec 1 (w.map aX),.vec 1 (l.map bT)] ⟨.vs 0 0 (w++l.map aa).length,[(false,.vec 1 ((w++l.map aa).map aX)),(true,.vec 1 (l.map bT))]⟩:=by
 obtain ⟨x,r,rfl⟩: ∃x r,l=x::r:=by
  cases l with
  |nil=>exact absurd rfl hn
  |cons x r=>exact ⟨x,r,rfl⟩
 have m1:=ml w aX;have m2:((x::r).map bT).length=(x::r).length:=by simp
 have hd:(x::r).length=r.length+1:=rfl;have h1:=bA (ho x (by simp))
 have e1:(w++[aa x]).map aX=w.map aX++[[.str (aa x)]]:=by simp[aX]
 have e2:(w++[aa x]).length=w.length+1:=by simp
 have ih:=fun T H c b hb=>yZ (x::r) ho (by omega) (w++(x::r).map aa) (by rw[Ar,At];omega) r [x] (w++[aa x]) b T H c 1 rfl rfl hb (by simp)
 rw[e1,e2] at ih;generalize hL:w++(x::r).map aa=L at*;have hx:((x::r).map bT)[(0:Int).toNat]? =some (bT x):=rfl;generalize aa x=t at*
 have step: ∀(T:TV)(H:aw)(c:Nat),Ev G ⟨se,⟨(7,.vs 1 0 (x::r).length)::(8,.int .i64 (x::r).length)::(9,.int .i64 0)::(0,.vs 0 0 w.length)::T,(0,some (0,.vec 1 (w.map aX)))::(1,some (0,.vec 1 ((x::r).map bT)))::H,c⟩,[.t 4],2⟩ ⟨.vs 0 0 L.length,[(false,.vec 1 (L.map aX)),(true,.vec 1 ((x::r).map bT))]⟩:=by
  intro T H c;refine evA ?_;refine ab [7,8,9,0] [0,1] ?_;exact ih _ _ _ _ (by omega)
 refine gvB (F:=NJ) ?_;refine ab [7,8,9,0] [0,1] ?_;exact step _ _ _
end Go.AM.IR
