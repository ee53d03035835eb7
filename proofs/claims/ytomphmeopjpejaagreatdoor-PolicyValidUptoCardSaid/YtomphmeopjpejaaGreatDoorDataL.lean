/- What the functions of this program give, on the abstract machine. -/
import Derived.Test.YtomphmeopjpejaaGreatDoorDataJ
import Derived.Test.YtomphmeopjpejaaGreatDoorDataI
set_option linter.unusedVariables false
set_option linter.unusedSimpArgs false
set_option maxHeartbeats 4000000
set_option maxRecDepth 20000
namespace Go.AM.IR
section
variable {k:AV->Prop} {x j:Nat}
end
end Go.AM.IR
namespace Go.AM.IR
end Go.AM.IR
namespace Go.AM.IR
theorem nat_of {a:Int}(h:okU a):a=(a.toNat:Nat)/\a.toNat<4294967296:=by unfold okU at h;omega
end Go.AM.IR
namespace Go.AM.IR
theorem UF: ∀f n:Nat,1<=(cu f n).length
 |0,n=>by simp[cu]
 |f+1,n=>by
  simp only[cu];split<;>simp
theorem dq {n:Nat}(h:n<256):1<=(aw n).length/\(aw n).length<=3:=by
 have e:aw n=cu 19 n:=by unfold aw;rw[Ac (by omega),Int.toNat_natCast]
 rw[e];exact ⟨UF 19 n,ru 19 2 n (by omega)⟩
theorem b7 (n:Int):(aw n).length<=21:=by
 unfold aw;split
 ·have:=ul 19 n.natAbs
  rw[As];omega
 ·have:=ul 19 n.toNat
  omega
theorem itoa_gives246 {n:Int}(h0: -9223372036854775808<=n)(h1:n<=9223372036854775807):ab G 246 [.int .i64 n] [] ⟨.str (aw n),[]⟩:=by
 show sg _ _=_
 exact Ad ⟨h0,h1⟩
def dots (x:Nat):List UInt8:=aw (x/ 16777216:Nat)++46::(aw (x/ 65536 % 256:Nat)++46::(aw (x/ 256 % 256:Nat)++46::aw (x % 256:Nat)))
section
variable {k:AV->Prop} {q:IntKind}
theorem zShrC (m:Nat){x:Nat}{j:Int}(h:k (.int .u32 ((x/ m:Nat):Int)))(hm:m=2^j.toNat)(h0:0<=j)(h1:j<=32): ∃v,bt .shr (.int .u32 (x:Int)) (.int q j)=some v/\k v:=by
 subst hm;refine ⟨_,?_,h⟩;show (if j<0 then none else some (AV.int .u32 ((x:Int).fdiv (2^ (min j.toNat 32)))))=_
 rw[Ac (by omega),show min j.toNat 32=j.toNat by omega]
 congr 2
 rw[Int.fdiv_eq_ediv_of_nonneg _ (by exact Int.le_of_lt (Int.pow_pos (by omega)))]
 simp
theorem zAnd255 {x:Nat}(h:k (.int .u32 ((x % 256:Nat):Int)))(hx:x<4294967296): ∃v,bt .and (.int .u32 (x:Int)) (.int .u32 255)=some v/\k v:=
 ⟨_,by
  show some (AV.int .u32 (intBits .and .u32 (x:Int) ((255:Nat):Int)))=_
  rw[su x 255 hx (by omega),show (255:Nat)=2^8-1 from rfl,Nat.and_two_pow_sub_one_eq_mod],h⟩
end
theorem join_gives247 (a b c d:List UInt8)(h:a.length<=3/\b.length<=3/\c.length<=3/\d.length<=3):ab G 247 [.sl 1 [[.str a],[.str b],[.str c],[.str d]],.str [46]] [] ⟨.str (a++46::(b++46::(c++46::d))),[]⟩:=by
 have hj:Lib.join [a,b,c,d] [46]=a++46::(b++46::(c++46::d)):=by simp[Lib.join,List.intercalate]
 show se [.sl 1 [[.str a],[.str b],[.str c],[.str d]],.str [46]] []=_
 show (if [a,b,c,d].length<=140737488355328/\(Lib.join [a,b,c,d] [46]).length<=140737488355328 then some (⟨.str (Lib.join [a,b,c,d] [46]),[]⟩:Ret) else none)=_
 rw[hj,Ad];simp;omega
theorem dec_gives337 {n:Int}(h:okI n):ab G 337 [.int .i64 n] [] ⟨.str (aw n),[]⟩:=by
 unfold okI at h;have hi:=itoa_gives246 (n:=n) (by omega) (by omega)
 generalize aw n=t at*;exact gvA (F:=f337)
section
variable {kv:AV->Prop} {k:Eff->Prop} {x:Opd} {g key:Nat} {hg:Nat->Option (Nat×Blk)} {n:Int}
end
theorem zSlarr {k:Eff->Prop}{x:Opd}{g key kk gk n:Nat}{cs:List AV}{hg:Nat->Option (Nat×Blk)}(h:k {res:=.vs key g n,wr:=[(key,some (g,.vec 1 (cs.map λc=>[c]))),(kk,some (g,.vec 1 []))],rd:=[kk]})
  (hk:hg kk=some (gk,.cells cs):=by rfl) (hn:cs.length=n:=by rfl) (hne:kk≠key:=by decide): ∃e,aP (.slarr n 1 x none none none) g key [.ref kk gk 0] hg=some e/\k e:=by
 refine ⟨_,?_,h⟩;simp[aP,oC,hk,hn,hne]
theorem addr_loop4 (x:Nat)(t3 t2 t1 t0 R:List UInt8)(hx:x<4294967296)(n3:ab G 246 [.int .i64 (x/ 16777216 % 256:Nat)] [] ⟨.str t3,[]⟩)(n2:ab G 246 [.int .i64 (x/ 65536 % 256:Nat)] [] ⟨.str t2,[]⟩)(n1:ab G 246 [.int .i64 (x/ 256 % 256:Nat)] [] ⟨.str t1,[]⟩)(n0:ab G 246 [.int .i64 (x/ 1 % 256:Nat)] [] ⟨.str t0,[]⟩)(ej:ab G 247 [.sl 1 [[.str t3],[.str t2],[.str t1],[.str t0]],.str [46]] [] ⟨.str R,[]⟩)(T:TV)(H:ap)(c g:Nat):
  Ev G ⟨gP,⟨(5,.int .i64 4)::(3,.ref 67 g 0)::(0,.int .u32 (x:Int))::T,(67,some (g,.cells [.str t3,.str t2,.str t1,.str t0]))::H,c⟩,[.t 2],0⟩ ⟨.str R,[]⟩:=by
 refine evl ?_
 repeat' ((conv=>whnf);first|refine zSlarr ?_|refine aq ?_|refine kZ [(83,_,_)] ⟨rfl,pz trivial⟩ (ej) ?_|(refine ae ?_ ?_<;>intro h))
 refine ax ?_;rfl
theorem addr_loop3 (x:Nat)(t3 t2 t1 t0 R:List UInt8)(hx:x<4294967296)(n3:ab G 246 [.int .i64 (x/ 16777216 % 256:Nat)] [] ⟨.str t3,[]⟩)(n2:ab G 246 [.int .i64 (x/ 65536 % 256:Nat)] [] ⟨.str t2,[]⟩)(n1:ab G 246 [.int .i64 (x/ 256 % 256:Nat)] [] ⟨.str t1,[]⟩)(n0:ab G 246 [.int .i64 (x/ 1 % 256:Nat)] [] ⟨.str t0,[]⟩)(ej:ab G 247 [.sl 1 [[.str t3],[.str t2],[.str t1],[.str t0]],.str [46]] [] ⟨.str R,[]⟩)(T:TV)(H:ap)(c g:Nat):
  Ev G ⟨gP,⟨(5,.int .i64 3)::(3,.ref 67 g 0)::(0,.int .u32 (x:Int))::T,(67,some (g,.cells [.str t3,.str t2,.str t1,.str []]))::H,c⟩,[.t 2],0⟩ ⟨.str R,[]⟩:=by
 refine evl ?_
 repeat' ((conv=>whnf);first|refine zShrC 1 ?_ (by rfl) (by omega) (by omega)|refine zAnd255 ?_ (by omega)|refine aq ?_|(refine ae ?_ ?_<;>intro h))
 refine au [5,3,0] [67] ?_;exact addr_loop4 x t3 t2 t1 t0 R hx n3 n2 n1 n0 ej _ _ _ _
theorem addr_loop2 (x:Nat)(t3 t2 t1 t0 R:List UInt8)(hx:x<4294967296)(n3:ab G 246 [.int .i64 (x/ 16777216 % 256:Nat)] [] ⟨.str t3,[]⟩)(n2:ab G 246 [.int .i64 (x/ 65536 % 256:Nat)] [] ⟨.str t2,[]⟩)(n1:ab G 246 [.int .i64 (x/ 256 % 256:Nat)] [] ⟨.str t1,[]⟩)(n0:ab G 246 [.int .i64 (x/ 1 % 256:Nat)] [] ⟨.str t0,[]⟩)(ej:ab G 247 [.sl 1 [[.str t3],[.str t2],[.str t1],[.str t0]],.str [46]] [] ⟨.str R,[]⟩)(T:TV)(H:ap)(c g:Nat):
  Ev G ⟨gP,⟨(5,.int .i64 2)::(3,.ref 67 g 0)::(0,.int .u32 (x:Int))::T,(67,some (g,.cells [.str t3,.str t2,.str [],.str []]))::H,c⟩,[.t 2],0⟩ ⟨.str R,[]⟩:=by
 refine evl ?_
 repeat' ((conv=>whnf);first|refine zShrC 256 ?_ (by rfl) (by omega) (by omega)|refine zAnd255 ?_ (by omega)|refine aq ?_|(refine ae ?_ ?_<;>intro h))
 refine au [5,3,0] [67] ?_;exact addr_loop3 x t3 t2 t1 t0 R hx n3 n2 n1 n0 ej _ _ _ _
theorem addr_loop1 (x:Nat)(t3 t2 t1 t0 R:List UInt8)(hx:x<4294967296)(n3:ab G 246 [.int .i64 (x/ 16777216 % 256:Nat)] [] ⟨.str t3,[]⟩)(n2:ab G 246 [.int .i64 (x/ 65536 % 256:Nat)] [] ⟨.str t2,[]⟩)(n1:ab G 246 [.int .i64 (x/ 256 % 256:Nat)] [] ⟨.str t1,[]⟩)(n0:ab G 246 [.int .i64 (x/ 1 % 256:Nat)] [] ⟨.str t0,[]⟩)(ej:ab G 247 [.sl 1 [[.str t3],[.str t2],[.str t1],[.str t0]],.str [46]] [] ⟨.str R,[]⟩)(T:TV)(H:ap)(c g:Nat):
  Ev G ⟨gP,⟨(5,.int .i64 1)::(3,.ref 67 g 0)::(0,.int .u32 (x:Int))::T,(67,some (g,.cells [.str t3,.str [],.str [],.str []]))::H,c⟩,[.t 2],0⟩ ⟨.str R,[]⟩:=by
 refine evl ?_
 repeat' ((conv=>whnf);first|refine zShrC 65536 ?_ (by rfl) (by omega) (by omega)|refine zAnd255 ?_ (by omega)|refine aq ?_|(refine ae ?_ ?_<;>intro h))
 refine au [5,3,0] [67] ?_;exact addr_loop2 x t3 t2 t1 t0 R hx n3 n2 n1 n0 ej _ _ _ _
theorem addr_loop0 (x:Nat)(t3 t2 t1 t0 R:List UInt8)(hx:x<4294967296)(n3:ab G 246 [.int .i64 (x/ 16777216 % 256:Nat)] [] ⟨.str t3,[]⟩)(n2:ab G 246 [.int .i64 (x/ 65536 % 256:Nat)] [] ⟨.str t2,[]⟩)(n1:ab G 246 [.int .i64 (x/ 256 % 256:Nat)] [] ⟨.str t1,[]⟩)(n0:ab G 246 [.int .i64 (x/ 1 % 256:Nat)] [] ⟨.str t0,[]⟩)(ej:ab G 247 [.sl 1 [[.str t3],[.str t2],[.str t1],[.str t0]],.str [46]] [] ⟨.str R,[]⟩)(T:TV)(H:ap)(c g:Nat):
  Ev G ⟨gP,⟨(5,.int .i64 0)::(3,.ref 67 g 0)::(0,.int .u32 (x:Int))::T,(67,some (g,.cells [.str [],.str [],.str [],.str []]))::H,c⟩,[.t 2],0⟩ ⟨.str R,[]⟩:=by
 refine evl ?_
 repeat' ((conv=>whnf);first|refine zShrC 16777216 ?_ (by rfl) (by omega) (by omega)|refine zAnd255 ?_ (by omega)|refine aq ?_|(refine ae ?_ ?_<;>intro h))
 refine au [5,3,0] [67] ?_;exact addr_loop1 x t3 t2 t1 t0 R hx n3 n2 n1 n0 ej _ _ _ _
theorem addr_gives227 (x:Nat)(hx:x<4294967296):ab G 227 [.int .u32 (x:Int)] [] ⟨.str (dots x),[]⟩:=by
 have n3:=itoa_gives246 (n:=(x/ 16777216:Nat)) (by omega) (by omega)
 have n2:=itoa_gives246 (n:=(x/ 65536 % 256:Nat)) (by omega) (by omega)
 have n1:=itoa_gives246 (n:=(x/ 256 % 256:Nat)) (by omega) (by omega)
 have n0:=itoa_gives246 (n:=(x % 256:Nat)) (by omega) (by omega)
 have l3:=dq (n:=x/ 16777216) (by omega)
 have l2:=dq (n:=x/ 65536 % 256) (by omega)
 have l1:=dq (n:=x/ 256 % 256) (by omega)
 have l0:=dq (n:=x % 256) (by omega)
 have ej:=join_gives247 _ _ _ _ ⟨l3.2,l2.2,l1.2,l0.2⟩;have n3:ab G 246 [.int .i64 (x/ 16777216 % 256:Nat)] [] ⟨.str (aw (x/ 16777216:Nat)),[]⟩:=by rw[show x/ 16777216 % 256=x/ 16777216 by omega];exact n3
 have n0:ab G 246 [.int .i64 (x/ 1 % 256:Nat)] [] ⟨.str (aw (x % 256:Nat)),[]⟩:=by rw[Nat.div_one];exact n0
 refine gvB (F:=Ef) ?_;refine au [5,3,0] [67] ?_;exact addr_loop0 x _ _ _ _ _ hx n3 n2 n1 n0 ej _ _ _ _
theorem dots_len {x:Nat}(hx:x<4294967296):(dots x).length<=15:=by
 have l3:=dq (n:=x/ 16777216) (by omega)
 have l2:=dq (n:=x/ 65536 % 256) (by omega)
 have l1:=dq (n:=x/ 256 % 256) (by omega)
 have l0:=dq (n:=x % 256) (by omega)
 unfold dots;simp only[Ar,As];omega
def ptext (x n:Nat):List UInt8:=dots x++47::aw n
theorem validP_len {p:Pfx}(h:bz p=true):0<=p.len/\p.len<=32:=by
 unfold bz at h;rw[AO] at h;exact ⟨h.1,h.2.1⟩
theorem text_gives229 (p:Pfx)(h:p.ok):ab G 229 [.agg p.enc] [] ⟨.str (if bz p=true then ptext p.addr.toNat p.len.toNat else []),[]⟩:=by
 obtain ⟨e,hx⟩:=nat_of h.addr;have hv:=fM p h;have ha:=addr_gives227 p.addr.toNat hx;have hd:=dots_len hx;rw[<-e] at ha;cases hvp:bz p
 ·rw[hvp] at hv
  rw[Ac (by simp)]
  exact gvA (F:=xV)
 ·rw[hvp] at hv
  obtain ⟨n0,n1⟩:=validP_len hvp;have hi:=itoa_gives246 (n:=p.len) (by omega) (by omega)
  have hil:=dq (n:=p.len.toNat) (by omega)
  rw[Cl n0] at hil;rw[Ad rfl,ptext,Cl n0];generalize aw p.len=t at*;generalize dots p.addr.toNat=d at*;refine gvC (F:=xV) ?_
  repeat' (first|refine b8 ?_|(refine ae ?_ ?_<;>intro h))
  refine ax ?_;simp
theorem ptext_len {x n:Nat}(hx:x<4294967296)(hn:n<=32):(ptext x n).length<=19:=by
 have:=dots_len hx;have:=dq (n:=n) (by omega)
 unfold ptext;simp only[Ar,As];omega
def pfT (p:Pfx):List UInt8:=if bz p=true then ptext p.addr.toNat p.len.toNat else []
theorem Xd (p:Pfx)(h:p.ok):(pfT p).length<=19:=by
 obtain ⟨_,hx⟩:=nat_of h.addr;unfold pfT;split
 ·rename_i v
  have:=validP_len v;exact ptext_len hx (by omega)
 ·simp
end Go.AM.IR
namespace Go.AM.IR
def ba:AV:=.con (.slice none 0 0)
def db (s:PSet):Kn:=⟨s.prefixes.map PList.name,s.paths.map PathL.name,s.comms.map ComL.name,s.pols.map Pol.name⟩
theorem yP (s:PSet)(g2 g3 a0 a1 a2:Nat)(B0 B1 B2:List NmL)(hl:s.pols.length<2^40)(R:Ret)(O:List NmL)
  (go:R=⟨.agg [.vs 0 0 B0.length,.vs 1 0 B1.length,.vs 2 0 B2.length,.vs 3 0 O.length],[(false,.vec 1 (B0.map ah)),(false,.vec 1 (B1.map ah)),(false,.vec 1 (B2.map ah)),(false,.vec 1 (O.map ah))]⟩): ∀(rest done:List Pol)(o:List NmL)(a3:Nat)(T:TV)(H:ap)(c:Nat)(n:Int)(e:s.pols=done++rest)(hn:n=done.length)(hb:o.length+rest.length<2^30)(hO:o++rest.map Pol.name=O),
  Ev G ⟨zk,⟨(60,.int .i64 n)::(3,.ref 67 g3 0)::(58,.sl 3 (s.pols.map Pol.enc))::(2,.ref 66 g2 0)::(59,.int .i64 s.pols.length)::T,(67,some (g3,.cells [.vs 88 a0 B0.length,.vs 103 a1 B1.length,.vs 118 a2 B2.length,.vs 133 a3 o.length]))::(66,some (g2,.cells [ba,ba,ba,ba]))::(88,some (a0,.vec 1 (B0.map ah)))::(103,some (a1,.vec 1 (B1.map ah)))::(118,some (a2,.vec 1 (B2.map ah)))::(133,some (a3,.vec 1 (o.map ah)))::H,c⟩,[.cell 2 (some 4)],0⟩ R
 | [],done,o,a3,T,H,c,n,e,hn,hb,hO=>by
  have hd:=md0 e;rw[Bd,BD] at hO;subst hO;rw[go];refine evA ?_;refine Yi [(88,_,.vec 1 (B0.map ah)),(103,_,.vec 1 (B1.map ah)),(118,_,.vec 1 (B2.map ah)),(133,_,.vec 1 (o.map ah))] ⟨rfl,⟨rfl,puL,rfl,puL,rfl,puL,rfl,puL,trivial⟩,rfl,rfl,(by simp[cx]),?_⟩
  simp[AV.ren,cI,φR];exact ⟨rfl,rfl,rfl⟩
 |x::r,done,o,a3,T,H,c,n,e,hn,hb,hO=>by
  have hd:=md e;have hll:=ml s.pols Pol.enc;have hx:=mx Pol.enc e hn;have hb0:(x::r).length=r.length+1:=rfl;have ih:=λa3 T H c=>yP s g2 g3 a0 a1 a2 B0 B1 B2 hl R O go r (done++[x]) (o++[x.name]) a3 T H c (n+1) (by simp[e]) (by simp[hn]) (by simp;omega) (by rw[<-hO];simp)
  rw[List.map_append,Ar] at ih;refine evA ?_;refine au [60,3,58,2,59] [67,66,88,103,118,133] ?_;exact ih _ _ _ _
theorem yQ (s:PSet)(g2 g3 a0 a1 a3:Nat)(B0 B1 B3:List NmL)(hl:s.comms.length<2^40)(R:Ret)(O:List NmL)
  (go: ∀(a2:Nat)(T:TV)(H:ap)(c:Nat),Ev G ⟨zk,⟨(60,.int .i64 0)::(3,.ref 67 g3 0)::(58,.sl 3 (s.pols.map Pol.enc))::(2,.ref 66 g2 0)::(59,.int .i64 s.pols.length)::T,(67,some (g3,.cells [.vs 88 a0 B0.length,.vs 103 a1 B1.length,.vs 118 a2 O.length,.vs 133 a3 B3.length]))::(66,some (g2,.cells [ba,ba,ba,ba]))::(88,some (a0,.vec 1 (B0.map ah)))::(103,some (a1,.vec 1 (B1.map ah)))::(118,some (a2,.vec 1 (O.map ah)))::(133,some (a3,.vec 1 (B3.map ah)))::H,c⟩,[.cell 2 (some 4)],0⟩ R): ∀(rest done:List ComL)(o:List NmL)(a2:Nat)(T:TV)(H:ap)(c:Nat)(n:Int)(e:s.comms=done++rest)(hn:n=done.length)(hb:o.length+rest.length<2^30)(hO:o++rest.map ComL.name=O),
  Ev G ⟨zl,⟨(45,.int .i64 n)::(3,.ref 67 g3 0)::(43,.sl 2 (s.comms.map ComL.enc))::(2,.ref 66 g2 0)::(1,.ref 65 1 0)::(44,.int .i64 s.comms.length)::T,(67,some (g3,.cells [.vs 88 a0 B0.length,.vs 103 a1 B1.length,.vs 118 a2 o.length,.vs 133 a3 B3.length]))::(65,some (1,.cells s.enc))::(66,some (g2,.cells [ba,ba,ba,ba]))::(88,some (a0,.vec 1 (B0.map ah)))::(103,some (a1,.vec 1 (B1.map ah)))::(118,some (a2,.vec 1 (o.map ah)))::(133,some (a3,.vec 1 (B3.map ah)))::H,c⟩,[.cell 2 (some 4)],0⟩ R
 | [],done,o,a2,T,H,c,n,e,hn,hb,hO=>by
  have hd:=md0 e;rw[Bd,BD] at hO;subst hO;have m1:=ml s.pols Pol.enc;refine evA ?_;refine au [60,3,58,2,59] [67,66,88,103,118,133] ?_;rw[m1];exact go _ _ _ _
 |x::r,done,o,a2,T,H,c,n,e,hn,hb,hO=>by
  have hd:=md e;have hll:=ml s.comms ComL.enc;have hx:=mx ComL.enc e hn;have hb0:(x::r).length=r.length+1:=rfl;have ih:=λa2 T H c=>yQ s g2 g3 a0 a1 a3 B0 B1 B3 hl R O go r (done++[x]) (o++[x.name]) a2 T H c (n+1) (by simp[e]) (by simp[hn]) (by simp;omega) (by rw[<-hO];simp)
  rw[List.map_append,Ar] at ih;refine evA ?_;refine au [45,3,43,2,1,44] [67,65,66,88,103,118,133] ?_;exact ih _ _ _ _
theorem yT (s:PSet)(g2 g3 a0 a2 a3:Nat)(B0 B2 B3:List NmL)(hl:s.paths.length<2^40)(R:Ret)(O:List NmL)
  (go: ∀(a1:Nat)(T:TV)(H:ap)(c:Nat),Ev G ⟨zl,⟨(45,.int .i64 0)::(3,.ref 67 g3 0)::(43,.sl 2 (s.comms.map ComL.enc))::(2,.ref 66 g2 0)::(1,.ref 65 1 0)::(44,.int .i64 s.comms.length)::T,(67,some (g3,.cells [.vs 88 a0 B0.length,.vs 103 a1 O.length,.vs 118 a2 B2.length,.vs 133 a3 B3.length]))::(65,some (1,.cells s.enc))::(66,some (g2,.cells [ba,ba,ba,ba]))::(88,some (a0,.vec 1 (B0.map ah)))::(103,some (a1,.vec 1 (O.map ah)))::(118,some (a2,.vec 1 (B2.map ah)))::(133,some (a3,.vec 1 (B3.map ah)))::H,c⟩,[.cell 2 (some 4)],0⟩ R): ∀(rest done:List PathL)(o:List NmL)(a1:Nat)(T:TV)(H:ap)(c:Nat)(n:Int)(e:s.paths=done++rest)(hn:n=done.length)(hb:o.length+rest.length<2^30)(hO:o++rest.map PathL.name=O),
  Ev G ⟨zm,⟨(30,.int .i64 n)::(3,.ref 67 g3 0)::(28,.sl 2 (s.paths.map PathL.enc))::(2,.ref 66 g2 0)::(1,.ref 65 1 0)::(29,.int .i64 s.paths.length)::T,(67,some (g3,.cells [.vs 88 a0 B0.length,.vs 103 a1 o.length,.vs 118 a2 B2.length,.vs 133 a3 B3.length]))::(65,some (1,.cells s.enc))::(66,some (g2,.cells [ba,ba,ba,ba]))::(88,some (a0,.vec 1 (B0.map ah)))::(103,some (a1,.vec 1 (o.map ah)))::(118,some (a2,.vec 1 (B2.map ah)))::(133,some (a3,.vec 1 (B3.map ah)))::H,c⟩,[.cell 2 (some 4)],0⟩ R
 | [],done,o,a1,T,H,c,n,e,hn,hb,hO=>by
  have hd:=md0 e;rw[Bd,BD] at hO;subst hO;have m1:=ml s.comms ComL.enc;refine evA ?_;refine au [45,3,43,2,1,44] [67,65,66,88,103,118,133] ?_;rw[m1];exact go _ _ _ _
 |x::r,done,o,a1,T,H,c,n,e,hn,hb,hO=>by
  have hd:=md e;have hll:=ml s.paths PathL.enc;have hx:=mx PathL.enc e hn;have hb0:(x::r).length=r.length+1:=rfl;have ih:=λa1 T H c=>yT s g2 g3 a0 a2 a3 B0 B2 B3 hl R O go r (done++[x]) (o++[x.name]) a1 T H c (n+1) (by simp[e]) (by simp[hn]) (by simp;omega) (by rw[<-hO];simp)
  rw[List.map_append,Ar] at ih;refine evA ?_;refine au [30,3,28,2,1,29] [67,65,66,88,103,118,133] ?_;exact ih _ _ _ _
theorem Dq (s:PSet)(g2 g3 a1 a2 a3:Nat)(B1 B2 B3:List NmL)(hl:s.prefixes.length<2^40)(R:Ret)(O:List NmL)
  (go: ∀(a0:Nat)(T:TV)(H:ap)(c:Nat),Ev G ⟨zm,⟨(30,.int .i64 0)::(3,.ref 67 g3 0)::(28,.sl 2 (s.paths.map PathL.enc))::(2,.ref 66 g2 0)::(1,.ref 65 1 0)::(29,.int .i64 s.paths.length)::T,(67,some (g3,.cells [.vs 88 a0 O.length,.vs 103 a1 B1.length,.vs 118 a2 B2.length,.vs 133 a3 B3.length]))::(65,some (1,.cells s.enc))::(66,some (g2,.cells [ba,ba,ba,ba]))::(88,some (a0,.vec 1 (O.map ah)))::(103,some (a1,.vec 1 (B1.map ah)))::(118,some (a2,.vec 1 (B2.map ah)))::(133,some (a3,.vec 1 (B3.map ah)))::H,c⟩,[.cell 2 (some 4)],0⟩ R): ∀(rest done:List PList)(o:List NmL)(a0:Nat)(T:TV)(H:ap)(c:Nat)(n:Int)(e:s.prefixes=done++rest)(hn:n=done.length)(hb:o.length+rest.length<2^30)(hO:o++rest.map PList.name=O),
  Ev G ⟨Uq,⟨(15,.int .i64 n)::(3,.ref 67 g3 0)::(13,.sl 2 (s.prefixes.map PList.enc))::(2,.ref 66 g2 0)::(1,.ref 65 1 0)::(14,.int .i64 s.prefixes.length)::T,(67,some (g3,.cells [.vs 88 a0 o.length,.vs 103 a1 B1.length,.vs 118 a2 B2.length,.vs 133 a3 B3.length]))::(65,some (1,.cells s.enc))::(66,some (g2,.cells [ba,ba,ba,ba]))::(88,some (a0,.vec 1 (o.map ah)))::(103,some (a1,.vec 1 (B1.map ah)))::(118,some (a2,.vec 1 (B2.map ah)))::(133,some (a3,.vec 1 (B3.map ah)))::H,c⟩,[.cell 2 (some 4)],0⟩ R
 | [],done,o,a0,T,H,c,n,e,hn,hb,hO=>by
  have hd:=md0 e;rw[Bd,BD] at hO;subst hO;have m1:=ml s.paths PathL.enc;refine evA ?_;refine au [30,3,28,2,1,29] [67,65,66,88,103,118,133] ?_;rw[m1];exact go _ _ _ _
 |x::r,done,o,a0,T,H,c,n,e,hn,hb,hO=>by
  have hd:=md e;have hll:=ml s.prefixes PList.enc;have hx:=mx PList.enc e hn;have hb0:(x::r).length=r.length+1:=rfl;have ih:=λa0 T H c=>Dq s g2 g3 a1 a2 a3 B1 B2 B3 hl R O go r (done++[x]) (o++[x.name]) a0 T H c (n+1) (by simp[e]) (by simp[hn]) (by simp;omega) (by rw[<-hO];simp)
  rw[List.map_append,Ar] at ih;refine evA ?_;refine au [15,3,13,2,1,14] [67,65,66,88,103,118,133] ?_;exact ih _ _ _ _
theorem Dm (s:PSet)(g:s.good)(h0:s.prefixes.length<2^30)(h1:s.paths.length<2^30)(h2:s.comms.length<2^30)(h3:s.pols.length<2^30):ab G 507 [.agg s.enc] [] ⟨.agg [.vs 0 0 (db s).a.length,.vs 1 0 (db s).b.length,.vs 2 0 (db s).c.length,.vs 3 0 (db s).d.length],[(false,.vec 1 ((db s).a.map ah)),(false,.vec 1 ((db s).b.map ah)),(false,.vec 1 ((db s).c.map ah)),(false,.vec 1 ((db s).d.map ah))]⟩:=by
 have m1:=ml s.prefixes PList.enc;refine gvB (F:=uf) ?_;refine eN 88 1 [] [(67,some (_,.cells [.vs 88 _ 0,ba,ba,ba]))] trivial ⟨⟨rfl,⟨LeP.nilV _ _ _,.refl _,.refl _,.refl _,trivial⟩⟩,trivial⟩ ?_;refine eN 103 1 [] [(67,some (_,.cells [.vs 88 _ 0,.vs 103 _ 0,ba,ba]))] trivial ⟨⟨rfl,⟨.refl _,LeP.nilV _ _ _,.refl _,.refl _,trivial⟩⟩,trivial⟩ ?_;refine eN 118 1 [] [(67,some (_,.cells [.vs 88 _ 0,.vs 103 _ 0,.vs 118 _ 0,ba]))] trivial ⟨⟨rfl,⟨.refl _,.refl _,LeP.nilV _ _ _,.refl _,trivial⟩⟩,trivial⟩ ?_;refine eN 133 1 [] [(67,some (_,.cells [.vs 88 _ 0,.vs 103 _ 0,.vs 118 _ 0,.vs 133 _ 0]))] trivial ⟨⟨rfl,⟨.refl _,.refl _,.refl _,LeP.nilV _ _ _,trivial⟩⟩,trivial⟩ ?_;refine au [15,3,13,2,1,14] [67,65,66,88,103,118,133] ?_;rw[m1];refine Dq s _ _ _ _ _ [] [] [] g.a _ (db s).a (λa0 T H c=>?_) s.prefixes [] [] _ _ _ _ 0 rfl rfl (by simpa using h0) (by simp[db])
 refine yT s _ _ _ _ _ (db s).a [] [] g.b _ (db s).b (λa1 T H c=>?_) s.paths [] [] _ _ _ _ 0 rfl rfl (by simpa using h1) (by simp[db])
 refine yQ s _ _ _ _ _ (db s).a (db s).b [] g.c _ (db s).c (λa2 T H c=>?_) s.comms [] [] _ _ _ _ 0 rfl rfl (by simpa using h2) (by simp[db])
 exact yP s _ _ _ _ _ (db s).a (db s).b (db s).c g.d _ (db s).d rfl s.pols [] [] _ _ _ _ 0 rfl rfl (by simpa using h3) (by simp[db])
end Go.AM.IR
namespace Go.AM.IR
@[simp] theorem Zy {α:Type}(g:α->List UInt8)(l:List α):aa (l.map (ah∘g))=true:=by rw[<-List.map_map];exact sG _
theorem sC (r:RuleP)(h:r.ok):ab G 325 [.agg r.enc] [] ⟨.int .i64 (ruE r),[]⟩:=by
 have hv:ab G 178 [.agg [.int .u32 r.pfx.addr,.int .i64 r.pfx.len]] [] ⟨.bool (bz r.pfx),[]⟩:=fM r.pfx h.1;unfold ruE;cases hvp:bz r.pfx
 ·rw[hvp] at hv
  rw[Ac (by simp)]
  exact gvA (F:=oq)
 ·rw[hvp] at hv
  rw[Ad rfl]
  by_cases h1:r.min<r.pfx.len∨r.max<r.min∨r.max>32
  ·rw[Ad h1]
   refine gvC (F:=oq) ?_
   repeat' (first|refine bb ?_|(refine ae ?_ ?_<;>intro h))
   all_goals try (exfalso;omega)
   all_goals (refine ax ?_;rfl)
  ·rw[Ac h1]
   refine gvC (F:=oq) ?_
   repeat' (first|refine bb ?_|(refine ae ?_ ?_<;>intro h))
   all_goals try (exfalso;omega)
   all_goals (refine ax ?_;rfl)
theorem Ic (s:List UInt8)(h:s.length<2^32):ab G 516 [.str s] [] (pf (fu s)):=by
 rw[<-Ji];show (if s.length<2^32 then some (pf (m9 s)) else none)=_
 rw[Ad h]
theorem Zc (s:List UInt8)(h:s.length<2^32): ∃(k lo hi:Int)(l:List Rx),ab G 516 [.str s] [] ⟨.tup [.agg [.int .i64 k,.int .i64 lo,.int .i64 hi,.sl 4 (l.map Rx.enc)],.int .i64 (if (fu s).isSome then 0 else 2)],[]⟩:=by
 have h1:=Ic s h;cases hq:fu s with
 |none=>
  rw[hq] at h1;refine ⟨0,0,0,[],?_⟩;have e:=bx 0 0 0 [];have h2:ab G 516 [.str s] [] ⟨.tup [.agg rx0.enc,.int .i64 2],[]⟩:=h1;unfold rx0 at h2;rw[e] at h2;exact h2
 |some x=>
  rw[hq] at h1;obtain ⟨k,lo,hi,l⟩:=x;refine ⟨k,lo,hi,l,?_⟩;have h2:ab G 516 [.str s] [] ⟨.tup [.agg (Rx.mk k lo hi l).enc,.int .i64 0],[]⟩:=h1;rw[bx] at h2;exact h2
def eaE {α:Type}(nm:α->List UInt8)(sz:α->Nat)(chk:α->Int):List α->List α->Int
 |_,[]=>0
 |d,x::r=>if bq (d.map nm) (nm x)=0 then (if 64<sz x then 4 else if chk x=0 then eaE nm sz chk (d++[x]) r else chk x) else bq (d.map nm) (nm x)
theorem Iz (l:List RuleP)(h: ∀r∈l,r.ok)(hl:l.length<2^40)(i:Nat)(x:RuleP)(hx:l[i]? =some x):ab G 512 [.int .i64 (i:Int),.ref 0 0 0] [.cells [.sl 5 (l.map RuleP.enc)]] ⟨.int .i64 (ruE x),[(true,.cells [.sl 5 (l.map RuleP.enc)])]⟩:=by
 have m1:=ml l RuleP.enc;have hx1:(l.map RuleP.enc)[((i:Nat):Int).toNat]? =some x.enc:=by simp[hx]
 have hi:i<l.length:=(AC.1 hx).1;have h1:=sC x (h x (A4 hx));generalize ruE x=E at*;refine gvB (F:=Ul) ?_;refine fX1 ?_;rfl
theorem vT (l:List RuleP)(h: ∀r∈l,r.ok)(hl:l.length<2^40): ∀(rest done:List RuleP)(T:TV)(H:ap)(c:Nat)(n:Int)(e:l=done++rest)(hn:n=done.length),
  Ev G ⟨ue,⟨(8,.int .i64 n)::(1,.fn 512 [.ref 0 0 0])::(7,.int .i64 l.length)::T,(0,some (0,.cells [.sl 5 (l.map RuleP.enc)]))::H,c⟩,[.t 4],1⟩ ⟨.int .i64 (bj ruE rest),[(true,.cells [.sl 5 (l.map RuleP.enc)])]⟩
 | [],done,T,H,c,n,e,hn=>by
  have hd:=md0 e;refine evA ?_;refine fX1 ?_;rfl
 |x::r,done,T,H,c,n,e,hn=>by
  have hd:=md e;have h1:=Iz l h hl done.length x (by simp[e])
  rw[<-hn] at h1;have ih:=λT H c=>vT l h hl r (done++[x]) T H c (n+1) (by simp[e]) (by simp[hn])
  rw[bj];generalize ruE x=E at*
  by_cases h0:E=0
  ·subst h0
   rw[Ad rfl];refine evl ?_
   repeat' (first|refine bb ?_|refine kX [(0,_,_)] [] ⟨rfl,trivial⟩ trivial (h1) ?_|(refine ae ?_ ?_<;>intro h))
   refine au [8,1,7] [0] ?_;exact ih _ _ _
  ·rw[Ac h0]
   refine evl ?_
   repeat' (first|refine bb ?_|refine kX [(0,_,_)] [] ⟨rfl,trivial⟩ trivial (h1) ?_|(refine ae ?_ ?_<;>intro h))
   refine fX1 ?_;rfl
theorem IG (l:List RuleP)(h: ∀r∈l,r.ok)(hl:l.length<2^40):ab G 511 [.int .i64 l.length,.fn 512 [.ref 0 0 0]] [.cells [.sl 5 (l.map RuleP.enc)]] ⟨.int .i64 (bj ruE l),[(true,.cells [.sl 5 (l.map RuleP.enc)])]⟩:=by
 refine gvB (F:=xQ) ?_;refine au [8,1,7] [0] ?_;exact vT l h hl l [] _ _ _ 0 rfl rfl
theorem GU (s:PSet)(g:s.good)(i:Nat)(x:PList)(hx:s.prefixes[i]? =some x):ab G 509 [.int .i64 (i:Int),.ref 0 0 0] [.cells s.enc] ⟨.int .i64 x.rules.length,[(true,.cells s.enc)]⟩:=by
 have m1:=ml s.prefixes PList.enc;have m2:=ml x.rules RuleP.enc;have hx1:(s.prefixes.map PList.enc)[((i:Nat):Int).toNat]? =some x.enc:=by simp[hx]
 have hi:i<s.prefixes.length:=(AC.1 hx).1;have gl:=g.a;refine gvB (F:=Uo) ?_;refine fX1 ?_;rw[m2];rfl
theorem IX (s:PSet)(g:s.good)(i:Nat)(x:PList)(hx:s.prefixes[i]? =some x):ab G 510 [.int .i64 (i:Int),.ref 0 0 0] [.cells s.enc] ⟨.int .i64 (bj ruE x.rules),[(true,.cells s.enc)]⟩:=by
 have m1:=ml s.prefixes PList.enc;have m2:=ml x.rules RuleP.enc;have hx1:(s.prefixes.map PList.enc)[((i:Nat):Int).toNat]? =some x.enc:=by simp[hx]
 have hi:i<s.prefixes.length:=(AC.1 hx).1;have gl:=g.a;obtain ⟨q1,q2,q3⟩:=g.pre x (A4 hx);have h1:=IG x.rules q3 q2;rw[<-m2] at h1;generalize bj ruE x.rules=E at*;refine gvC (F:=Um) ?_
 repeat' (first|refine bb ?_|refine kX [(68,_,_)] [] ⟨rfl,trivial⟩ trivial (h1) ?_|(refine ae ?_ ?_<;>intro h))
 refine fX1 ?_;rfl
theorem Iy (l:List PathR)(h: ∀r∈l,r.pattern.length<2^32)(hl:l.length<2^40)(i:Nat)(x:PathR)(hx:l[i]? =some x):ab G 515 [.int .i64 (i:Int),.ref 0 0 0] [.cells [.sl 2 (l.map PathR.enc)]] ⟨.int .i64 (paE x),[(true,.cells [.sl 2 (l.map PathR.enc)])]⟩:=by
 have m1:=ml l PathR.enc;have hx1:(l.map PathR.enc)[((i:Nat):Int).toNat]? =some x.enc:=by simp[hx]
 have hi:i<l.length:=(AC.1 hx).1;obtain ⟨k0,lo0,hi0,l0,h1⟩:=Zc x.pattern (h x (A4 hx))
 change ab G 516 [.str x.pattern] [] ⟨.tup [_,.int .i64 (paE x)],[]⟩ at h1
 generalize paE x=E at*;refine gvB (F:=Ui) ?_;refine fX1 ?_;rfl
theorem vR (l:List PathR)(h: ∀r∈l,r.pattern.length<2^32)(hl:l.length<2^40): ∀(rest done:List PathR)(T:TV)(H:ap)(c:Nat)(n:Int)(e:l=done++rest)(hn:n=done.length),
  Ev G ⟨ue,⟨(8,.int .i64 n)::(1,.fn 515 [.ref 0 0 0])::(7,.int .i64 l.length)::T,(0,some (0,.cells [.sl 2 (l.map PathR.enc)]))::H,c⟩,[.t 4],1⟩ ⟨.int .i64 (bj paE rest),[(true,.cells [.sl 2 (l.map PathR.enc)])]⟩
 | [],done,T,H,c,n,e,hn=>by
  have hd:=md0 e;refine evA ?_;refine fX1 ?_;rfl
 |x::r,done,T,H,c,n,e,hn=>by
  have hd:=md e;have h1:=Iy l h hl done.length x (by simp[e])
  rw[<-hn] at h1;have ih:=λT H c=>vR l h hl r (done++[x]) T H c (n+1) (by simp[e]) (by simp[hn])
  rw[bj];generalize paE x=E at*
  by_cases h0:E=0
  ·subst h0
   rw[Ad rfl];refine evl ?_
   repeat' (first|refine bb ?_|refine kX [(0,_,_)] [] ⟨rfl,trivial⟩ trivial (h1) ?_|(refine ae ?_ ?_<;>intro h))
   refine au [8,1,7] [0] ?_;exact ih _ _ _
  ·rw[Ac h0]
   refine evl ?_
   repeat' (first|refine bb ?_|refine kX [(0,_,_)] [] ⟨rfl,trivial⟩ trivial (h1) ?_|(refine ae ?_ ?_<;>intro h))
   refine fX1 ?_;rfl
theorem IC (l:List PathR)(h: ∀r∈l,r.pattern.length<2^32)(hl:l.length<2^40):ab G 511 [.int .i64 l.length,.fn 515 [.ref 0 0 0]] [.cells [.sl 2 (l.map PathR.enc)]] ⟨.int .i64 (bj paE l),[(true,.cells [.sl 2 (l.map PathR.enc)])]⟩:=by
 refine gvB (F:=xQ) ?_;refine au [8,1,7] [0] ?_;exact vR l h hl l [] _ _ _ 0 rfl rfl
theorem GQ (s:PSet)(g:s.good)(i:Nat)(x:PathL)(hx:s.paths[i]? =some x):ab G 513 [.int .i64 (i:Int),.ref 0 0 0] [.cells s.enc] ⟨.int .i64 x.rules.length,[(true,.cells s.enc)]⟩:=by
 have m1:=ml s.paths PathL.enc;have m2:=ml x.rules PathR.enc;have hx1:(s.paths.map PathL.enc)[((i:Nat):Int).toNat]? =some x.enc:=by simp[hx]
 have hi:i<s.paths.length:=(AC.1 hx).1;have gl:=g.b;refine gvB (F:=Uk) ?_;refine fX1 ?_;rw[m2];rfl
theorem IW (s:PSet)(g:s.good)(i:Nat)(x:PathL)(hx:s.paths[i]? =some x):ab G 514 [.int .i64 (i:Int),.ref 0 0 0] [.cells s.enc] ⟨.int .i64 (bj paE x.rules),[(true,.cells s.enc)]⟩:=by
 have m1:=ml s.paths PathL.enc;have m2:=ml x.rules PathR.enc;have hx1:(s.paths.map PathL.enc)[((i:Nat):Int).toNat]? =some x.enc:=by simp[hx]
 have hi:i<s.paths.length:=(AC.1 hx).1;have gl:=g.b;obtain ⟨q1,q2,q3⟩:=g.pat x (A4 hx);have h1:=IC x.rules q3 q2;rw[<-m2] at h1;generalize bj paE x.rules=E at*;refine gvC (F:=Uj) ?_
 repeat' (first|refine bb ?_|refine kX [(68,_,_)] [] ⟨rfl,trivial⟩ trivial (h1) ?_|(refine ae ?_ ?_<;>intro h))
 refine fX1 ?_;rfl
theorem Ix (l:List ComR)(h: ∀r∈l,True)(hl:l.length<2^40)(i:Nat)(x:ComR)(hx:l[i]? =some x):ab G 519 [.int .i64 (i:Int),.ref 0 0 0] [.cells [.sl 3 (l.map ComR.enc)]] ⟨.int .i64 (dy x),[(true,.cells [.sl 3 (l.map ComR.enc)])]⟩:=by
 have m1:=ml l ComR.enc;have hx1:(l.map ComR.enc)[((i:Nat):Int).toNat]? =some x.enc:=by simp[hx]
 have hi:i<l.length:=(AC.1 hx).1;have h1:=rz x;generalize dy x=E at*;refine gvB (F:=Uf) ?_;refine fX1 ?_;rfl
theorem vQ (l:List ComR)(h: ∀r∈l,True)(hl:l.length<2^40): ∀(rest done:List ComR)(T:TV)(H:ap)(c:Nat)(n:Int)(e:l=done++rest)(hn:n=done.length),
  Ev G ⟨ue,⟨(8,.int .i64 n)::(1,.fn 519 [.ref 0 0 0])::(7,.int .i64 l.length)::T,(0,some (0,.cells [.sl 3 (l.map ComR.enc)]))::H,c⟩,[.t 4],1⟩ ⟨.int .i64 (bj dy rest),[(true,.cells [.sl 3 (l.map ComR.enc)])]⟩
 | [],done,T,H,c,n,e,hn=>by
  have hd:=md0 e;refine evA ?_;refine fX1 ?_;rfl
 |x::r,done,T,H,c,n,e,hn=>by
  have hd:=md e;have h1:=Ix l h hl done.length x (by simp[e])
  rw[<-hn] at h1;have ih:=λT H c=>vQ l h hl r (done++[x]) T H c (n+1) (by simp[e]) (by simp[hn])
  rw[bj];generalize dy x=E at*
  by_cases h0:E=0
  ·subst h0
   rw[Ad rfl];refine evl ?_
   repeat' (first|refine bb ?_|refine kX [(0,_,_)] [] ⟨rfl,trivial⟩ trivial (h1) ?_|(refine ae ?_ ?_<;>intro h))
   refine au [8,1,7] [0] ?_;exact ih _ _ _
  ·rw[Ac h0]
   refine evl ?_
   repeat' (first|refine bb ?_|refine kX [(0,_,_)] [] ⟨rfl,trivial⟩ trivial (h1) ?_|(refine ae ?_ ?_<;>intro h))
   refine fX1 ?_;rfl
theorem IB (l:List ComR)(h: ∀r∈l,True)(hl:l.length<2^40):ab G 511 [.int .i64 l.length,.fn 519 [.ref 0 0 0]] [.cells [.sl 3 (l.map ComR.enc)]] ⟨.int .i64 (bj dy l),[(true,.cells [.sl 3 (l.map ComR.enc)])]⟩:=by
 refine gvB (F:=xQ) ?_;refine au [8,1,7] [0] ?_;exact vQ l h hl l [] _ _ _ 0 rfl rfl
theorem GP (s:PSet)(g:s.good)(i:Nat)(x:ComL)(hx:s.comms[i]? =some x):ab G 517 [.int .i64 (i:Int),.ref 0 0 0] [.cells s.enc] ⟨.int .i64 x.rules.length,[(true,.cells s.enc)]⟩:=by
 have m1:=ml s.comms ComL.enc;have m2:=ml x.rules ComR.enc;have hx1:(s.comms.map ComL.enc)[((i:Nat):Int).toNat]? =some x.enc:=by simp[hx]
 have hi:i<s.comms.length:=(AC.1 hx).1;have gl:=g.c;refine gvB (F:=Uh) ?_;refine fX1 ?_;rw[m2];rfl
theorem IV (s:PSet)(g:s.good)(i:Nat)(x:ComL)(hx:s.comms[i]? =some x):ab G 518 [.int .i64 (i:Int),.ref 0 0 0] [.cells s.enc] ⟨.int .i64 (bj dy x.rules),[(true,.cells s.enc)]⟩:=by
 have m1:=ml s.comms ComL.enc;have m2:=ml x.rules ComR.enc;have hx1:(s.comms.map ComL.enc)[((i:Nat):Int).toNat]? =some x.enc:=by simp[hx]
 have hi:i<s.comms.length:=(AC.1 hx).1;have gl:=g.c;obtain ⟨q1,q2,q3⟩:=g.com x (A4 hx);have h1:=IB x.rules (λ_ _=>trivial) q2
 rw[<-m2] at h1;generalize bj dy x.rules=E at*;refine gvC (F:=Ug) ?_
 repeat' (first|refine bb ?_|refine kX [(68,_,_)] [] ⟨rfl,trivial⟩ trivial (h1) ?_|(refine ae ?_ ?_<;>intro h))
 refine fX1 ?_;rfl
theorem wg (s:PSet)(g:s.good): ∀(rest done:List PList)(T:TV)(H:ap)(c:Nat)(n:Int)(e:s.prefixes=done++rest)(hn:n=done.length),
  Ev G ⟨nY,⟨(16,.int .i64 n)::(2,.fn 510 [.ref 0 0 0])::(1,.fn 509 [.ref 0 0 0])::(0,.sl 1 ((s.prefixes.map PList.name).map ah))::(14,.sl 1 ((s.prefixes.map PList.name).map ah))::(15,.int .i64 s.prefixes.length)::T,(0,some (0,.cells s.enc))::H,c⟩,[.t 6],1⟩ ⟨.int .i64 (eaE PList.name (λx:PList=>x.rules.length) (λx=>bj ruE x.rules) done rest),[(true,.cells s.enc)]⟩
 | [],done,T,H,c,n,e,hn=>by
  have hd:=md0 e;refine evA ?_;refine fX1 ?_;rfl
 |x::r,done,T,H,c,n,e,hn=>by
  have hd:=md e;have gl:=g.a;have m1:((s.prefixes.map PList.name).map ah).length=s.prefixes.length:=by simp
  have hx:((s.prefixes.map PList.name).map ah)[n.toNat]? =some [.str x.name]:=by simp[e,hn,ah]
  obtain ⟨q1,q2,q3⟩:=g.pre x (by simp[e])
  have h2:ab G 577 [.sl 1 (List.take (n.toNat-0) (List.drop 0 ((s.prefixes.map PList.name).map ah))),.str x.name] [] ⟨.int .i64 (bq (done.map PList.name) x.name),[]⟩:=by
   have h:=cJ (done.map PList.name) x.name q1 (by simp;omega)
   have q:List.take (n.toNat-0) (List.drop 0 ((s.prefixes.map PList.name).map ah))=(done.map PList.name).map ah:=by
    rw[e,hn];simp
   rw[q];exact h
  have h3:=GU s g done.length x (by simp[e])
  have h4:=IX s g done.length x (by simp[e])
  rw[<-hn] at h3 h4;have ih:=λT H c=>wg s g r (done++[x]) T H c (n+1) (by simp[e]) (by simp[hn])
  rw[eaE];generalize bq (done.map PList.name) x.name=A at*
  by_cases a:A=0
  ·subst a
   rw[Ad rfl]
   by_cases b:64<x.rules.length
   ·rw[Ad b]
    refine evl ?_
    repeat' (first|refine bb ?_|refine kX [(0,_,_)] [] ⟨rfl,trivial⟩ trivial (h3) ?_|(refine ae ?_ ?_<;>intro h))
    refine fX1 ?_;rfl
   ·rw[Ac b]
    generalize bj ruE x.rules=E at*
    by_cases h0:E=0
    ·subst h0
     rw[Ad rfl];refine evl ?_
     repeat' (first|refine bb ?_|refine kX [(0,_,_)] [] ⟨rfl,trivial⟩ trivial (h3) ?_|refine kX [(0,_,_)] [] ⟨rfl,trivial⟩ trivial (h4) ?_|(refine ae ?_ ?_<;>intro h))
     refine au [16,2,1,0,14,15] [0] ?_;exact ih _ _ _
    ·rw[Ac h0]
     refine evl ?_
     repeat' (first|refine bb ?_|refine kX [(0,_,_)] [] ⟨rfl,trivial⟩ trivial (h3) ?_|refine kX [(0,_,_)] [] ⟨rfl,trivial⟩ trivial (h4) ?_|(refine ae ?_ ?_<;>intro h))
     refine fX1 ?_;rfl
  ·rw[Ac a]
   refine evA ?_;refine fX1 ?_;rfl
theorem IP (s:PSet)(g:s.good):ab G 508 [.sl 1 ((s.prefixes.map PList.name).map ah),.fn 509 [.ref 0 0 0],.fn 510 [.ref 0 0 0]] [.cells s.enc] ⟨.int .i64 (if 64<s.prefixes.length then 4 else eaE PList.name (λx:PList=>x.rules.length) (λx=>bj ruE x.rules) [] s.prefixes),[(true,.cells s.enc)]⟩:=by
 have gl:=g.a;have m1:((s.prefixes.map PList.name).map ah).length=s.prefixes.length:=by simp
 by_cases c:64<s.prefixes.length
 ·rw[Ad c]
  refine gvB (F:=nr) ?_;refine fX1 ?_;rfl
 ·rw[Ac c]
  refine gvB (F:=nr) ?_;refine au [16,2,1,0,14,15] [0] ?_;rw[m1];exact wg s g s.prefixes [] _ _ _ 0 rfl rfl
theorem we (s:PSet)(g:s.good): ∀(rest done:List PathL)(T:TV)(H:ap)(c:Nat)(n:Int)(e:s.paths=done++rest)(hn:n=done.length),
  Ev G ⟨nY,⟨(16,.int .i64 n)::(2,.fn 514 [.ref 0 0 0])::(1,.fn 513 [.ref 0 0 0])::(0,.sl 1 ((s.paths.map PathL.name).map ah))::(14,.sl 1 ((s.paths.map PathL.name).map ah))::(15,.int .i64 s.paths.length)::T,(0,some (0,.cells s.enc))::H,c⟩,[.t 6],1⟩ ⟨.int .i64 (eaE PathL.name (λx:PathL=>x.rules.length) (λx=>bj paE x.rules) done rest),[(true,.cells s.enc)]⟩
 | [],done,T,H,c,n,e,hn=>by
  have hd:=md0 e;refine evA ?_;refine fX1 ?_;rfl
 |x::r,done,T,H,c,n,e,hn=>by
  have hd:=md e;have gl:=g.b;have m1:((s.paths.map PathL.name).map ah).length=s.paths.length:=by simp
  have hx:((s.paths.map PathL.name).map ah)[n.toNat]? =some [.str x.name]:=by simp[e,hn,ah]
  obtain ⟨q1,q2,q3⟩:=g.pat x (by simp[e])
  have h2:ab G 577 [.sl 1 (List.take (n.toNat-0) (List.drop 0 ((s.paths.map PathL.name).map ah))),.str x.name] [] ⟨.int .i64 (bq (done.map PathL.name) x.name),[]⟩:=by
   have h:=cJ (done.map PathL.name) x.name q1 (by simp;omega)
   have q:List.take (n.toNat-0) (List.drop 0 ((s.paths.map PathL.name).map ah))=(done.map PathL.name).map ah:=by
    rw[e,hn];simp
   rw[q];exact h
  have h3:=GQ s g done.length x (by simp[e])
  have h4:=IW s g done.length x (by simp[e])
  rw[<-hn] at h3 h4;have ih:=λT H c=>we s g r (done++[x]) T H c (n+1) (by simp[e]) (by simp[hn])
  rw[eaE];generalize bq (done.map PathL.name) x.name=A at*
  by_cases a:A=0
  ·subst a
   rw[Ad rfl]
   by_cases b:64<x.rules.length
   ·rw[Ad b]
    refine evl ?_
    repeat' (first|refine bb ?_|refine kX [(0,_,_)] [] ⟨rfl,trivial⟩ trivial (h3) ?_|(refine ae ?_ ?_<;>intro h))
    refine fX1 ?_;rfl
   ·rw[Ac b]
    generalize bj paE x.rules=E at*
    by_cases h0:E=0
    ·subst h0
     rw[Ad rfl];refine evl ?_
     repeat' (first|refine bb ?_|refine kX [(0,_,_)] [] ⟨rfl,trivial⟩ trivial (h3) ?_|refine kX [(0,_,_)] [] ⟨rfl,trivial⟩ trivial (h4) ?_|(refine ae ?_ ?_<;>intro h))
     refine au [16,2,1,0,14,15] [0] ?_;exact ih _ _ _
    ·rw[Ac h0]
     refine evl ?_
     repeat' (first|refine bb ?_|refine kX [(0,_,_)] [] ⟨rfl,trivial⟩ trivial (h3) ?_|refine kX [(0,_,_)] [] ⟨rfl,trivial⟩ trivial (h4) ?_|(refine ae ?_ ?_<;>intro h))
     refine fX1 ?_;rfl
  ·rw[Ac a]
   refine evA ?_;refine fX1 ?_;rfl
theorem IM (s:PSet)(g:s.good):ab G 508 [.sl 1 ((s.paths.map PathL.name).map ah),.fn 513 [.ref 0 0 0],.fn 514 [.ref 0 0 0]] [.cells s.enc] ⟨.int .i64 (if 64<s.paths.length then 4 else eaE PathL.name (λx:PathL=>x.rules.length) (λx=>bj paE x.rules) [] s.paths),[(true,.cells s.enc)]⟩:=by
 have gl:=g.b;have m1:((s.paths.map PathL.name).map ah).length=s.paths.length:=by simp
 by_cases c:64<s.paths.length
 ·rw[Ad c]
  refine gvB (F:=nr) ?_;refine fX1 ?_;rfl
 ·rw[Ac c]
  refine gvB (F:=nr) ?_;refine au [16,2,1,0,14,15] [0] ?_;rw[m1];exact we s g s.paths [] _ _ _ 0 rfl rfl
theorem wd (s:PSet)(g:s.good): ∀(rest done:List ComL)(T:TV)(H:ap)(c:Nat)(n:Int)(e:s.comms=done++rest)(hn:n=done.length),
  Ev G ⟨nY,⟨(16,.int .i64 n)::(2,.fn 518 [.ref 0 0 0])::(1,.fn 517 [.ref 0 0 0])::(0,.sl 1 ((s.comms.map ComL.name).map ah))::(14,.sl 1 ((s.comms.map ComL.name).map ah))::(15,.int .i64 s.comms.length)::T,(0,some (0,.cells s.enc))::H,c⟩,[.t 6],1⟩ ⟨.int .i64 (eaE ComL.name (λx:ComL=>x.rules.length) (λx=>bj dy x.rules) done rest),[(true,.cells s.enc)]⟩
 | [],done,T,H,c,n,e,hn=>by
  have hd:=md0 e;refine evA ?_;refine fX1 ?_;rfl
 |x::r,done,T,H,c,n,e,hn=>by
  have hd:=md e;have gl:=g.c;have m1:((s.comms.map ComL.name).map ah).length=s.comms.length:=by simp
  have hx:((s.comms.map ComL.name).map ah)[n.toNat]? =some [.str x.name]:=by simp[e,hn,ah]
  obtain ⟨q1,q2,q3⟩:=g.com x (by simp[e])
  have h2:ab G 577 [.sl 1 (List.take (n.toNat-0) (List.drop 0 ((s.comms.map ComL.name).map ah))),.str x.name] [] ⟨.int .i64 (bq (done.map ComL.name) x.name),[]⟩:=by
   have h:=cJ (done.map ComL.name) x.name q1 (by simp;omega)
   have q:List.take (n.toNat-0) (List.drop 0 ((s.comms.map ComL.name).map ah))=(done.map ComL.name).map ah:=by
    rw[e,hn];simp
   rw[q];exact h
  have h3:=GP s g done.length x (by simp[e])
  have h4:=IV s g done.length x (by simp[e])
  rw[<-hn] at h3 h4;have ih:=λT H c=>wd s g r (done++[x]) T H c (n+1) (by simp[e]) (by simp[hn])
  rw[eaE];generalize bq (done.map ComL.name) x.name=A at*
  by_cases a:A=0
  ·subst a
   rw[Ad rfl]
   by_cases b:64<x.rules.length
   ·rw[Ad b]
    refine evl ?_
    repeat' (first|refine bb ?_|refine kX [(0,_,_)] [] ⟨rfl,trivial⟩ trivial (h3) ?_|(refine ae ?_ ?_<;>intro h))
    refine fX1 ?_;rfl
   ·rw[Ac b]
    generalize bj dy x.rules=E at*
    by_cases h0:E=0
    ·subst h0
     rw[Ad rfl];refine evl ?_
     repeat' (first|refine bb ?_|refine kX [(0,_,_)] [] ⟨rfl,trivial⟩ trivial (h3) ?_|refine kX [(0,_,_)] [] ⟨rfl,trivial⟩ trivial (h4) ?_|(refine ae ?_ ?_<;>intro h))
     refine au [16,2,1,0,14,15] [0] ?_;exact ih _ _ _
    ·rw[Ac h0]
     refine evl ?_
     repeat' (first|refine bb ?_|refine kX [(0,_,_)] [] ⟨rfl,trivial⟩ trivial (h3) ?_|refine kX [(0,_,_)] [] ⟨rfl,trivial⟩ trivial (h4) ?_|(refine ae ?_ ?_<;>intro h))
     refine fX1 ?_;rfl
  ·rw[Ac a]
   refine evA ?_;refine fX1 ?_;rfl
theorem IL (s:PSet)(g:s.good):ab G 508 [.sl 1 ((s.comms.map ComL.name).map ah),.fn 517 [.ref 0 0 0],.fn 518 [.ref 0 0 0]] [.cells s.enc] ⟨.int .i64 (if 64<s.comms.length then 4 else eaE ComL.name (λx:ComL=>x.rules.length) (λx=>bj dy x.rules) [] s.comms),[(true,.cells s.enc)]⟩:=by
 have gl:=g.c;have m1:((s.comms.map ComL.name).map ah).length=s.comms.length:=by simp
 by_cases c:64<s.comms.length
 ·rw[Ad c]
  refine gvB (F:=nr) ?_;refine fX1 ?_;rfl
 ·rw[Ac c]
  refine gvB (F:=nr) ?_;refine au [16,2,1,0,14,15] [0] ?_;rw[m1];exact wd s g s.comms [] _ _ _ 0 rfl rfl
end Go.AM.IR
namespace Go.AM.IR
def qz:List UInt8:=[112,114,101,102,105,120,45,108,105,115,116,32]
def qB:List UInt8:=[112,97,116,104,45,108,105,115,116,32]
def qD:List UInt8:=[99,111,109,109,117,110,105,116,121,45,108,105,115,116,32]
def YT:List UInt8:=[112,114,111,116,111,99,111,108,32]
def JX:List UInt8:=[116,97,103,32]
def JZ:List UInt8:=[109,101,116,114,105,99,32]
def wC:List UInt8:=[110,101,120,116,45,104,111,112,32]
def YV:List UInt8:=[112,97,116,104,45,108,101,110,103,116,104,32]
def Vk:List UInt8:=[112,114,101,102,32]
def YX:List UInt8:=[109,101,100,32]
def YZ:List UInt8:=[97,100,100,32]
def YY:List UInt8:=[100,101,108,101,116,101,32]
def YU:List UInt8:=[112,114,101,112,101,110,100,32]
def wPermit:List UInt8:=[112,101,114,109,105,116,32]
def wDeny:List UInt8:=[100,101,110,121,32]
def Y6:List UInt8:=[97,99,99,101,112,116]
def YQ:List UInt8:=[114,101,106,101,99,116]
def YW:List UInt8:=[110,101,120,116]
def wC0:List UInt8:=[103,114,97,99,101,102,117,108,45,115,104,117,116,100,111,119,110]
def wC1:List UInt8:=[110,111,45,101,120,112,111,114,116]
def wC2:List UInt8:=[110,111,45,97,100,118,101,114,116,105,115,101]
def wC3:List UInt8:=[110,111,45,101,120,112,111,114,116,45,99,111,110,102,101,100]
def mc (x:Nat):List UInt8:=if (x:Int)=4294901760 then wC0 else if (x:Int)=4294967041 then wC1 else if (x:Int)=4294967042 then wC2 else if (x:Int)=4294967043 then wC3 else aw ((x/ 65536:Nat):Int)++58::aw ((x % 65536:Nat):Int)
theorem Fu (x:Nat):(mc x).length<=43:=by
 unfold mc;have h1:=b7 ((x/ 65536:Nat):Int);have h2:=b7 ((x % 65536:Nat):Int)
 repeat' split
 all_goals first|decide|(simp only[Ar,As];omega)
section
variable {k:AV->Prop}
theorem ab6 {x:Nat}(hx:x<4294967296)(h:k (.int .u32 ((x % 65536:Nat):Int))): ∃v,bt .and (.int .u32 (x:Int)) (.int .u32 65535)=some v/\k v:=
 ⟨_,by
  show some (AV.int .u32 (intBits .and .u32 (x:Int) ((65535:Nat):Int)))=_
  rw[su x 65535 hx (by omega),show (65535:Nat)=2^16-1 from rfl,Nat.and_two_pow_sub_one_eq_mod],h⟩
end
theorem UM (x:Nat)(hx:x<4294967296)(T:TV)(H:ap)(c g:Nat):
  Ev G ⟨nq,⟨(12,.int .i64 4)::(11,.agg [.int .u32 4294901760,.int .u32 4294967041,.int .u32 4294967042,.int .u32 4294967043])::(4,.ref 68 g 0)::(0,.int .u32 (x:Int))::T,(68,some (g,.cells [.str [103,114,97,99,101,102,117,108,45,115,104,117,116,100,111,119,110],.str [110,111,45,101,120,112,111,114,116],.str [110,111,45,97,100,118,101,114,116,105,115,101],.str [110,111,45,101,120,112,111,114,116,45,99,111,110,102,101,100]]))::H,c⟩,[.t 2],0⟩ ⟨.str (aw ((x/ 65536:Nat):Int)++58::aw ((x % 65536:Nat):Int)),[]⟩:=by
 have d1:=dec_gives337 (n:=((x/ 65536:Nat):Int)) (by unfold okI;omega)
 have d2:=dec_gives337 (n:=((x % 65536:Nat):Int)) (by unfold okI;omega)
 have l1:=b7 ((x/ 65536:Nat):Int);have l2:=b7 ((x % 65536:Nat):Int);generalize aw ((x/ 65536:Nat):Int)=a at*;generalize aw ((x % 65536:Nat):Int)=b at*;refine evl ?_
 repeat' ((conv=>whnf);first|refine zShrC 65536 ?_ (by rfl) (by omega) (by omega)|refine ab6 hx ?_|refine eu ?_|refine aq ?_|(refine ae ?_ ?_<;>intro h))
 refine ax ?_;simp
theorem UO (x:Nat)(hx:x<4294967296)(T:TV)(H:ap)(c g:Nat):
  Ev G ⟨nq,⟨(12,.int .i64 3)::(11,.agg [.int .u32 4294901760,.int .u32 4294967041,.int .u32 4294967042,.int .u32 4294967043])::(4,.ref 68 g 0)::(0,.int .u32 (x:Int))::T,(68,some (g,.cells [.str [103,114,97,99,101,102,117,108,45,115,104,117,116,100,111,119,110],.str [110,111,45,101,120,112,111,114,116],.str [110,111,45,97,100,118,101,114,116,105,115,101],.str [110,111,45,101,120,112,111,114,116,45,99,111,110,102,101,100]]))::H,c⟩,[.t 2],0⟩ ⟨.str (if (x:Int)=4294967043 then wC3 else aw ((x/ 65536:Nat):Int)++58::aw ((x % 65536:Nat):Int)),[]⟩:=by
 have ih:=λT H c=>UM x hx T H c g
 by_cases e:(x:Int)=4294967043
 ·rw[Ad e]
  refine evl ?_
  repeat' ((conv=>whnf);first|refine nH e ?_|refine aq ?_|(refine ae ?_ ?_<;>intro h))
  refine ax ?_;rfl
 ·rw[Ac e]
  refine evl ?_
  repeat' ((conv=>whnf);first|refine iR e ?_|refine aq ?_|(refine ae ?_ ?_<;>intro h))
  refine au [12,11,4,0] [68] ?_;exact ih _ _ _
theorem UQ (x:Nat)(hx:x<4294967296)(T:TV)(H:ap)(c g:Nat):
  Ev G ⟨nq,⟨(12,.int .i64 2)::(11,.agg [.int .u32 4294901760,.int .u32 4294967041,.int .u32 4294967042,.int .u32 4294967043])::(4,.ref 68 g 0)::(0,.int .u32 (x:Int))::T,(68,some (g,.cells [.str [103,114,97,99,101,102,117,108,45,115,104,117,116,100,111,119,110],.str [110,111,45,101,120,112,111,114,116],.str [110,111,45,97,100,118,101,114,116,105,115,101],.str [110,111,45,101,120,112,111,114,116,45,99,111,110,102,101,100]]))::H,c⟩,[.t 2],0⟩ ⟨.str (if (x:Int)=4294967042 then wC2 else if (x:Int)=4294967043 then wC3 else aw ((x/ 65536:Nat):Int)++58::aw ((x % 65536:Nat):Int)),[]⟩:=by
 have ih:=λT H c=>UO x hx T H c g
 by_cases e:(x:Int)=4294967042
 ·rw[Ad e]
  refine evl ?_
  repeat' ((conv=>whnf);first|refine nH e ?_|refine aq ?_|(refine ae ?_ ?_<;>intro h))
  refine ax ?_;rfl
 ·rw[Ac e]
  refine evl ?_
  repeat' ((conv=>whnf);first|refine iR e ?_|refine aq ?_|(refine ae ?_ ?_<;>intro h))
  refine au [12,11,4,0] [68] ?_;exact ih _ _ _
theorem UR (x:Nat)(hx:x<4294967296)(T:TV)(H:ap)(c g:Nat):
  Ev G ⟨nq,⟨(12,.int .i64 1)::(11,.agg [.int .u32 4294901760,.int .u32 4294967041,.int .u32 4294967042,.int .u32 4294967043])::(4,.ref 68 g 0)::(0,.int .u32 (x:Int))::T,(68,some (g,.cells [.str [103,114,97,99,101,102,117,108,45,115,104,117,116,100,111,119,110],.str [110,111,45,101,120,112,111,114,116],.str [110,111,45,97,100,118,101,114,116,105,115,101],.str [110,111,45,101,120,112,111,114,116,45,99,111,110,102,101,100]]))::H,c⟩,[.t 2],0⟩ ⟨.str (if (x:Int)=4294967041 then wC1 else if (x:Int)=4294967042 then wC2 else if (x:Int)=4294967043 then wC3 else aw ((x/ 65536:Nat):Int)++58::aw ((x % 65536:Nat):Int)),[]⟩:=by
 have ih:=λT H c=>UQ x hx T H c g
 by_cases e:(x:Int)=4294967041
 ·rw[Ad e]
  refine evl ?_
  repeat' ((conv=>whnf);first|refine nH e ?_|refine aq ?_|(refine ae ?_ ?_<;>intro h))
  refine ax ?_;rfl
 ·rw[Ac e]
  refine evl ?_
  repeat' ((conv=>whnf);first|refine iR e ?_|refine aq ?_|(refine ae ?_ ?_<;>intro h))
  refine au [12,11,4,0] [68] ?_;exact ih _ _ _
theorem UT (x:Nat)(hx:x<4294967296)(T:TV)(H:ap)(c g:Nat):
  Ev G ⟨nq,⟨(12,.int .i64 0)::(11,.agg [.int .u32 4294901760,.int .u32 4294967041,.int .u32 4294967042,.int .u32 4294967043])::(4,.ref 68 g 0)::(0,.int .u32 (x:Int))::T,(68,some (g,.cells [.str [103,114,97,99,101,102,117,108,45,115,104,117,116,100,111,119,110],.str [110,111,45,101,120,112,111,114,116],.str [110,111,45,97,100,118,101,114,116,105,115,101],.str [110,111,45,101,120,112,111,114,116,45,99,111,110,102,101,100]]))::H,c⟩,[.t 2],0⟩ ⟨.str (if (x:Int)=4294901760 then wC0 else if (x:Int)=4294967041 then wC1 else if (x:Int)=4294967042 then wC2 else if (x:Int)=4294967043 then wC3 else aw ((x/ 65536:Nat):Int)++58::aw ((x % 65536:Nat):Int)),[]⟩:=by
 have ih:=λT H c=>UR x hx T H c g
 by_cases e:(x:Int)=4294901760
 ·rw[Ad e]
  refine evl ?_
  repeat' ((conv=>whnf);first|refine nH e ?_|refine aq ?_|(refine ae ?_ ?_<;>intro h))
  refine ax ?_;rfl
 ·rw[Ac e]
  refine evl ?_
  repeat' ((conv=>whnf);first|refine iR e ?_|refine aq ?_|(refine ae ?_ ?_<;>intro h))
  refine au [12,11,4,0] [68] ?_;exact ih _ _ _
theorem ry (x:Nat)(hx:x<4294967296):ab G 583 [.int .u32 (x:Int)] [] ⟨.str (mc x),[]⟩:=by
 have h:ab G 628 [] [] ⟨.tup [.agg [.int .u32 4294901760,.int .u32 4294967041,.int .u32 4294967042,.int .u32 4294967043],.agg [.str [103,114,97,99,101,102,117,108,45,115,104,117,116,100,111,119,110],.str [110,111,45,101,120,112,111,114,116],.str [110,111,45,97,100,118,101,114,116,105,115,101],.str [110,111,45,101,120,112,111,114,116,45,99,111,110,102,101,100]]],[]⟩:=y6 100 rfl rfl rfl;refine gvB (F:=Lw) ?_;refine au [12,11,4,0] [68] ?_;exact UT x hx _ _ _ _
def nh (m:Mat):List UInt8:=if m.kind=1 then qz++m.name else if m.kind=2 then qB++m.name else if m.kind=3 then qD++m.name else if m.kind=4 then YT++aw m.n else if m.kind=5 then JX++aw m.n else if m.kind=6 then JZ++aw m.n else if m.kind=7 then wC++pfT m.pfx else YV++aw m.n
def ox (a:Actn):List UInt8:=if a.kind=1 then Vk++aw a.n else if a.kind=2 then YX++aw a.n else if a.kind=3 then JZ++aw a.n else if a.kind=4 then JX++aw a.n else if a.kind=5 then wC++dots a.addr.toNat else if a.kind=6 then YZ++mc a.com.toNat else if a.kind=7 then YY++mc a.com.toNat else YU++(aw a.asn++32::aw a.n)
theorem Dw (m:Mat)(h:m.ok)(hl:m.name.length<2^40):ab G 524 [.agg m.enc] [] ⟨.str (nh m),[]⟩:=by
 have d:=dec_gives337 h.2.1;have t:ab G 229 [.agg m.pfx.enc] [] ⟨.str (pfT m.pfx),[]⟩:=text_gives229 m.pfx h.2.2;have ld:=b7 m.n;have lt:=Xd m.pfx h.2.2;unfold nh;clear h;generalize pfT m.pfx=p at*;generalize aw m.n=dn at*;refine gvC (F:=Ub) ?_
 repeat' ((conv=>whnf);first|refine eu ?_|refine aq ?_|(refine ae ?_ ?_<;>intro h))
 all_goals (refine ax ?_;simp[*,qz,qB,qD,YT,JX,JZ,wC,YV])
theorem Gp (a:Actn)(h:a.ok):ab G 525 [.agg a.enc] [] ⟨.str (ox a),[]⟩:=by
 obtain ⟨h0,h1,h2,h3,h4⟩:=h;obtain ⟨ea,ha⟩:=nat_of h4;obtain ⟨ec,hc⟩:=nat_of h3;have d:=dec_gives337 h1;have d2:=dec_gives337 h2;have ta:=addr_gives227 a.addr.toNat ha;have tc:=ry a.com.toNat hc;rw[<-ea] at ta;rw[<-ec] at tc;have l1:=b7 a.n;have l2:=b7 a.asn;have l3:=dots_len ha;have l4:=Fu a.com.toNat;clear ea ha ec hc h0 h1 h2 h3 h4;unfold ox;generalize aw a.n=dn at*;generalize aw a.asn=da at*;generalize dots a.addr.toNat=dt at*;generalize mc a.com.toNat=ct at*;refine gvC (F:=Ua) ?_
 repeat' ((conv=>whnf);first|refine eu ?_|refine aq ?_|(refine ae ?_ ?_<;>intro h))
 all_goals (refine ax ?_;simp[*,Vk,YX,JZ,JX,wC,YZ,YY,YU])
def iM (v:Int):List UInt8:=if v=1 then Y6 else if v=2 then YQ else YW
theorem o0 (v:Int):(iM v).length<=6:=by
 unfold iM
 repeat' split
 all_goals decide
theorem qE (v:Int):ab G 526 [.int .i64 v] [] ⟨.str (iM v),[]⟩:=by
 unfold iM;refine gvC (F:=T8) ?_
 repeat' (first|refine bb ?_|(refine ae ?_ ?_<;>intro h))
 all_goals (refine ax ?_;simp[*,Y6,YQ,YW])
def nb (b:Bool):List UInt8:=bif b then wPermit else wDeny
theorem tz (b:Bool):(nb b).length<=7:=by cases b<;>decide
theorem qQ (b:Bool):ab G 452 [.bool b] [] ⟨.str (nb b),[]⟩:=by
 cases b
 ·exact gvA (F:=LF)
 ·exact gvA (F:=LF)
def kr (n:Int):List UInt8:=if n<0 then [42] else aw n
theorem DK (n:Int):(kr n).length<=21:=by
 unfold kr;split
 ·decide
 ·exact b7 n
theorem rh {n:Int}(h:okI n):ab G 453 [.int .i64 n] [] ⟨.str (kr n),[]⟩:=by
 have d:=dec_gives337 h;unfold kr
 by_cases e:n<0
 ·rw[Ad e]
  exact gvA (F:=LC)
 ·rw[Ac e]
  generalize aw n=t at*;exact gvA (F:=LC)
theorem WA {r:RuleP}(h:ruE r=0):bz r.pfx=true/\r.pfx.len<=r.min/\r.min<=r.max/\r.max<=32/\0<=r.pfx.len:=by
 unfold ruE at h;split at h
 ·rename_i v
  have:=validP_len v;split at h
  ·cases h
  ·exact ⟨v,by omega,by omega,by omega,by omega⟩
 ·cases h
def rng (a b:Int):List UInt8:=aw a++45::aw b
def rtail (r:RuleP):List UInt8:=if r.min≠r.pfx.len∨r.max≠r.pfx.len then 32::rng r.min r.max else []
def rtext (r:RuleP):List UInt8:=nb r.permit++(ptext r.pfx.addr.toNat r.pfx.len.toNat++rtail r)
def txR (r:RuleP):Ret:=if ruE r=0 then ⟨.tup [.str (rtext r),.int .i64 0],[]⟩ else ⟨.tup [.str [],.int .i64 (ruE r)],[]⟩
theorem nat32 {x:Int}(h0:0<=x)(h1:x<=32): ∃k:Nat,x=k/\k<=32:=⟨x.toNat,by omega,by omega⟩
theorem text_gives332 (r:RuleP)(h:r.ok):ab G 332 [.agg r.enc] [] (txR r):=by
 have hc:=sC r h;unfold txR
 by_cases h0:ruE r=0
 ·rw[h0] at hc
  obtain ⟨v,m1,m2,m3,m0⟩:=WA h0;rw[Ad h0];have ht:=text_gives229 r.pfx h.1;rw[Ad v] at ht;obtain ⟨_,hx⟩:=nat_of h.1.addr;have hl:=ptext_len (n:=r.pfx.len.toNat) hx (by omega)
  obtain ⟨a,ea,ha⟩:=nat32 (x:=r.min) (by omega) (by omega)
  obtain ⟨b,eb,hb⟩:=nat32 (x:=r.max) (by omega) (by omega)
  have d1:=dec_gives337 (n:=(a:Int)) (by unfold okI;omega)
  have d2:=dec_gives337 (n:=(b:Int)) (by unfold okI;omega)
  have l1:=b7 (a:Int);have l2:=b7 (b:Int);clear h h0 v hx m0 m1 m2 m3;unfold rtext rtail rng;obtain ⟨p,⟨x,n⟩,mn,mx⟩:=r;simp only at*;subst ea eb;generalize ptext x.toNat n.toNat=t at*;generalize aw (a:Int)=ta at*;generalize aw (b:Int)=tb at*;refine gvC (F:=nu) ?_
  repeat' ((conv=>whnf);first|refine eu ?_|refine aq ?_|(refine ae ?_ ?_<;>intro h))
  all_goals (refine ax ?_;(try simp only at*);simp[nb,wDeny,wPermit, *])
 ·rw[Ac h0]
  generalize ruE r=k at*;exact gvA (F:=nu)
end Go.AM.IR
namespace Go.AM.IR
theorem eW (e1 e2 e3 e4:List (List AV))(p1:aa e1=true)(p2:aa e2=true)(p3:aa e3=true)(p4:aa e4=true)(k1 k2 k3 k4:List (List UInt8))(so:Int)(trm:Bool)(nm:List UInt8)(df:Int)(n:Nat)(hn:n=e4.length+1)(l4:e4.length<2^30)(ts:List Trm)(lt:ts.length<2^30):ab G 591 [.ref 0 0 0] (bP e1.length e2.length e3.length n so true trm e1 e2 e3 (e4++[[AV.str nm,AV.vs 9 0 ts.length,AV.int .i64 df]]) k1 k2 k3 k4 [.vec 4 (ts.map Trm.enc)]) ⟨.er 4 0 ((n:Int)-1).toNat 0,rP e1.length e2.length e3.length n so true trm (.vec 2 e1) (.vec 2 e2) (.vec 2 e3) (.nest 3 e4 [[AV.str nm,AV.vs 9 0 ts.length,AV.int .i64 df]]) k1 k2 k3 k4 [(true,.vec 4 (ts.map Trm.enc))]⟩:=by
 unfold bP rP;refine gvB (F:=Ll) ?_
 (first|refine cG pzC [] [true,true,true,true,true,true,true,true,true,true] ?_|refine cH pzC [] [true,true,true,true,true,true,true,true,true,true] ?_)
 rfl
theorem bW (e1 e2 e3 e4:List (List AV))(p1:aa e1=true)(p2:aa e2=true)(p3:aa e3=true)(p4:aa e4=true)(k1 k2 k3 k4:List (List UInt8))(so:Int)(trm:Bool)(nm:List UInt8)(df:Int)(n:Nat)(hn:n=e4.length+1)(l4:e4.length<2^30)(ts:List Trm)(lt:ts.length<2^30)(tn:List UInt8)(ms:List Mat)(lm:ms.length<2^30)(acs:List Actn)(la:acs.length<2^30)(vd:Int)(m:Nat)(hm:m=ts.length+1):ab G 591 [.ref 0 0 0] (bP e1.length e2.length e3.length n so true trm e1 e2 e3 (e4++[[AV.str nm,AV.vs 9 0 m,AV.int .i64 df]]) k1 k2 k3 k4 [.vec 4 (ts.map Trm.enc++[[AV.str tn,AV.vs 10 0 ms.length,AV.vs 11 0 acs.length,AV.int .i64 vd]]),.vec 6 (ms.map Mat.enc),.vec 5 (acs.map Actn.enc)]) ⟨.er 4 0 ((n:Int)-1).toNat 0,rP e1.length e2.length e3.length n so true trm (.vec 2 e1) (.vec 2 e2) (.vec 2 e3) (.nest 3 e4 [[AV.str nm,AV.vs 9 0 m,AV.int .i64 df]]) k1 k2 k3 k4 [(true,.nest 4 (ts.map Trm.enc) [[AV.str tn,AV.vs 10 0 ms.length,AV.vs 11 0 acs.length,AV.int .i64 vd]]),(true,.vec 6 (ms.map Mat.enc)),(true,.vec 5 (acs.map Actn.enc))]⟩:=by
 unfold bP rP;refine gvB (F:=Ll) ?_
 (first|refine cG pzD [] [true,true,true,true,true,true,true,true,true,true,true,true] ?_|refine cH pzD [] [true,true,true,true,true,true,true,true,true,true,true,true] ?_)
 rfl
theorem yZ (t:List UInt8)(h:t.length<2^40):Trm.goodT ⟨t,[],[],1⟩:=by
 constructor<;>simp<;>omega
def fF:List UInt8:=[100,101,102,97,117,108,116,32,97,99,99,101,112,116]
def fE:List UInt8:=[100,101,102,97,117,108,116,32,114,101,106,101,99,116]
def dX:List UInt8:=[116,101,114,109]
theorem acB (e1 e2 e3 e4:List (List AV))(p1:aa e1=true)(p2:aa e2=true)(p3:aa e3=true)(p4:aa e4=true)(k1 k2 k3 k4:List (List UInt8))(so:Int)(trm:Bool)(nm:List UInt8)(df:Int)(n:Nat)(hn:n=e4.length+1)(l4:e4.length<2^30)(ts:List Trm)(lt:ts.length<2^30):ab G 543 [.ref 0 0 0,.str fF] (bP e1.length e2.length e3.length n so true trm e1 e2 e3 (e4++[[AV.str nm,AV.vs 9 0 ts.length,AV.int .i64 df]]) k1 k2 k3 k4 [.vec 4 (ts.map Trm.enc)]) ⟨.tup [],rP e1.length e2.length e3.length n so false trm (.vec 2 e1) (.vec 2 e2) (.vec 2 e3) (.nest 3 e4 [[AV.str nm,AV.vs 9 0 ts.length,AV.int .i64 1]]) k1 k2 k3 k4 [(true,.vec 4 (ts.map Trm.enc))]⟩:=by
 unfold bP rP;have h0:=am fF (by decide)
 have hL:=eW e1 e2 e3 e4 p1 p2 p3 p4 k1 k2 k3 k4 so trm nm df n hn l4 ts lt;have hx: ∀x:List AV,(e4++[x])[((n:Int)-1).toNat]? =some x:=λx=>by rw[hn];simp
 have hset: ∀y x:List AV,(e4++[y]).set ((n:Int)-1).toNat x=e4++[x]:=λy x=>by rw[hn];simp
 unfold fF at*;generalize ag _=ct at*;obtain ⟨w,t⟩:=ct;dsimp only at*;refine gvB (F:=p8) ?_
 (conv=>whnf)
 refine kP pzC [] ⟨rfl,rfl,rfl,rfl,rfl,rfl,rfl,rfl,rfl,rfl,trivial⟩ trivial hL ?_
 repeat' ((conv=>whnf);first|refine bf ?_|refine xr (hx _) ?_|refine aq ?_|(refine ae ?_ ?_<;>intro h))
 (conv=>whnf)
 rw[hset]
 (first|refine cG pzC [] [true,true,true,true,true,true,true,true,true,true] ?_|refine cH pzC [] [true,true,true,true,true,true,true,true,true,true] ?_)
 rfl
theorem acA (e1 e2 e3 e4:List (List AV))(p1:aa e1=true)(p2:aa e2=true)(p3:aa e3=true)(p4:aa e4=true)(k1 k2 k3 k4:List (List UInt8))(so:Int)(trm:Bool)(nm:List UInt8)(df:Int)(n:Nat)(hn:n=e4.length+1)(l4:e4.length<2^30)(ts:List Trm)(lt:ts.length<2^30):ab G 543 [.ref 0 0 0,.str fE] (bP e1.length e2.length e3.length n so true trm e1 e2 e3 (e4++[[AV.str nm,AV.vs 9 0 ts.length,AV.int .i64 df]]) k1 k2 k3 k4 [.vec 4 (ts.map Trm.enc)]) ⟨.tup [],rP e1.length e2.length e3.length n so false trm (.vec 2 e1) (.vec 2 e2) (.vec 2 e3) (.nest 3 e4 [[AV.str nm,AV.vs 9 0 ts.length,AV.int .i64 2]]) k1 k2 k3 k4 [(true,.vec 4 (ts.map Trm.enc))]⟩:=by
 unfold bP rP;have h0:=am fE (by decide)
 have hL:=eW e1 e2 e3 e4 p1 p2 p3 p4 k1 k2 k3 k4 so trm nm df n hn l4 ts lt;have hx: ∀x:List AV,(e4++[x])[((n:Int)-1).toNat]? =some x:=λx=>by rw[hn];simp
 have hset: ∀y x:List AV,(e4++[y]).set ((n:Int)-1).toNat x=e4++[x]:=λy x=>by rw[hn];simp
 unfold fE at*;generalize ag _=ct at*;obtain ⟨w,t⟩:=ct;dsimp only at*;refine gvB (F:=p8) ?_
 (conv=>whnf)
 refine kP pzC [] ⟨rfl,rfl,rfl,rfl,rfl,rfl,rfl,rfl,rfl,rfl,trivial⟩ trivial hL ?_
 repeat' ((conv=>whnf);first|refine aQ (by decide) ?_|refine bf ?_|refine xr (hx _) ?_|refine aq ?_|(refine ae ?_ ?_<;>intro h))
 (conv=>whnf)
 rw[hset]
 (first|refine cG pzC [] [true,true,true,true,true,true,true,true,true,true] ?_|refine cH pzC [] [true,true,true,true,true,true,true,true,true,true] ?_)
 rfl
theorem Yy (e1 e2 e3 e4:List (List AV))(p1:aa e1=true)(p2:aa e2=true)(p3:aa e3=true)(p4:aa e4=true)(k1 k2 k3 k4:List (List UInt8))(so:Int)(trm:Bool)(nm:List UInt8)(df:Int)(n:Nat)(hn:n=e4.length+1)(l4:e4.length<2^30)(ts:List Trm)(lt:ts.length<2^30)(s:List UInt8)(hs:s.length<4294967281)(d1:s≠fF)(d2:s≠fE)(hw:(ag s).1≠dX):ab G 543 [.ref 0 0 0,.str s] (bP e1.length e2.length e3.length n so true trm e1 e2 e3 (e4++[[AV.str nm,AV.vs 9 0 ts.length,AV.int .i64 df]]) k1 k2 k3 k4 [.vec 4 (ts.map Trm.enc)]) ⟨pnV (.ifc 138 (.agg [.int .i64 2])),rP e1.length e2.length e3.length n so true trm (.vec 2 e1) (.vec 2 e2) (.vec 2 e3) (.nest 3 e4 [[AV.str nm,AV.vs 9 0 ts.length,AV.int .i64 df]]) k1 k2 k3 k4 [(true,.vec 4 (ts.map Trm.enc))]⟩:=by
 unfold bP rP;have h0:=am s (by omega)
 have hL:=eW e1 e2 e3 e4 p1 p2 p3 p4 k1 k2 k3 k4 so trm nm df n hn l4 ts lt;unfold fF at d1;unfold fE at d2;generalize ag s=ct at*;obtain ⟨w,t⟩:=ct;dsimp only at*;unfold dX at hw;have h2:=λ(_:True)=>aM false
 refine gvB (F:=p8) ?_
 (conv=>whnf)
 refine kP pzC [] ⟨rfl,rfl,rfl,rfl,rfl,rfl,rfl,rfl,rfl,rfl,trivial⟩ trivial hL ?_
 repeat' ((conv=>whnf);first|refine aQ d1 ?_|refine aQ d2 ?_|refine aQ hw ?_|refine aq ?_|(refine ae ?_ ?_<;>intro h))
 (conv=>whnf)
 refine CallG.stop ?_;refine aG 586 (h2 trivial) (λQ hr hg=>?_)
 refine kV hg ?_;refine bl pzC [] [true,true,true,true,true,true,true,true,true,true] ?_;rfl
theorem Yv (e1 e2 e3 e4:List (List AV))(p1:aa e1=true)(p2:aa e2=true)(p3:aa e3=true)(p4:aa e4=true)(k1 k2 k3 k4:List (List UInt8))(so:Int)(trm:Bool)(nm:List UInt8)(df:Int)(n:Nat)(hn:n=e4.length+1)(l4:e4.length<2^30)(ts:List Trm)(lt:ts.length<2^30)(s:List UInt8)(hs:s.length<4294967281)(d1:s≠fF)(d2:s≠fE)(hw:(ag s).1=dX)(ho: ¬bg (ag s).2=true):ab G 543 [.ref 0 0 0,.str s] (bP e1.length e2.length e3.length n so true trm e1 e2 e3 (e4++[[AV.str nm,AV.vs 9 0 ts.length,AV.int .i64 df]]) k1 k2 k3 k4 [.vec 4 (ts.map Trm.enc)]) ⟨pnV (.ifc 138 (.agg [.int .i64 2])),rP e1.length e2.length e3.length n so true trm (.vec 2 e1) (.vec 2 e2) (.vec 2 e3) (.nest 3 e4 [[AV.str nm,AV.vs 9 0 ts.length,AV.int .i64 df]]) k1 k2 k3 k4 [(true,.vec 4 (ts.map Trm.enc))]⟩:=by
 unfold bP rP;have h0:=am s (by omega)
 have hL:=eW e1 e2 e3 e4 p1 p2 p3 p4 k1 k2 k3 k4 so trm nm df n hn l4 ts lt;unfold fF at d1;unfold fE at d2;have htl:(ag s).2.length<4294967281:=CO (aW s).2 hs;generalize ag s=ct at*;obtain ⟨w,t⟩:=ct;dsimp only at*;unfold dX at hw;subst hw;have h2:=aM true;rw[Ad rfl] at h2;have h3:=λ(_:True)=>aY t htl
 rw[Ac ho] at h3;refine gvB (F:=p8) ?_
 (conv=>whnf)
 refine kP pzC [] ⟨rfl,rfl,rfl,rfl,rfl,rfl,rfl,rfl,rfl,rfl,trivial⟩ trivial hL ?_
 repeat' ((conv=>whnf);first|refine aQ d1 ?_|refine aQ d2 ?_|refine bf ?_|refine aq ?_|(refine ae ?_ ?_<;>intro h))
 (conv=>whnf)
 refine CallG.stop ?_;refine aG 597 (h3 trivial) (λQ hr hg=>?_)
 refine kV hg ?_;refine bl pzC [] [true,true,true,true,true,true,true,true,true,true] ?_;rfl
theorem Yx (e1 e2 e3 e4:List (List AV))(p1:aa e1=true)(p2:aa e2=true)(p3:aa e3=true)(p4:aa e4=true)(k1 k2 k3 k4:List (List UInt8))(so:Int)(trm:Bool)(nm:List UInt8)(df:Int)(n:Nat)(hn:n=e4.length+1)(l4:e4.length<2^30)(ts:List Trm)(lt:ts.length<2^30)(s:List UInt8)(hs:s.length<4294967281)(d1:s≠fF)(d2:s≠fE)(hw:(ag s).1=dX)(ho:bg (ag s).2=true)(hk:64<=ts.length):ab G 543 [.ref 0 0 0,.str s] (bP e1.length e2.length e3.length n so true trm e1 e2 e3 (e4++[[AV.str nm,AV.vs 9 0 ts.length,AV.int .i64 df]]) k1 k2 k3 k4 [.vec 4 (ts.map Trm.enc)]) ⟨pnV (.ifc 138 (.agg [.int .i64 4])),rP e1.length e2.length e3.length n so true trm (.vec 2 e1) (.vec 2 e2) (.vec 2 e3) (.nest 3 e4 [[AV.str nm,AV.vs 9 0 ts.length,AV.int .i64 df]]) k1 k2 k3 k4 [(true,.vec 4 (ts.map Trm.enc))]⟩:=by
 unfold bP rP;have h0:=am s (by omega)
 have hL:=eW e1 e2 e3 e4 p1 p2 p3 p4 k1 k2 k3 k4 so trm nm df n hn l4 ts lt;unfold fF at d1;unfold fE at d2;have htl:(ag s).2.length<4294967281:=CO (aW s).2 hs;have hx: ∀x:List AV,(e4++[x])[((n:Int)-1).toNat]? =some x:=λx=>by rw[hn];simp
 have hset: ∀y x:List AV,(e4++[y]).set ((n:Int)-1).toNat x=e4++[x]:=λy x=>by rw[hn];simp
 generalize ag s=ct at*;obtain ⟨w,t⟩:=ct;dsimp only at*;unfold dX at hw;subst hw;have h2:=aM true;rw[Ad rfl] at h2;have h3:=aY t htl;rw[Ad ho] at h3
 have h4:True->ab G 587 [.int .i64 (ts.length:Int)] [] (pF 4):=λ_=>by
  have:=bR (ts.length:Int);rwa [Ac (by omega)] at this
 refine gvB (F:=p8) ?_
 (conv=>whnf)
 refine kP pzC [] ⟨rfl,rfl,rfl,rfl,rfl,rfl,rfl,rfl,rfl,rfl,trivial⟩ trivial hL ?_
 repeat' ((conv=>whnf);first|refine aQ d1 ?_|refine aQ d2 ?_|refine bf ?_|refine xr (hx _) ?_|refine aq ?_|(refine ae ?_ ?_<;>intro h))
 (conv=>whnf)
 refine CallG.stop ?_;refine aG 587 (h4 trivial) (λQ hr hg=>?_)
 refine kV hg ?_;refine bl pzC [] [true,true,true,true,true,true,true,true,true,true] ?_;rfl
theorem Yw (e1 e2 e3 e4:List (List AV))(p1:aa e1=true)(p2:aa e2=true)(p3:aa e3=true)(p4:aa e4=true)(k1 k2 k3 k4:List (List UInt8))(so:Int)(trm:Bool)(nm:List UInt8)(df:Int)(n:Nat)(hn:n=e4.length+1)(l4:e4.length<2^30)(ts:List Trm)(lt:ts.length<2^30)(hf:Kn.fit ⟨k1,k2,k3,k4⟩)(s:List UInt8)(hs:s.length<4294967281)(d1:s≠fF)(d2:s≠fE)(hw:(ag s).1=dX)(ho:bg (ag s).2=true)(hk:ts.length<64)(hc:eT ⟨k1,k2,k3,k4⟩ ts ⟨(ag s).2,[],[],1⟩≠0):ab G 543 [.ref 0 0 0,.str s] (bP e1.length e2.length e3.length n so true trm e1 e2 e3 (e4++[[AV.str nm,AV.vs 9 0 ts.length,AV.int .i64 df]]) k1 k2 k3 k4 [.vec 4 (ts.map Trm.enc)]) ⟨pnV (.ifc 138 (.agg [.int .i64 (eT ⟨k1,k2,k3,k4⟩ ts ⟨(ag s).2,[],[],1⟩)])),rP e1.length e2.length e3.length n so true trm (.vec 2 e1) (.vec 2 e2) (.vec 2 e3) (.nest 3 e4 [[AV.str nm,AV.vs 9 0 ts.length,AV.int .i64 df]]) k1 k2 k3 k4 [(true,.vec 4 (ts.map Trm.enc))]⟩:=by
 unfold bP rP;have h0:=am s (by omega)
 have hL:=eW e1 e2 e3 e4 p1 p2 p3 p4 k1 k2 k3 k4 so trm nm df n hn l4 ts lt;unfold fF at d1;unfold fE at d2;have htl:(ag s).2.length<4294967281:=CO (aW s).2 hs;have hx: ∀x:List AV,(e4++[x])[((n:Int)-1).toNat]? =some x:=λx=>by rw[hn];simp
 have hset: ∀y x:List AV,(e4++[y]).set ((n:Int)-1).toNat x=e4++[x]:=λy x=>by rw[hn];simp
 generalize ag s=ct at*;obtain ⟨w,t⟩:=ct;dsimp only at*;unfold dX at hw;subst hw;have h2:=aM true;rw[Ad rfl] at h2;have h3:=aY t htl;rw[Ad ho] at h3
 have h4:ab G 587 [.int .i64 (ts.length:Int)] [] ⟨.tup [],[]⟩:=by
  have:=bR (ts.length:Int);rwa [Ad (by omega)] at this
 have h5:ab G 582 [.agg [.sl 1 (k1.map ah),.sl 1 (k2.map ah),.sl 1 (k3.map ah),.sl 1 (k4.map ah)],.sl 4 (ts.map Trm.enc),.agg [.str t,.con (.slice none 0 0),.con (.slice none 0 0),.int .i64 1]] [] ⟨.int .i64 (eT ⟨k1,k2,k3,k4⟩ ts ⟨t,[],[],1⟩),[]⟩:=
  tV rfl (oc ⟨k1,k2,k3,k4⟩ hf ts (by omega) ⟨t,[],[],1⟩ (yZ t (by omega))) ⟨.refl _,.refl _,LeP.agg ⟨.refl _,.nil 6,.nil 5,.refl _,trivial⟩,trivial⟩
 have y1:k1.length=(k1.map ah).length:=by simp
 have y2:k2.length=(k2.map ah).length:=by simp
 have y3:k3.length=(k3.map ah).length:=by simp
 have y4:k4.length=(k4.map ah).length:=by simp
 have y5:ts.length=(ts.map Trm.enc).length:=by simp
 generalize eT _ _ _=er at*;have h6:=λ(_:True)=>bp er
 rw[Ac hc] at h6;refine gvB (F:=p8) ?_
 (conv=>whnf)
 refine kP pzC [] ⟨rfl,rfl,rfl,rfl,rfl,rfl,rfl,rfl,rfl,rfl,trivial⟩ trivial hL ?_
 repeat' ((conv=>whnf);first|refine aQ d1 ?_|refine aQ d2 ?_|refine bf ?_|refine xr (hx _) ?_|refine aq ?_|refine kZ [(5,_,_),(6,_,_),(7,_,_),(8,_,_),(9,_,_)] ⟨rfl,pz ⟨rfl,pz ⟨rfl,pz ⟨rfl,pz ⟨rfl,pz trivial⟩⟩⟩⟩⟩ (h5) ?_|(refine ae ?_ ?_<;>intro h))
 (conv=>whnf)
 refine CallG.stop ?_;refine sU 590 (h6 trivial) (λQ hr hg=>?_)
 refine kV hg ?_;refine bl pzC [] [true,true,true,true,true,true,true,true,true,true] ?_;rfl
theorem acy (e1 e2 e3 e4:List (List AV))(p1:aa e1=true)(p2:aa e2=true)(p3:aa e3=true)(p4:aa e4=true)(k1 k2 k3 k4:List (List UInt8))(so:Int)(trm:Bool)(nm:List UInt8)(df:Int)(n:Nat)(hn:n=e4.length+1)(l4:e4.length<2^30)(ts:List Trm)(lt:ts.length<2^30)(hf:Kn.fit ⟨k1,k2,k3,k4⟩)(s:List UInt8)(hs:s.length<4294967281)(d1:s≠fF)(d2:s≠fE)(hw:(ag s).1=dX)(ho:bg (ag s).2=true)(hk:ts.length<64)(hc:eT ⟨k1,k2,k3,k4⟩ ts ⟨(ag s).2,[],[],1⟩=0):ab G 543 [.ref 0 0 0,.str s] (bP e1.length e2.length e3.length n so true trm e1 e2 e3 (e4++[[AV.str nm,AV.vs 9 0 ts.length,AV.int .i64 df]]) k1 k2 k3 k4 [.vec 4 (ts.map Trm.enc)]) ⟨.tup [],rP e1.length e2.length e3.length n so true true (.vec 2 e1) (.vec 2 e2) (.vec 2 e3) (.nest 3 e4 [[AV.str nm,AV.vs 9 0 (ts.length+1),AV.int .i64 df]]) k1 k2 k3 k4 [(false,.vec 4 (ts.map Trm.enc++[[.str (ag s).2,.con (.slice none 0 0),.con (.slice none 0 0),.int .i64 0]]))]⟩:=by
 unfold bP rP;have h0:=am s (by omega)
 have hL:=eW e1 e2 e3 e4 p1 p2 p3 p4 k1 k2 k3 k4 so trm nm df n hn l4 ts lt;unfold fF at d1;unfold fE at d2;have htl:(ag s).2.length<4294967281:=CO (aW s).2 hs;have hx: ∀x:List AV,(e4++[x])[((n:Int)-1).toNat]? =some x:=λx=>by rw[hn];simp
 have hset: ∀y x:List AV,(e4++[y]).set ((n:Int)-1).toNat x=e4++[x]:=λy x=>by rw[hn];simp
 generalize ag s=ct at*;obtain ⟨w,t⟩:=ct;dsimp only at*;unfold dX at hw;subst hw;have h2:=aM true;rw[Ad rfl] at h2;have h3:=aY t htl;rw[Ad ho] at h3
 have h4:ab G 587 [.int .i64 (ts.length:Int)] [] ⟨.tup [],[]⟩:=by
  have:=bR (ts.length:Int);rwa [Ad (by omega)] at this
 have h5:ab G 582 [.agg [.sl 1 (k1.map ah),.sl 1 (k2.map ah),.sl 1 (k3.map ah),.sl 1 (k4.map ah)],.sl 4 (ts.map Trm.enc),.agg [.str t,.con (.slice none 0 0),.con (.slice none 0 0),.int .i64 1]] [] ⟨.int .i64 (eT ⟨k1,k2,k3,k4⟩ ts ⟨t,[],[],1⟩),[]⟩:=
  tV rfl (oc ⟨k1,k2,k3,k4⟩ hf ts (by omega) ⟨t,[],[],1⟩ (yZ t (by omega))) ⟨.refl _,.refl _,LeP.agg ⟨.refl _,.nil 6,.nil 5,.refl _,trivial⟩,trivial⟩
 have y1:k1.length=(k1.map ah).length:=by simp
 have y2:k2.length=(k2.map ah).length:=by simp
 have y3:k3.length=(k3.map ah).length:=by simp
 have y4:k4.length=(k4.map ah).length:=by simp
 have y5:ts.length=(ts.map Trm.enc).length:=by simp
 rw[hc] at h5;have h6:=bp 0;rw[Ad rfl] at h6;refine gvB (F:=p8) ?_
 (conv=>whnf)
 refine kP pzC [] ⟨rfl,rfl,rfl,rfl,rfl,rfl,rfl,rfl,rfl,rfl,trivial⟩ trivial hL ?_
 repeat' ((conv=>whnf);first|refine aQ d1 ?_|refine aQ d2 ?_|refine bf ?_|refine xr (hx _) ?_|refine aq ?_|refine kZ [(5,_,_),(6,_,_),(7,_,_),(8,_,_),(9,_,_)] ⟨rfl,pz ⟨rfl,pz ⟨rfl,pz ⟨rfl,pz ⟨rfl,pz trivial⟩⟩⟩⟩⟩ (h5) ?_|(refine ae ?_ ?_<;>intro h))
 (conv=>whnf)
 rw[hset]
 (first|refine cG pzC [] [true,true,true,true,true,true,true,true,true,false] ?_|refine cH pzC [] [true,true,true,true,true,true,true,true,true,false] ?_)
 rfl
end Go.AM.IR
