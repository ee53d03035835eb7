/- What functions of this program give. -/
import Derived.Test.YtomphmeopjpejaaGreatDoorDataK
import Derived.Test.YtomphmeopjpejaaGreatDoorDataI
set_option linter.unusedSectionVars false
set_option linter.unusedVariables false
set_option linter.unusedSimpArgs false
set_option maxHeartbeats 4000000
set_option maxRecDepth 20000
namespace Go.AM.IR
section
variable {k:AV->Prop} {x j:Nat}
end
theorem nat_of {a:Int}(h:okU a):a=(a.toNat:Nat)/\a.toNat<4294967296:=by unfold okU at h;omega
theorem abb: ∀f n:Nat,1<=(ca f n).length
 |0,n=>by simp[ca]
 |f+1,n=>by
  simp only[ca];split<;>simp
theorem dI {n:Nat}(h:n<256):1<=(ah n).length/\(ah n).length<=3:=by
 have e:ah n=ca 19 n:=by unfold ah;rw[Ac (by omega),Int.toNat_natCast]
 rw[e];exact ⟨abb 19 n,tG 19 2 n (by omega)⟩
theorem bC (n:Int):(ah n).length<=21:=by
 unfold ah;split
 ·have:=oQ 19 n.natAbs
  rw[As];omega
 ·have:=oQ 19 n.toNat
  omega
def QY:Df->CF->Bool
 |some ⟨.str s,[]⟩,l=>s==l
 |_,_=>false
theorem YL {o:Df}{l:CF}(h:QY o l=true):o=some ⟨.str l,[]⟩:=by
 unfold QY at h;split at h
 ·rw[beq_iff_eq] at h;rw[h]
 ·cases h
theorem adc:(List.range 256).all (λn=>QY (run G 200 (SR.start [.int .i64 (n:Int)] [])) (ah n))=true:=by kernel_rfl
theorem sG {n:Nat}(h:n<256):ab G 248 [.int .i64 (n:Int)] [] ⟨.str (ah n),[]⟩:=
 tj 200 rfl rfl (YL (List.all_eq_true.1 adc n (List.mem_range.2 h)))
theorem itoa_gives246 {n:Int}(h0: -9223372036854775808<=n)(h1:n<=9223372036854775807):ab G 246 [.int .i64 n] [] ⟨.str (ah n),[]⟩:=by
 show uw _ _=_
 exact Ad ⟨h0,h1⟩
def dots (x:Nat):CF:=ah (x/ 16777216:Nat)++46::(ah (x/ 65536 % 256:Nat)++46::(ah (x/ 256 % 256:Nat)++46::ah (x % 256:Nat)))
section
variable {k:AV->Prop} {q:IntKind}
theorem zShrC (m:Nat){x:Nat}{j:Int}(h:k (.int .u32 ((x/ m:Nat):Int)))(hm:m=2^j.toNat)(h0:0<=j)(h1:j<=32): ∃v,bp .shr (.int .u32 (x:Int)) (.int q j)=some v/\k v:=by
 subst hm;refine ⟨_,?_,h⟩;show (if j<0 then none else some (AV.int .u32 ((x:Int).fdiv (2^ (min j.toNat 32)))))=_
 rw[Ac (by omega),show min j.toNat 32=j.toNat by omega]
 congr 2
 rw[Int.fdiv_eq_ediv_of_nonneg _ (by exact Int.le_of_lt (Int.pow_pos (by omega)))]
 simp
theorem zAnd255 {x:Nat}(h:k (.int .u32 ((x % 256:Nat):Int)))(hx:x<4294967296): ∃v,bp .and (.int .u32 (x:Int)) (.int .u32 255)=some v/\k v:=
 ⟨_,by
  show some (AV.int .u32 (intBits .and .u32 (x:Int) ((255:Nat):Int)))=_
  rw[qB x 255 hx (by omega),show (255:Nat)=2^8-1 from rfl,Nat.and_two_pow_sub_one_eq_mod],h⟩
theorem zCat {a b:CF}(h:k (.str (a++b)))(hl:a.length+b.length<2^62:=by first|omega|(simp;omega)): ∃v,bp .add (.str a) (.str b)=some v/\k v:=⟨_,Ad hl,h⟩
end
theorem join_gives247 (a b c d:CF)(h:a.length<=3/\b.length<=3/\c.length<=3/\d.length<=3):ab G 247 [.sl 1 [[.str a],[.str b],[.str c],[.str d]],.str [46]] [] ⟨.str (a++46::(b++46::(c++46::d))),[]⟩:=by
 have hj:Lib.join [a,b,c,d] [46]=a++46::(b++46::(c++46::d)):=by simp[Lib.join,List.intercalate]
 show uv [.sl 1 [[.str a],[.str b],[.str c],[.str d]],.str [46]] []=_
 show (if [a,b,c,d].length<=140737488355328/\(Lib.join [a,b,c,d] [46]).length<=140737488355328 then some (⟨.str (Lib.join [a,b,c,d] [46]),[]⟩:Ret) else none)=_
 rw[hj,Ad];simp;omega
theorem dec_gives337 {n:Int}(h:okI n):ab G 337 [.int .i64 n] [] ⟨.str (ah n),[]⟩:=by
 unfold okI at h;have hi:=itoa_gives246 (n:=n) (by omega) (by omega)
 generalize ah n=t at*;exact gvA (F:=f337)
section
variable {kv:AV->Prop} {k:Eff->Prop} {x:Opd} {g key:Nat} {hg:Nat->C0} {n:Int}
theorem zAdU (h0:n<0)(h1: -9223372036854775808<=n)(h:kv (.int .u64 ((n.natAbs:Nat):Int))): ∃v,bp .add (.int .u64 (-(n+1))) (.int .u64 1)=some v/\kv v:=by
 refine ⟨_,?_,h⟩;show some (AV.int .u64 (IntKind.wrap .u64 (-(n+1)+1)))=_
 rw[r8 (by omega) (by omega),show-(n+1)+1=((n.natAbs:Nat):Int) by omega]
end
theorem gn {n:Int}(h:okI n):ab G 338 [.int .i64 n] [] ⟨.str (ah n),[]⟩:=by
 unfold okI at h
 by_cases h0:n<0
 ·have hd:=oO 19 n.natAbs (by omega) (by omega) (by omega)
  have e2:ah n=45::ca 19 n.natAbs:=by unfold ah;rw[Ad h0]
  have hl:=oQ 19 n.natAbs;rw[e2];generalize ca 19 n.natAbs=w at*;refine gvC (F:=f338) ?_
  repeat' ((conv=>whnf);first|refine zAdU h0 (by omega) ?_|refine bQ ?_|refine ay ?_|apply ae<;>intro h)
  refine au ?_;rfl
 ·have hd:=oO 19 n.toNat (by omega) (by omega) (by omega)
  have e:((n.toNat:Nat):Int)=n:=by omega
  rw[e] at hd;have e2:ah n=ca 19 n.toNat:=by unfold ah;rw[Ac (by omega)]
  rw[e2];generalize ca 19 n.toNat=w at*;exact gvA (F:=f338)
theorem zSlarr {k:Eff->Prop}{x:Opd}{g key kk gk n:Nat}{cs:CL}{hg:Nat->C0}(h:k {res:=.vs key g n,wr:=[(key,some (g,.vec 1 (cs.map λc=>[c]))),(kk,some (g,.vec 1 []))],rd:=[kk]})(hk:hg kk=some (gk,.cells cs):=by rfl)(hn:cs.length=n:=by rfl)(hne:kk≠key:=by decide): ∃e,aX (.slarr n 1 x none none none) g key [.ref kk gk 0] hg=some e/\k e:=by
 refine ⟨_,?_,h⟩;simp[aX,ql,hk,hn,hne]
theorem r7 (x:Nat)(hx:x<4294967296):ab G 228 [.int .u32 (x:Int)] [] ⟨.str (dots x),[]⟩:=by
 have n3:=sG (n:=x/ 16777216) (by omega)
 have n2:=sG (n:=x/ 65536 % 256) (by omega)
 have n1:=sG (n:=x/ 256 % 256) (by omega)
 have n0:=sG (n:=x % 256) (by omega)
 have l3:=dI (n:=x/ 16777216) (by omega)
 have l2:=dI (n:=x/ 65536 % 256) (by omega)
 have l1:=dI (n:=x/ 256 % 256) (by omega)
 have l0:=dI (n:=x % 256) (by omega)
 unfold dots;generalize ah (x/ 16777216:Nat)=t3 at*;generalize ah (x/ 65536 % 256:Nat)=t2 at*;generalize ah (x/ 256 % 256:Nat)=t1 at*;generalize ah (x % 256:Nat)=t0 at*;refine gvC (F:=aaY) ?_
 repeat' ((conv=>whnf);first|refine zCat ?_|refine zShrC 16777216 ?_ (by rfl) (by omega) (by omega)|refine zShrC 65536 ?_ (by rfl) (by omega) (by omega)|refine zShrC 256 ?_ (by rfl) (by omega) (by omega)|refine zAnd255 ?_ (by omega)|refine ay ?_|apply ae<;>intro h)
 refine au ?_;simp
section
variable (x:Nat)(t3 t2 t1 t0 R:CF)(hx:x<4294967296)(n3:ab G 246 [.int .i64 (x/ 16777216 % 256:Nat)] [] ⟨.str t3,[]⟩)(n2:ab G 246 [.int .i64 (x/ 65536 % 256:Nat)] [] ⟨.str t2,[]⟩)(n1:ab G 246 [.int .i64 (x/ 256 % 256:Nat)] [] ⟨.str t1,[]⟩)(n0:ab G 246 [.int .i64 (x/ 1 % 256:Nat)] [] ⟨.str t0,[]⟩)(ej:ab G 247 [.sl 1 [[.str t3],[.str t2],[.str t1],[.str t0]],.str [46]] [] ⟨.str R,[]⟩)(T:TV)(H:aq)(c g:Nat)
include hx n3 n2 n1 n0 ej
theorem addr_loop4:
  Ev G ⟨iM,⟨(5,.int .i64 4)::(3,.ref 67 g 0)::(0,.int .u32 (x:Int))::T,(67,some (g,.cells [.str t3,.str t2,.str t1,.str t0]))::H,c⟩,[.t 2],0⟩ ⟨.str R,[]⟩:=by
 refine evl ?_
 repeat' ((conv=>whnf);first|refine zSlarr ?_|refine ay ?_|refine kZ [(83,_,_)] ⟨rfl,pz trivial⟩ (ej) ?_|apply ae<;>intro h)
 refine au ?_;rfl
theorem addr_loop3:
  Ev G ⟨iM,⟨(5,.int .i64 3)::(3,.ref 67 g 0)::(0,.int .u32 (x:Int))::T,(67,some (g,.cells [.str t3,.str t2,.str t1,.str []]))::H,c⟩,[.t 2],0⟩ ⟨.str R,[]⟩:=by
 refine evl ?_
 repeat' ((conv=>whnf);first|refine zShrC 1 ?_ (by rfl) (by omega) (by omega)|refine zAnd255 ?_ (by omega)|refine ay ?_|apply ae<;>intro h)
 refine ag [5,3,0] [67] ?_;exact addr_loop4 x t3 t2 t1 t0 R hx n3 n2 n1 n0 ej _ _ _ _
theorem addr_loop2:
  Ev G ⟨iM,⟨(5,.int .i64 2)::(3,.ref 67 g 0)::(0,.int .u32 (x:Int))::T,(67,some (g,.cells [.str t3,.str t2,.str [],.str []]))::H,c⟩,[.t 2],0⟩ ⟨.str R,[]⟩:=by
 refine evl ?_
 repeat' ((conv=>whnf);first|refine zShrC 256 ?_ (by rfl) (by omega) (by omega)|refine zAnd255 ?_ (by omega)|refine ay ?_|apply ae<;>intro h)
 refine ag [5,3,0] [67] ?_;exact addr_loop3 x t3 t2 t1 t0 R hx n3 n2 n1 n0 ej _ _ _ _
theorem addr_loop1:
  Ev G ⟨iM,⟨(5,.int .i64 1)::(3,.ref 67 g 0)::(0,.int .u32 (x:Int))::T,(67,some (g,.cells [.str t3,.str [],.str [],.str []]))::H,c⟩,[.t 2],0⟩ ⟨.str R,[]⟩:=by
 refine evl ?_
 repeat' ((conv=>whnf);first|refine zShrC 65536 ?_ (by rfl) (by omega) (by omega)|refine zAnd255 ?_ (by omega)|refine ay ?_|apply ae<;>intro h)
 refine ag [5,3,0] [67] ?_;exact addr_loop2 x t3 t2 t1 t0 R hx n3 n2 n1 n0 ej _ _ _ _
theorem addr_loop0:
  Ev G ⟨iM,⟨(5,.int .i64 0)::(3,.ref 67 g 0)::(0,.int .u32 (x:Int))::T,(67,some (g,.cells [.str [],.str [],.str [],.str []]))::H,c⟩,[.t 2],0⟩ ⟨.str R,[]⟩:=by
 refine evl ?_
 repeat' ((conv=>whnf);first|refine zShrC 16777216 ?_ (by rfl) (by omega) (by omega)|refine zAnd255 ?_ (by omega)|refine ay ?_|apply ae<;>intro h)
 refine ag [5,3,0] [67] ?_;exact addr_loop1 x t3 t2 t1 t0 R hx n3 n2 n1 n0 ej _ _ _ _
end
theorem addr_gives227 (x:Nat)(hx:x<4294967296):ab G 227 [.int .u32 (x:Int)] [] ⟨.str (dots x),[]⟩:=by
 have n3:=itoa_gives246 (n:=(x/ 16777216:Nat)) (by omega) (by omega)
 have n2:=itoa_gives246 (n:=(x/ 65536 % 256:Nat)) (by omega) (by omega)
 have n1:=itoa_gives246 (n:=(x/ 256 % 256:Nat)) (by omega) (by omega)
 have n0:=itoa_gives246 (n:=(x % 256:Nat)) (by omega) (by omega)
 have l3:=dI (n:=x/ 16777216) (by omega)
 have l2:=dI (n:=x/ 65536 % 256) (by omega)
 have l1:=dI (n:=x/ 256 % 256) (by omega)
 have l0:=dI (n:=x % 256) (by omega)
 have ej:=join_gives247 _ _ _ _ ⟨l3.2,l2.2,l1.2,l0.2⟩;have n3:ab G 246 [.int .i64 (x/ 16777216 % 256:Nat)] [] ⟨.str (ah (x/ 16777216:Nat)),[]⟩:=by rw[show x/ 16777216 % 256=x/ 16777216 by omega];exact n3
 have n0:ab G 246 [.int .i64 (x/ 1 % 256:Nat)] [] ⟨.str (ah (x % 256:Nat)),[]⟩:=by rw[Nat.div_one];exact n0
 refine gvB (F:=J5) ?_;refine ag [5,3,0] [67] ?_;exact addr_loop0 x _ _ _ _ _ hx n3 n2 n1 n0 ej _ _ _ _
theorem dots_len {x:Nat}(hx:x<4294967296):(dots x).length<=15:=by
 have l3:=dI (n:=x/ 16777216) (by omega)
 have l2:=dI (n:=x/ 65536 % 256) (by omega)
 have l1:=dI (n:=x/ 256 % 256) (by omega)
 have l0:=dI (n:=x % 256) (by omega)
 unfold dots;simp only[Ar,As];omega
def ptext (x n:Nat):CF:=dots x++47::ah n
theorem validP_len {p:Pfx}(h:bj p=true):0<=p.len/\p.len<=32:=by
 unfold bj at h;rw[AO] at h;exact ⟨h.1,h.2.1⟩
section
variable (p:Pfx)
theorem text_gives229 (h:p.ok):ab G 229 [.agg p.enc] [] ⟨.str (if bj p=true then ptext p.addr.toNat p.len.toNat else []),[]⟩:=by
 obtain ⟨e,hx⟩:=nat_of h.addr;have hv:=gV p h;have ha:=addr_gives227 p.addr.toNat hx;have hd:=dots_len hx;rw[<-e] at ha;cases hvp:bj p
 ·rw[hvp] at hv
  rw[Ac (by simp)]
  exact gvA (F:=Bj)
 ·rw[hvp] at hv
  obtain ⟨n0,n1⟩:=validP_len hvp;have hi:=itoa_gives246 (n:=p.len) (by omega) (by omega)
  have hil:=dI (n:=p.len.toNat) (by omega)
  rw[Cb n0] at hil;rw[Ad rfl,ptext,Cb n0];generalize ah p.len=t at*;generalize dots p.addr.toNat=d at*;refine gvC (F:=Bj) ?_
  repeat' (first|refine bz ?_|apply ae<;>intro h)
  refine au ?_;simp
theorem rI (h:p.ok):ab G 230 [.agg p.enc] [] ⟨.str (if bj p=true then ptext p.addr.toNat p.len.toNat else []),[]⟩:=by
 obtain ⟨e,hx⟩:=nat_of h.addr;have hv:=dk p h;have ha:=r7 p.addr.toNat hx;have hd:=dots_len hx;rw[<-e] at ha;cases hvp:bj p
 ·rw[hvp] at hv
  rw[Ac (by simp)]
  exact gvA (F:=SS)
 ·rw[hvp] at hv
  obtain ⟨n0,n1⟩:=validP_len hvp;have hi:=sG (n:=p.len.toNat) (by omega)
  have hil:=dI (n:=p.len.toNat) (by omega)
  rw[Cb n0] at hil hi;rw[Ad rfl,ptext,Cb n0];generalize ah p.len=t at*;generalize dots p.addr.toNat=d at*;refine gvC (F:=SS) ?_
  repeat' (first|refine bz ?_|apply ae<;>intro h)
  refine au ?_;simp
theorem ptext_len {x n:Nat}(hx:x<4294967296)(hn:n<=32):(ptext x n).length<=19:=by
 have:=dots_len hx;have:=dI (n:=n) (by omega)
 unfold ptext;simp only[Ar,As];omega
def pfT:CF:=if bj p=true then ptext p.addr.toNat p.len.toNat else []
theorem OL (h:p.ok):(pfT p).length<=19:=by
 obtain ⟨_,hx⟩:=nat_of h.addr;unfold pfT;split
 ·rename_i v
  have:=validP_len v;exact ptext_len hx (by omega)
 ·simp
end
def bh:AV:=.con (.slice none 0 0)
def dM (s:PSet):Kn:=⟨s.prefixes.map PList.name,s.paths.map PathL.name,s.comms.map ComL.name,s.pols.map Pol.name⟩
theorem CK (s:PSet)(g2 g3 a0 a1 a2:Nat)(B0 B1 B2:D5)(hl:s.pols.length<2^40)(R:Ret)(O:D5)(go:R=⟨.agg [.vs 0 0 B0.length,.vs 1 0 B1.length,.vs 2 0 B2.length,.vs 3 0 O.length],[(false,.vec 1 (B0.map am)),(false,.vec 1 (B1.map am)),(false,.vec 1 (B2.map am)),(false,.vec 1 (O.map am))]⟩): ∀(rest done:C9)(o:D5)(a3:Nat)(T:TV)(H:aq)(c:Nat)(n:Int)(e:s.pols=done++rest)(hn:n=done.length)(hb:o.length+rest.length<2^30)(hO:o++rest.map Pol.name=O),
  Ev G ⟨Dc,⟨(60,.int .i64 n)::(3,.ref 67 g3 0)::(58,.sl 3 (s.pols.map Pol.enc))::(2,.ref 66 g2 0)::(59,.int .i64 s.pols.length)::T,(67,some (g3,.cells [.vs 88 a0 B0.length,.vs 103 a1 B1.length,.vs 118 a2 B2.length,.vs 133 a3 o.length]))::(66,some (g2,.cells [bh,bh,bh,bh]))::(88,some (a0,.vec 1 (B0.map am)))::(103,some (a1,.vec 1 (B1.map am)))::(118,some (a2,.vec 1 (B2.map am)))::(133,some (a3,.vec 1 (o.map am)))::H,c⟩,[.cell 2 (some 4)],0⟩ R
 | [],done,o,a3,T,H,c,n,e,hn,hb,hO=>by
  have hd:=md0 e;rw[Bd,BD] at hO;subst hO;rw[go];refine evA ?_;refine adA [(88,_,.vec 1 (B0.map am)),(103,_,.vec 1 (B1.map am)),(118,_,.vec 1 (B2.map am)),(133,_,.vec 1 (o.map am))] ⟨rfl,⟨rfl,puL,rfl,puL,rfl,puL,rfl,puL,trivial⟩,rfl,rfl,(by simp[cH]),?_⟩
  simp[AV.ren,di,φR];exact ⟨rfl,rfl,rfl⟩
 |x::r,done,o,a3,T,H,c,n,e,hn,hb,hO=>by
  have hd:=md e;have hll:=ml s.pols Pol.enc;have hx:=mx Pol.enc e hn;have hb0:(x::r).length=r.length+1:=rfl;have ih:=λa3 T H c=>CK s g2 g3 a0 a1 a2 B0 B1 B2 hl R O go r (done++[x]) (o++[x.name]) a3 T H c (n+1) (by simp[e]) (by simp[hn]) (by simp;omega) (by rw[<-hO];simp)
  rw[List.map_append,Ar] at ih;refine evA ?_;refine ag [60,3,58,2,59] [67,66,88,103,118,133] ?_;exact ih _ _ _ _
theorem CM (s:PSet)(g2 g3 a0 a1 a3:Nat)(B0 B1 B3:D5)(hl:s.comms.length<2^40)(R:Ret)(O:D5)(go: ∀(a2:Nat) (T:TV) (H:aq) (c:Nat),Ev G ⟨Dc,⟨(60,.int .i64 0)::(3,.ref 67 g3 0)::(58,.sl 3 (s.pols.map Pol.enc))::(2,.ref 66 g2 0)::(59,.int .i64 s.pols.length)::T,(67,some (g3,.cells [.vs 88 a0 B0.length,.vs 103 a1 B1.length,.vs 118 a2 O.length,.vs 133 a3 B3.length]))::(66,some (g2,.cells [bh,bh,bh,bh]))::(88,some (a0,.vec 1 (B0.map am)))::(103,some (a1,.vec 1 (B1.map am)))::(118,some (a2,.vec 1 (O.map am)))::(133,some (a3,.vec 1 (B3.map am)))::H,c⟩,[.cell 2 (some 4)],0⟩ R): ∀(rest done:C6)(o:D5)(a2:Nat)(T:TV)(H:aq)(c:Nat)(n:Int)(e:s.comms=done++rest)(hn:n=done.length)(hb:o.length+rest.length<2^30)(hO:o++rest.map ComL.name=O),
  Ev G ⟨De,⟨(45,.int .i64 n)::(3,.ref 67 g3 0)::(43,.sl 2 (s.comms.map ComL.enc))::(2,.ref 66 g2 0)::(1,.ref 65 1 0)::(44,.int .i64 s.comms.length)::T,(67,some (g3,.cells [.vs 88 a0 B0.length,.vs 103 a1 B1.length,.vs 118 a2 o.length,.vs 133 a3 B3.length]))::(65,some (1,.cells s.enc))::(66,some (g2,.cells [bh,bh,bh,bh]))::(88,some (a0,.vec 1 (B0.map am)))::(103,some (a1,.vec 1 (B1.map am)))::(118,some (a2,.vec 1 (o.map am)))::(133,some (a3,.vec 1 (B3.map am)))::H,c⟩,[.cell 2 (some 4)],0⟩ R
 | [],done,o,a2,T,H,c,n,e,hn,hb,hO=>by
  have hd:=md0 e;rw[Bd,BD] at hO;subst hO;have m1:=ml s.pols Pol.enc;refine evA ?_;refine ag [60,3,58,2,59] [67,66,88,103,118,133] ?_;rw[m1];exact go _ _ _ _
 |x::r,done,o,a2,T,H,c,n,e,hn,hb,hO=>by
  have hd:=md e;have hll:=ml s.comms ComL.enc;have hx:=mx ComL.enc e hn;have hb0:(x::r).length=r.length+1:=rfl;have ih:=λa2 T H c=>CM s g2 g3 a0 a1 a3 B0 B1 B3 hl R O go r (done++[x]) (o++[x.name]) a2 T H c (n+1) (by simp[e]) (by simp[hn]) (by simp;omega) (by rw[<-hO];simp)
  rw[List.map_append,Ar] at ih;refine evA ?_;refine ag [45,3,43,2,1,44] [67,65,66,88,103,118,133] ?_;exact ih _ _ _ _
theorem CN (s:PSet)(g2 g3 a0 a2 a3:Nat)(B0 B2 B3:D5)(hl:s.paths.length<2^40)(R:Ret)(O:D5)(go: ∀(a1:Nat) (T:TV) (H:aq) (c:Nat),Ev G ⟨De,⟨(45,.int .i64 0)::(3,.ref 67 g3 0)::(43,.sl 2 (s.comms.map ComL.enc))::(2,.ref 66 g2 0)::(1,.ref 65 1 0)::(44,.int .i64 s.comms.length)::T,(67,some (g3,.cells [.vs 88 a0 B0.length,.vs 103 a1 O.length,.vs 118 a2 B2.length,.vs 133 a3 B3.length]))::(65,some (1,.cells s.enc))::(66,some (g2,.cells [bh,bh,bh,bh]))::(88,some (a0,.vec 1 (B0.map am)))::(103,some (a1,.vec 1 (O.map am)))::(118,some (a2,.vec 1 (B2.map am)))::(133,some (a3,.vec 1 (B3.map am)))::H,c⟩,[.cell 2 (some 4)],0⟩ R): ∀(rest done:C4)(o:D5)(a1:Nat)(T:TV)(H:aq)(c:Nat)(n:Int)(e:s.paths=done++rest)(hn:n=done.length)(hb:o.length+rest.length<2^30)(hO:o++rest.map PathL.name=O),
  Ev G ⟨Dh,⟨(30,.int .i64 n)::(3,.ref 67 g3 0)::(28,.sl 2 (s.paths.map PathL.enc))::(2,.ref 66 g2 0)::(1,.ref 65 1 0)::(29,.int .i64 s.paths.length)::T,(67,some (g3,.cells [.vs 88 a0 B0.length,.vs 103 a1 o.length,.vs 118 a2 B2.length,.vs 133 a3 B3.length]))::(65,some (1,.cells s.enc))::(66,some (g2,.cells [bh,bh,bh,bh]))::(88,some (a0,.vec 1 (B0.map am)))::(103,some (a1,.vec 1 (o.map am)))::(118,some (a2,.vec 1 (B2.map am)))::(133,some (a3,.vec 1 (B3.map am)))::H,c⟩,[.cell 2 (some 4)],0⟩ R
 | [],done,o,a1,T,H,c,n,e,hn,hb,hO=>by
  have hd:=md0 e;rw[Bd,BD] at hO;subst hO;have m1:=ml s.comms ComL.enc;refine evA ?_;refine ag [45,3,43,2,1,44] [67,65,66,88,103,118,133] ?_;rw[m1];exact go _ _ _ _
 |x::r,done,o,a1,T,H,c,n,e,hn,hb,hO=>by
  have hd:=md e;have hll:=ml s.paths PathL.enc;have hx:=mx PathL.enc e hn;have hb0:(x::r).length=r.length+1:=rfl;have ih:=λa1 T H c=>CN s g2 g3 a0 a2 a3 B0 B2 B3 hl R O go r (done++[x]) (o++[x.name]) a1 T H c (n+1) (by simp[e]) (by simp[hn]) (by simp;omega) (by rw[<-hO];simp)
  rw[List.map_append,Ar] at ih;refine evA ?_;refine ag [30,3,28,2,1,29] [67,65,66,88,103,118,133] ?_;exact ih _ _ _ _
theorem Jg (s:PSet)(g2 g3 a1 a2 a3:Nat)(B1 B2 B3:D5)(hl:s.prefixes.length<2^40)(R:Ret)(O:D5)(go: ∀(a0:Nat) (T:TV) (H:aq) (c:Nat),Ev G ⟨Dh,⟨(30,.int .i64 0)::(3,.ref 67 g3 0)::(28,.sl 2 (s.paths.map PathL.enc))::(2,.ref 66 g2 0)::(1,.ref 65 1 0)::(29,.int .i64 s.paths.length)::T,(67,some (g3,.cells [.vs 88 a0 O.length,.vs 103 a1 B1.length,.vs 118 a2 B2.length,.vs 133 a3 B3.length]))::(65,some (1,.cells s.enc))::(66,some (g2,.cells [bh,bh,bh,bh]))::(88,some (a0,.vec 1 (O.map am)))::(103,some (a1,.vec 1 (B1.map am)))::(118,some (a2,.vec 1 (B2.map am)))::(133,some (a3,.vec 1 (B3.map am)))::H,c⟩,[.cell 2 (some 4)],0⟩ R): ∀(rest done:C3)(o:D5)(a0:Nat)(T:TV)(H:aq)(c:Nat)(n:Int)(e:s.prefixes=done++rest)(hn:n=done.length)(hb:o.length+rest.length<2^30)(hO:o++rest.map PList.name=O),
  Ev G ⟨aaU,⟨(15,.int .i64 n)::(3,.ref 67 g3 0)::(13,.sl 2 (s.prefixes.map PList.enc))::(2,.ref 66 g2 0)::(1,.ref 65 1 0)::(14,.int .i64 s.prefixes.length)::T,(67,some (g3,.cells [.vs 88 a0 o.length,.vs 103 a1 B1.length,.vs 118 a2 B2.length,.vs 133 a3 B3.length]))::(65,some (1,.cells s.enc))::(66,some (g2,.cells [bh,bh,bh,bh]))::(88,some (a0,.vec 1 (o.map am)))::(103,some (a1,.vec 1 (B1.map am)))::(118,some (a2,.vec 1 (B2.map am)))::(133,some (a3,.vec 1 (B3.map am)))::H,c⟩,[.cell 2 (some 4)],0⟩ R
 | [],done,o,a0,T,H,c,n,e,hn,hb,hO=>by
  have hd:=md0 e;rw[Bd,BD] at hO;subst hO;have m1:=ml s.paths PathL.enc;refine evA ?_;refine ag [30,3,28,2,1,29] [67,65,66,88,103,118,133] ?_;rw[m1];exact go _ _ _ _
 |x::r,done,o,a0,T,H,c,n,e,hn,hb,hO=>by
  have hd:=md e;have hll:=ml s.prefixes PList.enc;have hx:=mx PList.enc e hn;have hb0:(x::r).length=r.length+1:=rfl;have ih:=λa0 T H c=>Jg s g2 g3 a1 a2 a3 B1 B2 B3 hl R O go r (done++[x]) (o++[x.name]) a0 T H c (n+1) (by simp[e]) (by simp[hn]) (by simp;omega) (by rw[<-hO];simp)
  rw[List.map_append,Ar] at ih;refine evA ?_;refine ag [15,3,13,2,1,14] [67,65,66,88,103,118,133] ?_;exact ih _ _ _ _
theorem Je (s:PSet)(g:s.good)(h0:s.prefixes.length<2^30)(h1:s.paths.length<2^30)(h2:s.comms.length<2^30)(h3:s.pols.length<2^30):ab G 507 [.agg s.enc] [] ⟨.agg [.vs 0 0 (dM s).a.length,.vs 1 0 (dM s).b.length,.vs 2 0 (dM s).c.length,.vs 3 0 (dM s).d.length],[(false,.vec 1 ((dM s).a.map am)),(false,.vec 1 ((dM s).b.map am)),(false,.vec 1 ((dM s).c.map am)),(false,.vec 1 ((dM s).d.map am))]⟩:=by
 have m1:=ml s.prefixes PList.enc;refine gvB (F:=wH) ?_;refine en 88 1 [] [(67,some (_,.cells [.vs 88 _ 0,bh,bh,bh]))] trivial ⟨⟨rfl,⟨LeP.nilV _ _ _,.refl _,.refl _,.refl _,trivial⟩⟩,trivial⟩ ?_;refine en 103 1 [] [(67,some (_,.cells [.vs 88 _ 0,.vs 103 _ 0,bh,bh]))] trivial ⟨⟨rfl,⟨.refl _,LeP.nilV _ _ _,.refl _,.refl _,trivial⟩⟩,trivial⟩ ?_;refine en 118 1 [] [(67,some (_,.cells [.vs 88 _ 0,.vs 103 _ 0,.vs 118 _ 0,bh]))] trivial ⟨⟨rfl,⟨.refl _,.refl _,LeP.nilV _ _ _,.refl _,trivial⟩⟩,trivial⟩ ?_;refine en 133 1 [] [(67,some (_,.cells [.vs 88 _ 0,.vs 103 _ 0,.vs 118 _ 0,.vs 133 _ 0]))] trivial ⟨⟨rfl,⟨.refl _,.refl _,.refl _,LeP.nilV _ _ _,trivial⟩⟩,trivial⟩ ?_;refine ag [15,3,13,2,1,14] [67,65,66,88,103,118,133] ?_;rw[m1];refine Jg s _ _ _ _ _ [] [] [] g.a _ (dM s).a (λa0 T H c=>?_) s.prefixes [] [] _ _ _ _ 0 rfl rfl (by simpa using h0) (by simp[dM])
 refine CN s _ _ _ _ _ (dM s).a [] [] g.b _ (dM s).b (λa1 T H c=>?_) s.paths [] [] _ _ _ _ 0 rfl rfl (by simpa using h1) (by simp[dM])
 refine CM s _ _ _ _ _ (dM s).a (dM s).b [] g.c _ (dM s).c (λa2 T H c=>?_) s.comms [] [] _ _ _ _ 0 rfl rfl (by simpa using h2) (by simp[dM])
 exact CK s _ _ _ _ _ (dM s).a (dM s).b (dM s).c g.d _ (dM s).d rfl s.pols [] [] _ _ _ _ 0 rfl rfl (by simpa using h3) (by simp[dM])
@[simp] theorem aeh {α:Type}(g:α->CF)(l:List α):aa (l.map (am∘g))=true:=by rw[<-List.map_map];exact u5 _
theorem uX (r:RuleP)(h:r.ok):ab G 325 [.agg r.enc] [] ⟨.int .i64 (ruE r),[]⟩:=by
 have hv:ab G 178 [.agg [.int .u32 r.pfx.addr,.int .i64 r.pfx.len]] [] ⟨.bool (bj r.pfx),[]⟩:=gV r.pfx h.1;unfold ruE;cases hvp:bj r.pfx
 ·rw[hvp] at hv
  rw[Ac (by simp)]
  exact gvA (F:=qb)
 ·rw[hvp] at hv
  rw[Ad rfl]
  by_cases h1:r.min<r.pfx.len∨r.max<r.min∨r.max>32
  ·rw[Ad h1]
   refine gvC (F:=qb) ?_
   repeat' (first|refine aQ ?_|apply ae<;>intro h)
   all_goals try (exfalso;omega)
   all_goals (refine au ?_;rfl)
  ·rw[Ac h1]
   refine gvC (F:=qb) ?_
   repeat' (first|refine aQ ?_|apply ae<;>intro h)
   all_goals try (exfalso;omega)
   all_goals (refine au ?_;rfl)
theorem Nd (s:CF)(h:s.length<2^32):ab G 516 [.str s] [] (o8 (fx s)):=by
 rw[<-Ow];show (if s.length<2^32 then some (o8 (og s)) else none)=_
 rw[Ad h]
theorem aec (s:CF)(h:s.length<2^32): ∃(k lo hi:Int)(l:Do),ab G 516 [.str s] [] ⟨.tup [.agg [.int .i64 k,.int .i64 lo,.int .i64 hi,.sl 4 (l.map Rx.enc)],.int .i64 (if (fx s).isSome then 0 else 2)],[]⟩:=by
 have h1:=Nd s h;cases hq:fx s with
 |none=>
  rw[hq] at h1;refine ⟨0,0,0,[],?_⟩;have e:=bi 0 0 0 [];have h2:ab G 516 [.str s] [] ⟨.tup [.agg rx0.enc,.int .i64 2],[]⟩:=h1;unfold rx0 at h2;rw[e] at h2;exact h2
 |some x=>
  rw[hq] at h1;obtain ⟨k,lo,hi,l⟩:=x;refine ⟨k,lo,hi,l,?_⟩;have h2:ab G 516 [.str s] [] ⟨.tup [.agg (Rx.mk k lo hi l).enc,.int .i64 0],[]⟩:=h1;rw[bi] at h2;exact h2
def eaE {α:Type}(nm:α->CF)(sz:α->Nat)(chk:α->Int):List α->List α->Int
 |_,[]=>0
 |d,x::r=>if cq (d.map nm) (nm x)=0 then (if 64<sz x then 4 else if chk x=0 then eaE nm sz chk (d++[x]) r else chk x) else cq (d.map nm) (nm x)
theorem NC (l:DF)(h: ∀r∈l,r.ok)(hl:l.length<2^40)(i:Nat)(x:RuleP)(hx:l[i]? =some x):ab G 512 [.int .i64 (i:Int),.ref 0 0 0] [.cells [.sl 5 (l.map RuleP.enc)]] ⟨.int .i64 (ruE x),[(true,.cells [.sl 5 (l.map RuleP.enc)])]⟩:=by
 have m1:=ml l RuleP.enc;have hx1:(l.map RuleP.enc)[((i:Nat):Int).toNat]? =some x.enc:=by simp[hx]
 have hi:i<l.length:=(AC.1 hx).1;have h1:=uX x (h x (A5 hx));generalize ruE x=E at*;refine gvB (F:=aaR) ?_;refine fX1 ?_;rfl
theorem yz (l:DF)(h: ∀r∈l,r.ok)(hl:l.length<2^40): ∀(rest done:DF)(T:TV)(H:aq)(c:Nat)(n:Int)(e:l=done++rest)(hn:n=done.length),
  Ev G ⟨wG,⟨(8,.int .i64 n)::(1,.fn 512 [.ref 0 0 0])::(7,.int .i64 l.length)::T,(0,some (0,.cells [.sl 5 (l.map RuleP.enc)]))::H,c⟩,[.t 4],1⟩ ⟨.int .i64 (bg ruE rest),[(true,.cells [.sl 5 (l.map RuleP.enc)])]⟩
 | [],done,T,H,c,n,e,hn=>by
  have hd:=md0 e;refine evA ?_;refine fX1 ?_;rfl
 |x::r,done,T,H,c,n,e,hn=>by
  have hd:=md e;have h1:=NC l h hl done.length x (by simp[e])
  rw[<-hn] at h1;have ih:=λT H c=>yz l h hl r (done++[x]) T H c (n+1) (by simp[e]) (by simp[hn])
  rw[bg];generalize ruE x=E at*
  by_cases h0:E=0
  ·subst h0
   rw[Ad rfl];refine evl ?_
   repeat' (first|refine aQ ?_|refine kX1 0 rfl (h1) ?_|apply ae<;>intro h)
   refine ag [8,1,7] [0] ?_;exact ih _ _ _
  ·rw[Ac h0]
   refine evl ?_
   repeat' (first|refine aQ ?_|refine kX1 0 rfl (h1) ?_|apply ae<;>intro h)
   refine fX1 ?_;rfl
theorem NJ (l:DF)(h: ∀r∈l,r.ok)(hl:l.length<2^40):ab G 511 [.int .i64 l.length,.fn 512 [.ref 0 0 0]] [.cells [.sl 5 (l.map RuleP.enc)]] ⟨.int .i64 (bg ruE l),[(true,.cells [.sl 5 (l.map RuleP.enc)])]⟩:=by
 refine gvB (F:=AW) ?_;refine ag [8,1,7] [0] ?_;exact yz l h hl l [] _ _ _ 0 rfl rfl
section
variable (s:PSet)(g:s.good)(i:Nat)(x:PList)(hx:s.prefixes[i]? =some x)
include g hx
theorem Mw:ab G 509 [.int .i64 (i:Int),.ref 0 0 0] [.cells s.enc] ⟨.int .i64 x.rules.length,[(true,.cells s.enc)]⟩:=by
 have m1:=ml s.prefixes PList.enc;have m2:=ml x.rules RuleP.enc;have hx1:(s.prefixes.map PList.enc)[((i:Nat):Int).toNat]? =some x.enc:=by simp[hx]
 have hi:i<s.prefixes.length:=(AC.1 hx).1;have gl:=g.a;refine gvB (F:=aaT) ?_;refine fX1 ?_;rw[m2];rfl
theorem N8:ab G 510 [.int .i64 (i:Int),.ref 0 0 0] [.cells s.enc] ⟨.int .i64 (bg ruE x.rules),[(true,.cells s.enc)]⟩:=by
 have m1:=ml s.prefixes PList.enc;have m2:=ml x.rules RuleP.enc;have hx1:(s.prefixes.map PList.enc)[((i:Nat):Int).toNat]? =some x.enc:=by simp[hx]
 have hi:i<s.prefixes.length:=(AC.1 hx).1;have gl:=g.a;obtain ⟨q1,q2,q3⟩:=g.pre x (A5 hx);have h1:=NJ x.rules q3 q2;rw[<-m2] at h1;generalize bg ruE x.rules=E at*;refine gvC (F:=aaS) ?_
 repeat' (first|refine aQ ?_|refine kX1 68 rfl (h1) ?_|apply ae<;>intro h)
 refine fX1 ?_;rfl
end
theorem NA (l:DG)(h: ∀r∈l,r.pattern.length<2^32)(hl:l.length<2^40)(i:Nat)(x:PathR)(hx:l[i]? =some x):ab G 515 [.int .i64 (i:Int),.ref 0 0 0] [.cells [.sl 2 (l.map PathR.enc)]] ⟨.int .i64 (paE x),[(true,.cells [.sl 2 (l.map PathR.enc)])]⟩:=by
 have m1:=ml l PathR.enc;have hx1:(l.map PathR.enc)[((i:Nat):Int).toNat]? =some x.enc:=by simp[hx]
 have hi:i<l.length:=(AC.1 hx).1;obtain ⟨k0,lo0,hi0,l0,h1⟩:=aec x.pattern (h x (A5 hx))
 change ab G 516 [.str x.pattern] [] ⟨.tup [_,.int .i64 (paE x)],[]⟩ at h1
 generalize paE x=E at*;refine gvB (F:=aaO) ?_;refine fX1 ?_;rfl
theorem yy (l:DG)(h: ∀r∈l,r.pattern.length<2^32)(hl:l.length<2^40): ∀(rest done:DG)(T:TV)(H:aq)(c:Nat)(n:Int)(e:l=done++rest)(hn:n=done.length),
  Ev G ⟨wG,⟨(8,.int .i64 n)::(1,.fn 515 [.ref 0 0 0])::(7,.int .i64 l.length)::T,(0,some (0,.cells [.sl 2 (l.map PathR.enc)]))::H,c⟩,[.t 4],1⟩ ⟨.int .i64 (bg paE rest),[(true,.cells [.sl 2 (l.map PathR.enc)])]⟩
 | [],done,T,H,c,n,e,hn=>by
  have hd:=md0 e;refine evA ?_;refine fX1 ?_;rfl
 |x::r,done,T,H,c,n,e,hn=>by
  have hd:=md e;have h1:=NA l h hl done.length x (by simp[e])
  rw[<-hn] at h1;have ih:=λT H c=>yy l h hl r (done++[x]) T H c (n+1) (by simp[e]) (by simp[hn])
  rw[bg];generalize paE x=E at*
  by_cases h0:E=0
  ·subst h0
   rw[Ad rfl];refine evl ?_
   repeat' (first|refine aQ ?_|refine kX1 0 rfl (h1) ?_|apply ae<;>intro h)
   refine ag [8,1,7] [0] ?_;exact ih _ _ _
  ·rw[Ac h0]
   refine evl ?_
   repeat' (first|refine aQ ?_|refine kX1 0 rfl (h1) ?_|apply ae<;>intro h)
   refine fX1 ?_;rfl
theorem NI (l:DG)(h: ∀r∈l,r.pattern.length<2^32)(hl:l.length<2^40):ab G 511 [.int .i64 l.length,.fn 515 [.ref 0 0 0]] [.cells [.sl 2 (l.map PathR.enc)]] ⟨.int .i64 (bg paE l),[(true,.cells [.sl 2 (l.map PathR.enc)])]⟩:=by
 refine gvB (F:=AW) ?_;refine ag [8,1,7] [0] ?_;exact yy l h hl l [] _ _ _ 0 rfl rfl
section
variable (s:PSet)(g:s.good)(i:Nat)(x:PathL)(hx:s.paths[i]? =some x)
include g hx
theorem Mu:ab G 513 [.int .i64 (i:Int),.ref 0 0 0] [.cells s.enc] ⟨.int .i64 x.rules.length,[(true,.cells s.enc)]⟩:=by
 have m1:=ml s.paths PathL.enc;have m2:=ml x.rules PathR.enc;have hx1:(s.paths.map PathL.enc)[((i:Nat):Int).toNat]? =some x.enc:=by simp[hx]
 have hi:i<s.paths.length:=(AC.1 hx).1;have gl:=g.b;refine gvB (F:=aaQ) ?_;refine fX1 ?_;rw[m2];rfl
theorem NZ:ab G 514 [.int .i64 (i:Int),.ref 0 0 0] [.cells s.enc] ⟨.int .i64 (bg paE x.rules),[(true,.cells s.enc)]⟩:=by
 have m1:=ml s.paths PathL.enc;have m2:=ml x.rules PathR.enc;have hx1:(s.paths.map PathL.enc)[((i:Nat):Int).toNat]? =some x.enc:=by simp[hx]
 have hi:i<s.paths.length:=(AC.1 hx).1;have gl:=g.b;obtain ⟨q1,q2,q3⟩:=g.pat x (A5 hx);have h1:=NI x.rules q3 q2;rw[<-m2] at h1;generalize bg paE x.rules=E at*;refine gvC (F:=aaP) ?_
 repeat' (first|refine aQ ?_|refine kX1 68 rfl (h1) ?_|apply ae<;>intro h)
 refine fX1 ?_;rfl
end
theorem Ny (l:DR)(h: ∀r∈l,True)(hl:l.length<2^40)(i:Nat)(x:ComR)(hx:l[i]? =some x):ab G 519 [.int .i64 (i:Int),.ref 0 0 0] [.cells [.sl 3 (l.map ComR.enc)]] ⟨.int .i64 (bW x),[(true,.cells [.sl 3 (l.map ComR.enc)])]⟩:=by
 have m1:=ml l ComR.enc;have hx1:(l.map ComR.enc)[((i:Nat):Int).toNat]? =some x.enc:=by simp[hx]
 have hi:i<l.length:=(AC.1 hx).1;have h1:=tK x;generalize bW x=E at*;refine gvB (F:=aaL) ?_;refine fX1 ?_;rfl
theorem yx (l:DR)(h: ∀r∈l,True)(hl:l.length<2^40): ∀(rest done:DR)(T:TV)(H:aq)(c:Nat)(n:Int)(e:l=done++rest)(hn:n=done.length),
  Ev G ⟨wG,⟨(8,.int .i64 n)::(1,.fn 519 [.ref 0 0 0])::(7,.int .i64 l.length)::T,(0,some (0,.cells [.sl 3 (l.map ComR.enc)]))::H,c⟩,[.t 4],1⟩ ⟨.int .i64 (bg bW rest),[(true,.cells [.sl 3 (l.map ComR.enc)])]⟩
 | [],done,T,H,c,n,e,hn=>by
  have hd:=md0 e;refine evA ?_;refine fX1 ?_;rfl
 |x::r,done,T,H,c,n,e,hn=>by
  have hd:=md e;have h1:=Ny l h hl done.length x (by simp[e])
  rw[<-hn] at h1;have ih:=λT H c=>yx l h hl r (done++[x]) T H c (n+1) (by simp[e]) (by simp[hn])
  rw[bg];generalize bW x=E at*
  by_cases h0:E=0
  ·subst h0
   rw[Ad rfl];refine evl ?_
   repeat' (first|refine aQ ?_|refine kX1 0 rfl (h1) ?_|apply ae<;>intro h)
   refine ag [8,1,7] [0] ?_;exact ih _ _ _
  ·rw[Ac h0]
   refine evl ?_
   repeat' (first|refine aQ ?_|refine kX1 0 rfl (h1) ?_|apply ae<;>intro h)
   refine fX1 ?_;rfl
theorem NF (l:DR)(h: ∀r∈l,True)(hl:l.length<2^40):ab G 511 [.int .i64 l.length,.fn 519 [.ref 0 0 0]] [.cells [.sl 3 (l.map ComR.enc)]] ⟨.int .i64 (bg bW l),[(true,.cells [.sl 3 (l.map ComR.enc)])]⟩:=by
 refine gvB (F:=AW) ?_;refine ag [8,1,7] [0] ?_;exact yx l h hl l [] _ _ _ 0 rfl rfl
section
variable (s:PSet)(g:s.good)(i:Nat)(x:ComL)(hx:s.comms[i]? =some x)
include g hx
theorem Mq:ab G 517 [.int .i64 (i:Int),.ref 0 0 0] [.cells s.enc] ⟨.int .i64 x.rules.length,[(true,.cells s.enc)]⟩:=by
 have m1:=ml s.comms ComL.enc;have m2:=ml x.rules ComR.enc;have hx1:(s.comms.map ComL.enc)[((i:Nat):Int).toNat]? =some x.enc:=by simp[hx]
 have hi:i<s.comms.length:=(AC.1 hx).1;have gl:=g.c;refine gvB (F:=aaN) ?_;refine fX1 ?_;rw[m2];rfl
theorem NY:ab G 518 [.int .i64 (i:Int),.ref 0 0 0] [.cells s.enc] ⟨.int .i64 (bg bW x.rules),[(true,.cells s.enc)]⟩:=by
 have m1:=ml s.comms ComL.enc;have m2:=ml x.rules ComR.enc;have hx1:(s.comms.map ComL.enc)[((i:Nat):Int).toNat]? =some x.enc:=by simp[hx]
 have hi:i<s.comms.length:=(AC.1 hx).1;have gl:=g.c;obtain ⟨q1,q2,q3⟩:=g.com x (A5 hx);have h1:=NF x.rules (λ_ _=>trivial) q2
 rw[<-m2] at h1;generalize bg bW x.rules=E at*;refine gvC (F:=aaM) ?_
 repeat' (first|refine aQ ?_|refine kX1 68 rfl (h1) ?_|apply ae<;>intro h)
 refine fX1 ?_;rfl
end
theorem yN (s:PSet)(g:s.good): ∀(rest done:C3)(T:TV)(H:aq)(c:Nat)(n:Int)(e:s.prefixes=done++rest)(hn:n=done.length),
  Ev G ⟨pC,⟨(16,.int .i64 n)::(2,.fn 510 [.ref 0 0 0])::(1,.fn 509 [.ref 0 0 0])::(0,.sl 1 ((s.prefixes.map PList.name).map am))::(14,.sl 1 ((s.prefixes.map PList.name).map am))::(15,.int .i64 s.prefixes.length)::T,(0,some (0,.cells s.enc))::H,c⟩,[.t 6],1⟩ ⟨.int .i64 (eaE PList.name (λx:PList=>x.rules.length) (λx=>bg ruE x.rules) done rest),[(true,.cells s.enc)]⟩
 | [],done,T,H,c,n,e,hn=>by
  have hd:=md0 e;refine evA ?_;refine fX1 ?_;rfl
 |x::r,done,T,H,c,n,e,hn=>by
  have hd:=md e;have gl:=g.a;have m1:((s.prefixes.map PList.name).map am).length=s.prefixes.length:=by simp
  have hx:((s.prefixes.map PList.name).map am)[n.toNat]? =some [.str x.name]:=by simp[e,hn,am]
  obtain ⟨q1,q2,q3⟩:=g.pre x (by simp[e])
  have h2:ab G 577 [.sl 1 (List.take (n.toNat-0) (List.drop 0 ((s.prefixes.map PList.name).map am))),.str x.name] [] ⟨.int .i64 (cq (done.map PList.name) x.name),[]⟩:=by
   have h:=dj (done.map PList.name) x.name q1 (by simp;omega)
   have q:List.take (n.toNat-0) (List.drop 0 ((s.prefixes.map PList.name).map am))=(done.map PList.name).map am:=by
    rw[e,hn];simp
   rw[q];exact h
  have h3:=Mw s g done.length x (by simp[e])
  have h4:=N8 s g done.length x (by simp[e])
  rw[<-hn] at h3 h4;have ih:=λT H c=>yN s g r (done++[x]) T H c (n+1) (by simp[e]) (by simp[hn])
  rw[eaE];generalize cq (done.map PList.name) x.name=A at*
  by_cases a:A=0
  ·subst a
   rw[Ad rfl]
   by_cases b:64<x.rules.length
   ·rw[Ad b]
    refine evl ?_
    repeat' (first|refine aQ ?_|refine kX1 0 rfl (h3) ?_|apply ae<;>intro h)
    refine fX1 ?_;rfl
   ·rw[Ac b]
    generalize bg ruE x.rules=E at*
    by_cases h0:E=0
    ·subst h0
     rw[Ad rfl];refine evl ?_
     repeat' (first|refine aQ ?_|refine kX1 0 rfl (h3) ?_|refine kX1 0 rfl (h4) ?_|apply ae<;>intro h)
     refine ag [16,2,1,0,14,15] [0] ?_;exact ih _ _ _
    ·rw[Ac h0]
     refine evl ?_
     repeat' (first|refine aQ ?_|refine kX1 0 rfl (h3) ?_|refine kX1 0 rfl (h4) ?_|apply ae<;>intro h)
     refine fX1 ?_;rfl
  ·rw[Ac a]
   refine evA ?_;refine fX1 ?_;rfl
theorem NV (s:PSet)(g:s.good):ab G 508 [.sl 1 ((s.prefixes.map PList.name).map am),.fn 509 [.ref 0 0 0],.fn 510 [.ref 0 0 0]] [.cells s.enc] ⟨.int .i64 (if 64<s.prefixes.length then 4 else eaE PList.name (λx:PList=>x.rules.length) (λx=>bg ruE x.rules) [] s.prefixes),[(true,.cells s.enc)]⟩:=by
 have gl:=g.a;have m1:((s.prefixes.map PList.name).map am).length=s.prefixes.length:=by simp
 by_cases c:64<s.prefixes.length
 ·rw[Ad c]
  refine gvB (F:=oC) ?_;refine fX1 ?_;rfl
 ·rw[Ac c]
  refine gvB (F:=oC) ?_;refine ag [16,2,1,0,14,15] [0] ?_;rw[m1];exact yN s g s.prefixes [] _ _ _ 0 rfl rfl
theorem yM (s:PSet)(g:s.good): ∀(rest done:C4)(T:TV)(H:aq)(c:Nat)(n:Int)(e:s.paths=done++rest)(hn:n=done.length),
  Ev G ⟨pC,⟨(16,.int .i64 n)::(2,.fn 514 [.ref 0 0 0])::(1,.fn 513 [.ref 0 0 0])::(0,.sl 1 ((s.paths.map PathL.name).map am))::(14,.sl 1 ((s.paths.map PathL.name).map am))::(15,.int .i64 s.paths.length)::T,(0,some (0,.cells s.enc))::H,c⟩,[.t 6],1⟩ ⟨.int .i64 (eaE PathL.name (λx:PathL=>x.rules.length) (λx=>bg paE x.rules) done rest),[(true,.cells s.enc)]⟩
 | [],done,T,H,c,n,e,hn=>by
  have hd:=md0 e;refine evA ?_;refine fX1 ?_;rfl
 |x::r,done,T,H,c,n,e,hn=>by
  have hd:=md e;have gl:=g.b;have m1:((s.paths.map PathL.name).map am).length=s.paths.length:=by simp
  have hx:((s.paths.map PathL.name).map am)[n.toNat]? =some [.str x.name]:=by simp[e,hn,am]
  obtain ⟨q1,q2,q3⟩:=g.pat x (by simp[e])
  have h2:ab G 577 [.sl 1 (List.take (n.toNat-0) (List.drop 0 ((s.paths.map PathL.name).map am))),.str x.name] [] ⟨.int .i64 (cq (done.map PathL.name) x.name),[]⟩:=by
   have h:=dj (done.map PathL.name) x.name q1 (by simp;omega)
   have q:List.take (n.toNat-0) (List.drop 0 ((s.paths.map PathL.name).map am))=(done.map PathL.name).map am:=by
    rw[e,hn];simp
   rw[q];exact h
  have h3:=Mu s g done.length x (by simp[e])
  have h4:=NZ s g done.length x (by simp[e])
  rw[<-hn] at h3 h4;have ih:=λT H c=>yM s g r (done++[x]) T H c (n+1) (by simp[e]) (by simp[hn])
  rw[eaE];generalize cq (done.map PathL.name) x.name=A at*
  by_cases a:A=0
  ·subst a
   rw[Ad rfl]
   by_cases b:64<x.rules.length
   ·rw[Ad b]
    refine evl ?_
    repeat' (first|refine aQ ?_|refine kX1 0 rfl (h3) ?_|apply ae<;>intro h)
    refine fX1 ?_;rfl
   ·rw[Ac b]
    generalize bg paE x.rules=E at*
    by_cases h0:E=0
    ·subst h0
     rw[Ad rfl];refine evl ?_
     repeat' (first|refine aQ ?_|refine kX1 0 rfl (h3) ?_|refine kX1 0 rfl (h4) ?_|apply ae<;>intro h)
     refine ag [16,2,1,0,14,15] [0] ?_;exact ih _ _ _
    ·rw[Ac h0]
     refine evl ?_
     repeat' (first|refine aQ ?_|refine kX1 0 rfl (h3) ?_|refine kX1 0 rfl (h4) ?_|apply ae<;>intro h)
     refine fX1 ?_;rfl
  ·rw[Ac a]
   refine evA ?_;refine fX1 ?_;rfl
theorem NU (s:PSet)(g:s.good):ab G 508 [.sl 1 ((s.paths.map PathL.name).map am),.fn 513 [.ref 0 0 0],.fn 514 [.ref 0 0 0]] [.cells s.enc] ⟨.int .i64 (if 64<s.paths.length then 4 else eaE PathL.name (λx:PathL=>x.rules.length) (λx=>bg paE x.rules) [] s.paths),[(true,.cells s.enc)]⟩:=by
 have gl:=g.b;have m1:((s.paths.map PathL.name).map am).length=s.paths.length:=by simp
 by_cases c:64<s.paths.length
 ·rw[Ad c]
  refine gvB (F:=oC) ?_;refine fX1 ?_;rfl
 ·rw[Ac c]
  refine gvB (F:=oC) ?_;refine ag [16,2,1,0,14,15] [0] ?_;rw[m1];exact yM s g s.paths [] _ _ _ 0 rfl rfl
theorem yL (s:PSet)(g:s.good): ∀(rest done:C6)(T:TV)(H:aq)(c:Nat)(n:Int)(e:s.comms=done++rest)(hn:n=done.length),
  Ev G ⟨pC,⟨(16,.int .i64 n)::(2,.fn 518 [.ref 0 0 0])::(1,.fn 517 [.ref 0 0 0])::(0,.sl 1 ((s.comms.map ComL.name).map am))::(14,.sl 1 ((s.comms.map ComL.name).map am))::(15,.int .i64 s.comms.length)::T,(0,some (0,.cells s.enc))::H,c⟩,[.t 6],1⟩ ⟨.int .i64 (eaE ComL.name (λx:ComL=>x.rules.length) (λx=>bg bW x.rules) done rest),[(true,.cells s.enc)]⟩
 | [],done,T,H,c,n,e,hn=>by
  have hd:=md0 e;refine evA ?_;refine fX1 ?_;rfl
 |x::r,done,T,H,c,n,e,hn=>by
  have hd:=md e;have gl:=g.c;have m1:((s.comms.map ComL.name).map am).length=s.comms.length:=by simp
  have hx:((s.comms.map ComL.name).map am)[n.toNat]? =some [.str x.name]:=by simp[e,hn,am]
  obtain ⟨q1,q2,q3⟩:=g.com x (by simp[e])
  have h2:ab G 577 [.sl 1 (List.take (n.toNat-0) (List.drop 0 ((s.comms.map ComL.name).map am))),.str x.name] [] ⟨.int .i64 (cq (done.map ComL.name) x.name),[]⟩:=by
   have h:=dj (done.map ComL.name) x.name q1 (by simp;omega)
   have q:List.take (n.toNat-0) (List.drop 0 ((s.comms.map ComL.name).map am))=(done.map ComL.name).map am:=by
    rw[e,hn];simp
   rw[q];exact h
  have h3:=Mq s g done.length x (by simp[e])
  have h4:=NY s g done.length x (by simp[e])
  rw[<-hn] at h3 h4;have ih:=λT H c=>yL s g r (done++[x]) T H c (n+1) (by simp[e]) (by simp[hn])
  rw[eaE];generalize cq (done.map ComL.name) x.name=A at*
  by_cases a:A=0
  ·subst a
   rw[Ad rfl]
   by_cases b:64<x.rules.length
   ·rw[Ad b]
    refine evl ?_
    repeat' (first|refine aQ ?_|refine kX1 0 rfl (h3) ?_|apply ae<;>intro h)
    refine fX1 ?_;rfl
   ·rw[Ac b]
    generalize bg bW x.rules=E at*
    by_cases h0:E=0
    ·subst h0
     rw[Ad rfl];refine evl ?_
     repeat' (first|refine aQ ?_|refine kX1 0 rfl (h3) ?_|refine kX1 0 rfl (h4) ?_|apply ae<;>intro h)
     refine ag [16,2,1,0,14,15] [0] ?_;exact ih _ _ _
    ·rw[Ac h0]
     refine evl ?_
     repeat' (first|refine aQ ?_|refine kX1 0 rfl (h3) ?_|refine kX1 0 rfl (h4) ?_|apply ae<;>intro h)
     refine fX1 ?_;rfl
  ·rw[Ac a]
   refine evA ?_;refine fX1 ?_;rfl
theorem NT (s:PSet)(g:s.good):ab G 508 [.sl 1 ((s.comms.map ComL.name).map am),.fn 517 [.ref 0 0 0],.fn 518 [.ref 0 0 0]] [.cells s.enc] ⟨.int .i64 (if 64<s.comms.length then 4 else eaE ComL.name (λx:ComL=>x.rules.length) (λx=>bg bW x.rules) [] s.comms),[(true,.cells s.enc)]⟩:=by
 have gl:=g.c;have m1:((s.comms.map ComL.name).map am).length=s.comms.length:=by simp
 by_cases c:64<s.comms.length
 ·rw[Ad c]
  refine gvB (F:=oC) ?_;refine fX1 ?_;rfl
 ·rw[Ac c]
  refine gvB (F:=oC) ?_;refine ag [16,2,1,0,14,15] [0] ?_;rw[m1];exact yL s g s.comms [] _ _ _ 0 rfl rfl
def vz:CF:=[112,114,101,102,105,120,45,108,105,115,116,32]
def vC:CF:=[112,97,116,104,45,108,105,115,116,32]
def vH:CF:=[99,111,109,109,117,110,105,116,121,45,108,105,115,116,32]
def Xp:CF:=[112,114,111,116,111,99,111,108,32]
def vy:CF:=[116,97,103,32]
def vE:CF:=[109,101,116,114,105,99,32]
def vG:CF:=[110,101,120,116,45,104,111,112,32]
def Xq:CF:=[112,97,116,104,45,108,101,110,103,116,104,32]
def FH:CF:=[112,114,101,102,32]
def P9:CF:=[109,101,100,32]
def Qc:CF:=[97,100,100,32]
def Qb:CF:=[100,101,108,101,116,101,32]
def P8:CF:=[112,114,101,112,101,110,100,32]
def wPermit:CF:=[112,101,114,109,105,116,32]
def wDeny:CF:=[100,101,110,121,32]
def Xv:CF:=[97,99,99,101,112,116]
def Xo:CF:=[114,101,106,101,99,116]
def Xu:CF:=[110,101,120,116]
def wC0:CF:=[103,114,97,99,101,102,117,108,45,115,104,117,116,100,111,119,110]
def wC1:CF:=[110,111,45,101,120,112,111,114,116]
def wC2:CF:=[110,111,45,97,100,118,101,114,116,105,115,101]
def wC3:CF:=[110,111,45,101,120,112,111,114,116,45,99,111,110,102,101,100]
def iO (x:Nat):CF:=if (x:Int)=4294901760 then wC0 else if (x:Int)=4294967041 then wC1 else if (x:Int)=4294967042 then wC2 else if (x:Int)=4294967043 then wC3 else ah ((x/ 65536:Nat):Int)++58::ah ((x % 65536:Nat):Int)
theorem wY (x:Nat):(iO x).length<=43:=by
 unfold iO;have h1:=bC ((x/ 65536:Nat):Int);have h2:=bC ((x % 65536:Nat):Int)
 repeat' split
 all_goals first|decide|(simp only[Ar,As];omega)
section
variable {k:AV->Prop}
theorem abG {x:Nat}(hx:x<4294967296)(h:k (.int .u32 ((x % 65536:Nat):Int))): ∃v,bp .and (.int .u32 (x:Int)) (.int .u32 65535)=some v/\k v:=
 ⟨_,by
  show some (AV.int .u32 (intBits .and .u32 (x:Int) ((65535:Nat):Int)))=_
  rw[qB x 65535 hx (by omega),show (65535:Nat)=2^16-1 from rfl,Nat.and_two_pow_sub_one_eq_mod],h⟩
end
section
variable (x:Nat)(hx:x<4294967296)(T:TV)(H:aq)(c g:Nat)
include hx
theorem abl:
  Ev G ⟨oB,⟨(12,.int .i64 4)::(11,.agg [.int .u32 4294901760,.int .u32 4294967041,.int .u32 4294967042,.int .u32 4294967043])::(4,.ref 68 g 0)::(0,.int .u32 (x:Int))::T,(68,some (g,.cells [.str [103,114,97,99,101,102,117,108,45,115,104,117,116,100,111,119,110],.str [110,111,45,101,120,112,111,114,116],.str [110,111,45,97,100,118,101,114,116,105,115,101],.str [110,111,45,101,120,112,111,114,116,45,99,111,110,102,101,100]]))::H,c⟩,[.t 2],0⟩ ⟨.str (ah ((x/ 65536:Nat):Int)++58::ah ((x % 65536:Nat):Int)),[]⟩:=by
 have d1:=dec_gives337 (n:=((x/ 65536:Nat):Int)) (by unfold okI;omega)
 have d2:=dec_gives337 (n:=((x % 65536:Nat):Int)) (by unfold okI;omega)
 have l1:=bC ((x/ 65536:Nat):Int);have l2:=bC ((x % 65536:Nat):Int);generalize ah ((x/ 65536:Nat):Int)=a at*;generalize ah ((x % 65536:Nat):Int)=b at*;refine evl ?_
 repeat' ((conv=>whnf);first|refine zShrC 65536 ?_ (by rfl) (by omega) (by omega)|refine abG hx ?_|refine bQ ?_|refine ay ?_|apply ae<;>intro h)
 refine au ?_;simp
theorem abm:
  Ev G ⟨oB,⟨(12,.int .i64 3)::(11,.agg [.int .u32 4294901760,.int .u32 4294967041,.int .u32 4294967042,.int .u32 4294967043])::(4,.ref 68 g 0)::(0,.int .u32 (x:Int))::T,(68,some (g,.cells [.str [103,114,97,99,101,102,117,108,45,115,104,117,116,100,111,119,110],.str [110,111,45,101,120,112,111,114,116],.str [110,111,45,97,100,118,101,114,116,105,115,101],.str [110,111,45,101,120,112,111,114,116,45,99,111,110,102,101,100]]))::H,c⟩,[.t 2],0⟩ ⟨.str (if (x:Int)=4294967043 then wC3 else ah ((x/ 65536:Nat):Int)++58::ah ((x % 65536:Nat):Int)),[]⟩:=by
 have ih:=λT H c=>abl x hx T H c g
 by_cases e:(x:Int)=4294967043
 ·rw[Ad e]
  refine evl ?_
  repeat' ((conv=>whnf);first|refine nv e ?_|refine ay ?_|apply ae<;>intro h)
  refine au ?_;rfl
 ·rw[Ac e]
  refine evl ?_
  repeat' ((conv=>whnf);first|refine jf e ?_|refine ay ?_|apply ae<;>intro h)
  refine ag [12,11,4,0] [68] ?_;exact ih _ _ _
theorem abn:
  Ev G ⟨oB,⟨(12,.int .i64 2)::(11,.agg [.int .u32 4294901760,.int .u32 4294967041,.int .u32 4294967042,.int .u32 4294967043])::(4,.ref 68 g 0)::(0,.int .u32 (x:Int))::T,(68,some (g,.cells [.str [103,114,97,99,101,102,117,108,45,115,104,117,116,100,111,119,110],.str [110,111,45,101,120,112,111,114,116],.str [110,111,45,97,100,118,101,114,116,105,115,101],.str [110,111,45,101,120,112,111,114,116,45,99,111,110,102,101,100]]))::H,c⟩,[.t 2],0⟩ ⟨.str (if (x:Int)=4294967042 then wC2 else if (x:Int)=4294967043 then wC3 else ah ((x/ 65536:Nat):Int)++58::ah ((x % 65536:Nat):Int)),[]⟩:=by
 have ih:=λT H c=>abm x hx T H c g
 by_cases e:(x:Int)=4294967042
 ·rw[Ad e]
  refine evl ?_
  repeat' ((conv=>whnf);first|refine nv e ?_|refine ay ?_|apply ae<;>intro h)
  refine au ?_;rfl
 ·rw[Ac e]
  refine evl ?_
  repeat' ((conv=>whnf);first|refine jf e ?_|refine ay ?_|apply ae<;>intro h)
  refine ag [12,11,4,0] [68] ?_;exact ih _ _ _
theorem abo:
  Ev G ⟨oB,⟨(12,.int .i64 1)::(11,.agg [.int .u32 4294901760,.int .u32 4294967041,.int .u32 4294967042,.int .u32 4294967043])::(4,.ref 68 g 0)::(0,.int .u32 (x:Int))::T,(68,some (g,.cells [.str [103,114,97,99,101,102,117,108,45,115,104,117,116,100,111,119,110],.str [110,111,45,101,120,112,111,114,116],.str [110,111,45,97,100,118,101,114,116,105,115,101],.str [110,111,45,101,120,112,111,114,116,45,99,111,110,102,101,100]]))::H,c⟩,[.t 2],0⟩ ⟨.str (if (x:Int)=4294967041 then wC1 else if (x:Int)=4294967042 then wC2 else if (x:Int)=4294967043 then wC3 else ah ((x/ 65536:Nat):Int)++58::ah ((x % 65536:Nat):Int)),[]⟩:=by
 have ih:=λT H c=>abn x hx T H c g
 by_cases e:(x:Int)=4294967041
 ·rw[Ad e]
  refine evl ?_
  repeat' ((conv=>whnf);first|refine nv e ?_|refine ay ?_|apply ae<;>intro h)
  refine au ?_;rfl
 ·rw[Ac e]
  refine evl ?_
  repeat' ((conv=>whnf);first|refine jf e ?_|refine ay ?_|apply ae<;>intro h)
  refine ag [12,11,4,0] [68] ?_;exact ih _ _ _
theorem abp:
  Ev G ⟨oB,⟨(12,.int .i64 0)::(11,.agg [.int .u32 4294901760,.int .u32 4294967041,.int .u32 4294967042,.int .u32 4294967043])::(4,.ref 68 g 0)::(0,.int .u32 (x:Int))::T,(68,some (g,.cells [.str [103,114,97,99,101,102,117,108,45,115,104,117,116,100,111,119,110],.str [110,111,45,101,120,112,111,114,116],.str [110,111,45,97,100,118,101,114,116,105,115,101],.str [110,111,45,101,120,112,111,114,116,45,99,111,110,102,101,100]]))::H,c⟩,[.t 2],0⟩ ⟨.str (if (x:Int)=4294901760 then wC0 else if (x:Int)=4294967041 then wC1 else if (x:Int)=4294967042 then wC2 else if (x:Int)=4294967043 then wC3 else ah ((x/ 65536:Nat):Int)++58::ah ((x % 65536:Nat):Int)),[]⟩:=by
 have ih:=λT H c=>abo x hx T H c g
 by_cases e:(x:Int)=4294901760
 ·rw[Ad e]
  refine evl ?_
  repeat' ((conv=>whnf);first|refine nv e ?_|refine ay ?_|apply ae<;>intro h)
  refine au ?_;rfl
 ·rw[Ac e]
  refine evl ?_
  repeat' ((conv=>whnf);first|refine jf e ?_|refine ay ?_|apply ae<;>intro h)
  refine ag [12,11,4,0] [68] ?_;exact ih _ _ _
theorem tJ:ab G 583 [.int .u32 (x:Int)] [] ⟨.str (iO x),[]⟩:=by
 have h:ab G 628 [] [] ⟨.tup [.agg [.int .u32 4294901760,.int .u32 4294967041,.int .u32 4294967042,.int .u32 4294967043],.agg [.str [103,114,97,99,101,102,117,108,45,115,104,117,116,100,111,119,110],.str [110,111,45,101,120,112,111,114,116],.str [110,111,45,97,100,118,101,114,116,105,115,101],.str [110,111,45,101,120,112,111,114,116,45,99,111,110,102,101,100]]],[]⟩:=tj 100 rfl rfl rfl;refine gvB (F:=Sy) ?_;refine ag [12,11,4,0] [68] ?_;exact abp x hx _ _ _ _
theorem KJ:ab G 584 [.int .u32 (x:Int)] [] ⟨.str (iO x),[]⟩:=by
 have d1:=gn (n:=((x/ 65536:Nat):Int)) (by unfold okI;omega)
 have d2:=gn (n:=((x % 65536:Nat):Int)) (by unfold okI;omega)
 have l1:=bC ((x/ 65536:Nat):Int);have l2:=bC ((x % 65536:Nat):Int);unfold iO;generalize ah ((x/ 65536:Nat):Int)=a at*;generalize ah ((x % 65536:Nat):Int)=b at*;refine gvC (F:=aav) ?_
 repeat' ((conv=>whnf);first|refine zShrC 65536 ?_ (by rfl) (by omega) (by omega)|refine abG hx ?_|refine bQ ?_|refine ay ?_|apply ae<;>intro h)
 all_goals (refine au ?_;simp[*,wC0,wC1,wC2,wC3])
end
def i7 (m:Mat):CF:=if m.kind=1 then vz++m.name else if m.kind=2 then vC++m.name else if m.kind=3 then vH++m.name else if m.kind=4 then Xp++ah m.n else if m.kind=5 then vy++ah m.n else if m.kind=6 then vE++ah m.n else if m.kind=7 then vG++pfT m.pfx else Xq++ah m.n
def jm (a:Actn):CF:=if a.kind=1 then FH++ah a.n else if a.kind=2 then P9++ah a.n else if a.kind=3 then vE++ah a.n else if a.kind=4 then vy++ah a.n else if a.kind=5 then vG++dots a.addr.toNat else if a.kind=6 then Qc++iO a.com.toNat else if a.kind=7 then Qb++iO a.com.toNat else P8++(ah a.asn++32::ah a.n)
section
variable (m:Mat)(h:m.ok)(hl:m.name.length<2^40)
include h hl
theorem Jl:ab G 524 [.agg m.enc] [] ⟨.str (i7 m),[]⟩:=by
 have d:=dec_gives337 h.2.1;have t:ab G 229 [.agg m.pfx.enc] [] ⟨.str (pfT m.pfx),[]⟩:=text_gives229 m.pfx h.2.2;have ld:=bC m.n;have lt:=OL m.pfx h.2.2;unfold i7;clear h;generalize pfT m.pfx=p at*;generalize ah m.n=dn at*;refine gvC (F:=aaH) ?_
 repeat' ((conv=>whnf);first|refine bQ ?_|refine ay ?_|apply ae<;>intro h)
 all_goals (refine au ?_;simp[*,vz,vC,vH,Xp,vy,vE,vG,Xq])
theorem Jk:ab G 527 [.agg m.enc] [] ⟨.str (i7 m),[]⟩:=by
 have d:=gn h.2.1;have t:ab G 230 [.agg m.pfx.enc] [] ⟨.str (pfT m.pfx),[]⟩:=rI m.pfx h.2.2;have ld:=bC m.n;have lt:=OL m.pfx h.2.2;unfold i7;clear h;generalize pfT m.pfx=p at*;generalize ah m.n=dn at*;refine gvC (F:=aaE) ?_
 repeat' ((conv=>whnf);first|refine bQ ?_|refine ay ?_|apply ae<;>intro h)
 all_goals (refine au ?_;simp[*,vz,vC,vH,Xp,vy,vE,vG,Xq])
end
theorem LY (a:Actn)(h:a.ok):ab G 525 [.agg a.enc] [] ⟨.str (jm a),[]⟩:=by
 obtain ⟨h0,h1,h2,h3,h4⟩:=h;obtain ⟨ea,ha⟩:=nat_of h4;obtain ⟨ec,hc⟩:=nat_of h3;have d:=dec_gives337 h1;have d2:=dec_gives337 h2;have ta:=addr_gives227 a.addr.toNat ha;have tc:=tJ a.com.toNat hc;rw[<-ea] at ta;rw[<-ec] at tc;have l1:=bC a.n;have l2:=bC a.asn;have l3:=dots_len ha;have l4:=wY a.com.toNat;clear ea ha ec hc h0 h1 h2 h3 h4;unfold jm;generalize ah a.n=dn at*;generalize ah a.asn=da at*;generalize dots a.addr.toNat=dt at*;generalize iO a.com.toNat=ct at*;refine gvC (F:=aaG) ?_
 repeat' ((conv=>whnf);first|refine bQ ?_|refine ay ?_|apply ae<;>intro h)
 all_goals (refine au ?_;simp[*,FH,P9,vE,vy,vG,Qc,Qb,P8])
theorem LX (a:Actn)(h:a.ok):ab G 528 [.agg a.enc] [] ⟨.str (jm a),[]⟩:=by
 obtain ⟨h0,h1,h2,h3,h4⟩:=h;obtain ⟨ea,ha⟩:=nat_of h4;obtain ⟨ec,hc⟩:=nat_of h3;have d:=gn h1;have d2:=gn h2;have ta:=r7 a.addr.toNat ha;have tc:=KJ a.com.toNat hc;rw[<-ea] at ta;rw[<-ec] at tc;have l1:=bC a.n;have l2:=bC a.asn;have l3:=dots_len ha;have l4:=wY a.com.toNat;clear ea ha ec hc h0 h1 h2 h3 h4;unfold jm;generalize ah a.n=dn at*;generalize ah a.asn=da at*;generalize dots a.addr.toNat=dt at*;generalize iO a.com.toNat=ct at*;refine gvC (F:=aaD) ?_
 repeat' ((conv=>whnf);first|refine bQ ?_|refine ay ?_|apply ae<;>intro h)
 all_goals (refine au ?_;simp[*,FH,P9,vE,vy,vG,Qc,Qb,P8])
section
variable (v:Int)
def dp:CF:=if v=1 then Xv else if v=2 then Xo else Xu
theorem l6:(dp v).length<=6:=by
 unfold dp
 repeat' split
 all_goals decide
theorem sc:ab G 526 [.int .i64 v] [] ⟨.str (dp v),[]⟩:=by
 unfold dp;refine gvC (F:=aaF) ?_
 repeat' (first|refine aQ ?_|apply ae<;>intro h)
 all_goals (refine au ?_;simp[*,Xv,Xo,Xu])
theorem sb:ab G 529 [.int .i64 v] [] ⟨.str (dp v),[]⟩:=by
 unfold dp;refine gvC (F:=aaC) ?_
 repeat' (first|refine aQ ?_|apply ae<;>intro h)
 all_goals (refine au ?_;simp[*,Xv,Xo,Xu])
end
section
variable (b:Bool)
def gh:CF:=bif b then wPermit else wDeny
theorem vX:(gh b).length<=7:=by cases b<;>decide
theorem sw:ab G 452 [.bool b] [] ⟨.str (gh b),[]⟩:=by
 cases b
 ·exact gvA (F:=SJ)
 ·exact gvA (F:=SJ)
theorem sv:ab G 457 [.bool b] [] ⟨.str (gh b),[]⟩:=by
 cases b
 ·exact gvA (F:=SG)
 ·exact gvA (F:=SG)
end
def d9 (n:Int):CF:=if n<0 then [42] else ah n
theorem JD (n:Int):(d9 n).length<=21:=by
 unfold d9;split
 ·decide
 ·exact bC n
theorem td {n:Int}(h:okI n):ab G 453 [.int .i64 n] [] ⟨.str (d9 n),[]⟩:=by
 have d:=dec_gives337 h;unfold d9
 by_cases e:n<0
 ·rw[Ad e]
  exact gvA (F:=SI)
 ·rw[Ac e]
  generalize ah n=t at*;exact gvA (F:=SI)
theorem sY {n:Int}(h:okI n)(hn: -1<=n):ab G 458 [.int .i64 n] [] ⟨.str (d9 n),[]⟩:=by
 have d:=gn h;unfold d9
 by_cases e:n<0
 ·rw[Ad e]
  have e2:n= -1:=by omega
  refine gvC (F:=SE) ?_
  repeat' ((conv=>whnf);first|refine nv e2 ?_|refine ay ?_|apply ae<;>intro h)
  refine au ?_;rfl
 ·rw[Ac e]
  have e2: ¬n= -1:=by omega
  generalize ah n=t at*;refine gvC (F:=SE) ?_
  repeat' ((conv=>whnf);first|refine jf e2 ?_|refine ay ?_|apply ae<;>intro h)
  refine au ?_;rfl
theorem zw {r:RuleP}(h:ruE r=0):bj r.pfx=true/\r.pfx.len<=r.min/\r.min<=r.max/\r.max<=32/\0<=r.pfx.len:=by
 unfold ruE at h;split at h
 ·rename_i v
  have:=validP_len v;split at h
  ·cases h
  ·exact ⟨v,by omega,by omega,by omega,by omega⟩
 ·cases h
def rng (a b:Int):CF:=ah a++45::ah b
section
variable (r:RuleP)
def rtail:CF:=if r.min≠r.pfx.len∨r.max≠r.pfx.len then 32::rng r.min r.max else []
def rtext:CF:=gh r.permit++(ptext r.pfx.addr.toNat r.pfx.len.toNat++rtail r)
def txR:Ret:=if ruE r=0 then ⟨.tup [.str (rtext r),.int .i64 0],[]⟩ else ⟨.tup [.str [],.int .i64 (ruE r)],[]⟩
theorem nat32 {x:Int}(h0:0<=x)(h1:x<=32): ∃k:Nat,x=k/\k<=32:=⟨x.toNat,by omega,by omega⟩
theorem text_gives332 (h:r.ok):ab G 332 [.agg r.enc] [] (txR r):=by
 have hc:=uX r h;unfold txR
 by_cases h0:ruE r=0
 ·rw[h0] at hc
  obtain ⟨v,m1,m2,m3,m0⟩:=zw h0;rw[Ad h0];have ht:=text_gives229 r.pfx h.1;rw[Ad v] at ht;obtain ⟨_,hx⟩:=nat_of h.1.addr;have hl:=ptext_len (n:=r.pfx.len.toNat) hx (by omega)
  obtain ⟨a,ea,ha⟩:=nat32 (x:=r.min) (by omega) (by omega)
  obtain ⟨b,eb,hb⟩:=nat32 (x:=r.max) (by omega) (by omega)
  have d1:=dec_gives337 (n:=(a:Int)) (by unfold okI;omega)
  have d2:=dec_gives337 (n:=(b:Int)) (by unfold okI;omega)
  have l1:=bC (a:Int);have l2:=bC (b:Int);clear h h0 v hx m0 m1 m2 m3;unfold rtext rtail rng;obtain ⟨p,⟨x,n⟩,mn,mx⟩:=r;simp only at*;subst ea eb;generalize ptext x.toNat n.toNat=t at*;generalize ah (a:Int)=ta at*;generalize ah (b:Int)=tb at*;refine gvC (F:=oH) ?_
  repeat' ((conv=>whnf);first|refine bQ ?_|refine ay ?_|apply ae<;>intro h)
  all_goals (refine au ?_;(try simp only at*);simp[gh,wDeny,wPermit, *])
 ·rw[Ac h0]
  generalize ruE r=k at*;exact gvA (F:=oH)
theorem DZ (h:r.ok):ab G 333 [.agg r.enc] [] (txR r):=by
 have hc:=uW r h;unfold txR
 by_cases h0:ruE r=0
 ·rw[h0] at hc
  obtain ⟨v,m1,m2,m3,m0⟩:=zw h0;rw[Ad h0];have ht:=rI r.pfx h.1;rw[Ad v] at ht;obtain ⟨_,hx⟩:=nat_of h.1.addr;have hl:=ptext_len (n:=r.pfx.len.toNat) hx (by omega)
  obtain ⟨a,ea,ha⟩:=nat32 (x:=r.min) (by omega) (by omega)
  obtain ⟨b,eb,hb⟩:=nat32 (x:=r.max) (by omega) (by omega)
  have d1:=gn (n:=(a:Int)) (by unfold okI;omega)
  have d2:=gn (n:=(b:Int)) (by unfold okI;omega)
  have l1:=bC (a:Int);have l2:=bC (b:Int);clear h h0 v hx m0 m1 m2 m3;unfold rtext rtail rng;obtain ⟨p,⟨x,n⟩,mn,mx⟩:=r;simp only at*;subst ea eb;generalize ptext x.toNat n.toNat=t at*;generalize ah (a:Int)=ta at*;generalize ah (b:Int)=tb at*;refine gvC (F:=SN) ?_
  repeat' ((conv=>whnf);first|refine bQ ?_|refine ay ?_|apply ae<;>intro h)
  all_goals (refine au ?_;(try simp only at*);simp[gh,wDeny,wPermit, *])
 ·rw[Ac h0]
  generalize ruE r=k at*;exact gvA (F:=SN)
end
section
variable (e1 e2 e3 e4:CS)(p1:aa e1=true)(p2:aa e2=true)(p3:aa e3=true)(p4:aa e4=true)(k1 k2 k3 k4:C5)(so:Int)(trm:Bool)(nm:CF)(df:Int)(n:Nat)(hn:n=e4.length+1)(l4:e4.length<2^30)(ts:Da)(lt:ts.length<2^30)
include p1 p2 p3 p4 hn l4 lt
theorem fH:ab G 591 [.ref 0 0 0] (bP e1.length e2.length e3.length n so true trm e1 e2 e3 (e4++[[AV.str nm,AV.vs 9 0 ts.length,AV.int .i64 df]]) k1 k2 k3 k4 [.vec 4 (ts.map Trm.enc)]) ⟨.er 4 0 ((n:Int)-1).toNat 0,rP e1.length e2.length e3.length n so true trm (.vec 2 e1) (.vec 2 e2) (.vec 2 e3) (.nest 3 e4 [[AV.str nm,AV.vs 9 0 ts.length,AV.int .i64 df]]) k1 k2 k3 k4 [(true,.vec 4 (ts.map Trm.enc))]⟩:=by
 unfold bP rP;refine gvB (F:=Su) ?_
 (first|refine cY pzC [] cW ?_|refine cZ pzC [] cW ?_)
 rfl
theorem ch (tn:CF)(ms:Ds)(lm:ms.length<2^30)(acs:Dr)(la:acs.length<2^30)(vd:Int)(m:Nat)(hm:m=ts.length+1):ab G 591 [.ref 0 0 0] (bP e1.length e2.length e3.length n so true trm e1 e2 e3 (e4++[[AV.str nm,AV.vs 9 0 m,AV.int .i64 df]]) k1 k2 k3 k4 [.vec 4 (ts.map Trm.enc++[[AV.str tn,AV.vs 10 0 ms.length,AV.vs 11 0 acs.length,AV.int .i64 vd]]),.vec 6 (ms.map Mat.enc),.vec 5 (acs.map Actn.enc)]) ⟨.er 4 0 ((n:Int)-1).toNat 0,rP e1.length e2.length e3.length n so true trm (.vec 2 e1) (.vec 2 e2) (.vec 2 e3) (.nest 3 e4 [[AV.str nm,AV.vs 9 0 m,AV.int .i64 df]]) k1 k2 k3 k4 [(true,.nest 4 (ts.map Trm.enc) [[AV.str tn,AV.vs 10 0 ms.length,AV.vs 11 0 acs.length,AV.int .i64 vd]]),(true,.vec 6 (ms.map Mat.enc)),(true,.vec 5 (acs.map Actn.enc))]⟩:=by
 unfold bP rP;refine gvB (F:=Su) ?_
 (first|refine cY pzD [] io ?_|refine cZ pzD [] io ?_)
 rfl
end
theorem CU (t:CF)(h:t.length<2^40):Trm.goodT ⟨t,[],[],1⟩:=by
 constructor<;>simp<;>omega
def jt:CF:=[100,101,102,97,117,108,116,32,97,99,99,101,112,116]
def js:CF:=[100,101,102,97,117,108,116,32,114,101,106,101,99,116]
def ff:CF:=[116,101,114,109]
section
variable (e1 e2 e3 e4:CS)(p1:aa e1=true)(p2:aa e2=true)(p3:aa e3=true)(p4:aa e4=true)(k1 k2 k3 k4:C5)(so:Int)(trm:Bool)(nm:CF)(df:Int)(n:Nat)(hn:n=e4.length+1)(l4:e4.length<2^30)(ts:Da)(lt:ts.length<2^30)(s:CF)
include p1 p2 p3 p4 hn l4 lt
theorem ag1:ab G 543 [.ref 0 0 0,.str jt] (bP e1.length e2.length e3.length n so true trm e1 e2 e3 (e4++[[AV.str nm,AV.vs 9 0 ts.length,AV.int .i64 df]]) k1 k2 k3 k4 [.vec 4 (ts.map Trm.enc)]) ⟨.tup [],rP e1.length e2.length e3.length n so false trm (.vec 2 e1) (.vec 2 e2) (.vec 2 e3) (.nest 3 e4 [[AV.str nm,AV.vs 9 0 ts.length,AV.int .i64 1]]) k1 k2 k3 k4 [(true,.vec 4 (ts.map Trm.enc))]⟩:=by
 unfold bP rP;have h0:=az jt (by decide)
 have hL:=fH e1 e2 e3 e4 p1 p2 p3 p4 k1 k2 k3 k4 so trm nm df n hn l4 ts lt;have hx: ∀x:CL,(e4++[x])[((n:Int)-1).toNat]? =some x:=λx=>by rw[hn];simp
 have hset: ∀y x:CL,(e4++[y]).set ((n:Int)-1).toNat x=e4++[x]:=λy x=>by rw[hn];simp
 unfold jt at*;generalize ax _=ct at*;obtain ⟨w,t⟩:=ct;dsimp only at*;refine gvB (F:=ru) ?_
 (conv=>whnf)
 refine kP pzC [] ck trivial hL ?_
 repeat' ((conv=>whnf);first|refine bl ?_|refine xr (hx _) ?_|refine ay ?_|apply ae<;>intro h)
 (conv=>whnf)
 rw[hset]
 (first|refine cY pzC [] cW ?_|refine cZ pzC [] cW ?_)
 rfl
theorem ag0:ab G 543 [.ref 0 0 0,.str js] (bP e1.length e2.length e3.length n so true trm e1 e2 e3 (e4++[[AV.str nm,AV.vs 9 0 ts.length,AV.int .i64 df]]) k1 k2 k3 k4 [.vec 4 (ts.map Trm.enc)]) ⟨.tup [],rP e1.length e2.length e3.length n so false trm (.vec 2 e1) (.vec 2 e2) (.vec 2 e3) (.nest 3 e4 [[AV.str nm,AV.vs 9 0 ts.length,AV.int .i64 2]]) k1 k2 k3 k4 [(true,.vec 4 (ts.map Trm.enc))]⟩:=by
 unfold bP rP;have h0:=az js (by decide)
 have hL:=fH e1 e2 e3 e4 p1 p2 p3 p4 k1 k2 k3 k4 so trm nm df n hn l4 ts lt;have hx: ∀x:CL,(e4++[x])[((n:Int)-1).toNat]? =some x:=λx=>by rw[hn];simp
 have hset: ∀y x:CL,(e4++[y]).set ((n:Int)-1).toNat x=e4++[x]:=λy x=>by rw[hn];simp
 unfold js at*;generalize ax _=ct at*;obtain ⟨w,t⟩:=ct;dsimp only at*;refine gvB (F:=ru) ?_
 (conv=>whnf)
 refine kP pzC [] ck trivial hL ?_
 repeat' ((conv=>whnf);first|refine aU (by decide) ?_|refine bl ?_|refine xr (hx _) ?_|refine ay ?_|apply ae<;>intro h)
 (conv=>whnf)
 rw[hset]
 (first|refine cY pzC [] cW ?_|refine cZ pzC [] cW ?_)
 rfl
section
variable (hs:s.length<4294967281)(d1:s≠jt)(d2:s≠js)
include hs d1 d2
theorem adP (hw:(ax s).1≠ff):ab G 543 [.ref 0 0 0,.str s] (bP e1.length e2.length e3.length n so true trm e1 e2 e3 (e4++[[AV.str nm,AV.vs 9 0 ts.length,AV.int .i64 df]]) k1 k2 k3 k4 [.vec 4 (ts.map Trm.enc)]) ⟨pnV (.ifc 138 (.agg [.int .i64 2])),rP e1.length e2.length e3.length n so true trm (.vec 2 e1) (.vec 2 e2) (.vec 2 e3) (.nest 3 e4 [[AV.str nm,AV.vs 9 0 ts.length,AV.int .i64 df]]) k1 k2 k3 k4 [(true,.vec 4 (ts.map Trm.enc))]⟩:=by
 unfold bP rP;have h0:=az s (by omega)
 have hL:=fH e1 e2 e3 e4 p1 p2 p3 p4 k1 k2 k3 k4 so trm nm df n hn l4 ts lt;unfold jt at d1;unfold js at d2;generalize ax s=ct at*;obtain ⟨w,t⟩:=ct;dsimp only at*;unfold ff at hw;have h2:=λ(_:True)=>aM false
 refine gvB (F:=ru) ?_
 (conv=>whnf)
 refine kP pzC [] ck trivial hL ?_
 repeat' ((conv=>whnf);first|refine aU d1 ?_|refine aU d2 ?_|refine aU hw ?_|refine ay ?_|apply ae<;>intro h)
 (conv=>whnf)
 refine CallG.stop ?_;refine aE 586 (h2 trivial) (λQ hr hg=>?_)
 refine kV hg ?_;refine bn pzC [] cW ?_;rfl
theorem adM (hw:(ax s).1=ff)(ho: ¬bv (ax s).2=true):ab G 543 [.ref 0 0 0,.str s] (bP e1.length e2.length e3.length n so true trm e1 e2 e3 (e4++[[AV.str nm,AV.vs 9 0 ts.length,AV.int .i64 df]]) k1 k2 k3 k4 [.vec 4 (ts.map Trm.enc)]) ⟨pnV (.ifc 138 (.agg [.int .i64 2])),rP e1.length e2.length e3.length n so true trm (.vec 2 e1) (.vec 2 e2) (.vec 2 e3) (.nest 3 e4 [[AV.str nm,AV.vs 9 0 ts.length,AV.int .i64 df]]) k1 k2 k3 k4 [(true,.vec 4 (ts.map Trm.enc))]⟩:=by
 unfold bP rP;have h0:=az s (by omega)
 have hL:=fH e1 e2 e3 e4 p1 p2 p3 p4 k1 k2 k3 k4 so trm nm df n hn l4 ts lt;unfold jt at d1;unfold js at d2;have htl:(ax s).2.length<4294967281:=Co (ba s).2 hs;generalize ax s=ct at*;obtain ⟨w,t⟩:=ct;dsimp only at*;unfold ff at hw;subst hw;have h2:=aM true;rw[Ad rfl] at h2;have h3:=λ(_:True)=>aZ t htl
 rw[Ac ho] at h3;refine gvB (F:=ru) ?_
 (conv=>whnf)
 refine kP pzC [] ck trivial hL ?_
 repeat' ((conv=>whnf);first|refine aU d1 ?_|refine aU d2 ?_|refine bl ?_|refine ay ?_|apply ae<;>intro h)
 (conv=>whnf)
 refine CallG.stop ?_;refine aE 597 (h3 trivial) (λQ hr hg=>?_)
 refine kV hg ?_;refine bn pzC [] cW ?_;rfl
theorem adO (hw:(ax s).1=ff)(ho:bv (ax s).2=true)(hk:64<=ts.length):ab G 543 [.ref 0 0 0,.str s] (bP e1.length e2.length e3.length n so true trm e1 e2 e3 (e4++[[AV.str nm,AV.vs 9 0 ts.length,AV.int .i64 df]]) k1 k2 k3 k4 [.vec 4 (ts.map Trm.enc)]) ⟨pnV (.ifc 138 (.agg [.int .i64 4])),rP e1.length e2.length e3.length n so true trm (.vec 2 e1) (.vec 2 e2) (.vec 2 e3) (.nest 3 e4 [[AV.str nm,AV.vs 9 0 ts.length,AV.int .i64 df]]) k1 k2 k3 k4 [(true,.vec 4 (ts.map Trm.enc))]⟩:=by
 unfold bP rP;have h0:=az s (by omega)
 have hL:=fH e1 e2 e3 e4 p1 p2 p3 p4 k1 k2 k3 k4 so trm nm df n hn l4 ts lt;unfold jt at d1;unfold js at d2;have htl:(ax s).2.length<4294967281:=Co (ba s).2 hs;have hx: ∀x:CL,(e4++[x])[((n:Int)-1).toNat]? =some x:=λx=>by rw[hn];simp
 have hset: ∀y x:CL,(e4++[y]).set ((n:Int)-1).toNat x=e4++[x]:=λy x=>by rw[hn];simp
 generalize ax s=ct at*;obtain ⟨w,t⟩:=ct;dsimp only at*;unfold ff at hw;subst hw;have h2:=aM true;rw[Ad rfl] at h2;have h3:=aZ t htl;rw[Ad ho] at h3
 have h4:True->ab G 587 [.int .i64 (ts.length:Int)] [] (pF 4):=λ_=>by
  have:=b9 (ts.length:Int);rwa [Ac (by omega)] at this
 refine gvB (F:=ru) ?_
 (conv=>whnf)
 refine kP pzC [] ck trivial hL ?_
 repeat' ((conv=>whnf);first|refine aU d1 ?_|refine aU d2 ?_|refine bl ?_|refine xr (hx _) ?_|refine ay ?_|apply ae<;>intro h)
 (conv=>whnf)
 refine CallG.stop ?_;refine aE 587 (h4 trivial) (λQ hr hg=>?_)
 refine kV hg ?_;refine bn pzC [] cW ?_;rfl
end
section
variable (hf:Kn.fit ⟨k1,k2,k3,k4⟩)(s:CF)(hs:s.length<4294967281)(d1:s≠jt)(d2:s≠js)(hw:(ax s).1=ff)(ho:bv (ax s).2=true)(hk:ts.length<64)
include hf hs d1 d2 hw ho hk
theorem adN (hc:f9 ⟨k1,k2,k3,k4⟩ ts ⟨(ax s).2,[],[],1⟩≠0):ab G 543 [.ref 0 0 0,.str s] (bP e1.length e2.length e3.length n so true trm e1 e2 e3 (e4++[[AV.str nm,AV.vs 9 0 ts.length,AV.int .i64 df]]) k1 k2 k3 k4 [.vec 4 (ts.map Trm.enc)]) ⟨pnV (.ifc 138 (.agg [.int .i64 (f9 ⟨k1,k2,k3,k4⟩ ts ⟨(ax s).2,[],[],1⟩)])),rP e1.length e2.length e3.length n so true trm (.vec 2 e1) (.vec 2 e2) (.vec 2 e3) (.nest 3 e4 [[AV.str nm,AV.vs 9 0 ts.length,AV.int .i64 df]]) k1 k2 k3 k4 [(true,.vec 4 (ts.map Trm.enc))]⟩:=by
 unfold bP rP;have h0:=az s (by omega)
 have hL:=fH e1 e2 e3 e4 p1 p2 p3 p4 k1 k2 k3 k4 so trm nm df n hn l4 ts lt;unfold jt at d1;unfold js at d2;have htl:(ax s).2.length<4294967281:=Co (ba s).2 hs;have hx: ∀x:CL,(e4++[x])[((n:Int)-1).toNat]? =some x:=λx=>by rw[hn];simp
 have hset: ∀y x:CL,(e4++[y]).set ((n:Int)-1).toNat x=e4++[x]:=λy x=>by rw[hn];simp
 generalize ax s=ct at*;obtain ⟨w,t⟩:=ct;dsimp only at*;unfold ff at hw;subst hw;have h2:=aM true;rw[Ad rfl] at h2;have h3:=aZ t htl;rw[Ad ho] at h3
 have h4:ab G 587 [.int .i64 (ts.length:Int)] [] ⟨.tup [],[]⟩:=by
  have:=b9 (ts.length:Int);rwa [Ad (by omega)] at this
 have h5:ab G 582 [.agg [.sl 1 (k1.map am),.sl 1 (k2.map am),.sl 1 (k3.map am),.sl 1 (k4.map am)],.sl 4 (ts.map Trm.enc),.agg [.str t,.con (.slice none 0 0),.con (.slice none 0 0),.int .i64 1]] [] ⟨.int .i64 (f9 ⟨k1,k2,k3,k4⟩ ts ⟨t,[],[],1⟩),[]⟩:=
  JE rfl (pQ ⟨k1,k2,k3,k4⟩ hf ts (by omega) ⟨t,[],[],1⟩ (CU t (by omega))) ⟨.refl _,.refl _,LeP.agg ⟨.refl _,.nil 6,.nil 5,.refl _,trivial⟩,trivial⟩
 have y1:k1.length=(k1.map am).length:=by simp
 have y2:k2.length=(k2.map am).length:=by simp
 have y3:k3.length=(k3.map am).length:=by simp
 have y4:k4.length=(k4.map am).length:=by simp
 have y5:ts.length=(ts.map Trm.enc).length:=by simp
 generalize f9 _ _ _=er at*;have h6:=λ(_:True)=>bw er
 rw[Ac hc] at h6;refine gvB (F:=ru) ?_
 (conv=>whnf)
 refine kP pzC [] ck trivial hL ?_
 repeat' ((conv=>whnf);first|refine aU d1 ?_|refine aU d2 ?_|refine bl ?_|refine xr (hx _) ?_|refine ay ?_|refine kZ [(5,_,_),(6,_,_),(7,_,_),(8,_,_),(9,_,_)] ⟨rfl,pz ⟨rfl,pz ⟨rfl,pz ⟨rfl,pz ⟨rfl,pz trivial⟩⟩⟩⟩⟩ (h5) ?_|apply ae<;>intro h)
 (conv=>whnf)
 refine CallG.stop ?_;refine vm 590 (h6 trivial) (λQ hr hg=>?_)
 refine kV hg ?_;refine bn pzC [] cW ?_;rfl
theorem agZ (hc:f9 ⟨k1,k2,k3,k4⟩ ts ⟨(ax s).2,[],[],1⟩=0):ab G 543 [.ref 0 0 0,.str s] (bP e1.length e2.length e3.length n so true trm e1 e2 e3 (e4++[[AV.str nm,AV.vs 9 0 ts.length,AV.int .i64 df]]) k1 k2 k3 k4 [.vec 4 (ts.map Trm.enc)]) ⟨.tup [],rP e1.length e2.length e3.length n so true true (.vec 2 e1) (.vec 2 e2) (.vec 2 e3) (.nest 3 e4 [[AV.str nm,AV.vs 9 0 (ts.length+1),AV.int .i64 df]]) k1 k2 k3 k4 [(false,.vec 4 (ts.map Trm.enc++[[.str (ax s).2,.con (.slice none 0 0),.con (.slice none 0 0),.int .i64 0]]))]⟩:=by
 unfold bP rP;have h0:=az s (by omega)
 have hL:=fH e1 e2 e3 e4 p1 p2 p3 p4 k1 k2 k3 k4 so trm nm df n hn l4 ts lt;unfold jt at d1;unfold js at d2;have htl:(ax s).2.length<4294967281:=Co (ba s).2 hs;have hx: ∀x:CL,(e4++[x])[((n:Int)-1).toNat]? =some x:=λx=>by rw[hn];simp
 have hset: ∀y x:CL,(e4++[y]).set ((n:Int)-1).toNat x=e4++[x]:=λy x=>by rw[hn];simp
 generalize ax s=ct at*;obtain ⟨w,t⟩:=ct;dsimp only at*;unfold ff at hw;subst hw;have h2:=aM true;rw[Ad rfl] at h2;have h3:=aZ t htl;rw[Ad ho] at h3
 have h4:ab G 587 [.int .i64 (ts.length:Int)] [] ⟨.tup [],[]⟩:=by
  have:=b9 (ts.length:Int);rwa [Ad (by omega)] at this
 have h5:ab G 582 [.agg [.sl 1 (k1.map am),.sl 1 (k2.map am),.sl 1 (k3.map am),.sl 1 (k4.map am)],.sl 4 (ts.map Trm.enc),.agg [.str t,.con (.slice none 0 0),.con (.slice none 0 0),.int .i64 1]] [] ⟨.int .i64 (f9 ⟨k1,k2,k3,k4⟩ ts ⟨t,[],[],1⟩),[]⟩:=
  JE rfl (pQ ⟨k1,k2,k3,k4⟩ hf ts (by omega) ⟨t,[],[],1⟩ (CU t (by omega))) ⟨.refl _,.refl _,LeP.agg ⟨.refl _,.nil 6,.nil 5,.refl _,trivial⟩,trivial⟩
 have y1:k1.length=(k1.map am).length:=by simp
 have y2:k2.length=(k2.map am).length:=by simp
 have y3:k3.length=(k3.map am).length:=by simp
 have y4:k4.length=(k4.map am).length:=by simp
 have y5:ts.length=(ts.map Trm.enc).length:=by simp
 rw[hc] at h5;have h6:=bw 0;rw[Ad rfl] at h6;refine gvB (F:=ru) ?_
 (conv=>whnf)
 refine kP pzC [] ck trivial hL ?_
 repeat' ((conv=>whnf);first|refine aU d1 ?_|refine aU d2 ?_|refine bl ?_|refine xr (hx _) ?_|refine ay ?_|refine kZ [(5,_,_),(6,_,_),(7,_,_),(8,_,_),(9,_,_)] ⟨rfl,pz ⟨rfl,pz ⟨rfl,pz ⟨rfl,pz ⟨rfl,pz trivial⟩⟩⟩⟩⟩ (h5) ?_|apply ae<;>intro h)
 (conv=>whnf)
 rw[hset]
 (first|refine cY pzC [] [true,true,true,true,true,true,true,true,true,false] ?_|refine cZ pzC [] [true,true,true,true,true,true,true,true,true,false] ?_)
 rfl
end
end
end Go.AM.IR
