/- What the functions of this program give, on the abstract machine. -/
import Derived.Test.YtomphmeopjpejaaGreatDoorDataB
set_option linter.unusedVariables false
set_option linter.unusedSimpArgs false
set_option maxHeartbeats 4000000
set_option maxRecDepth 20000
namespace Go.AM.IR
def ly (x n:Nat):Nat:=x/ 2^ (32-n)*2^ (32-n)
def js (n:Nat):Nat:=4294967296-2^ (32-n)
theorem Om (x n j:Nat)(hn:n<=32):(ly x n).testBit j=(decide (32-n<=j)&&x.testBit j):=by
 unfold ly;rw[Nat.testBit_mul_two_pow]
 by_cases h:32-n<=j
 ·simp only[h,decide_true,BY]
  rw[Nat.testBit_div_two_pow];congr 1;omega
 ·simp[h]
theorem R7 (n:Nat)(hn:n<=32):js n=(2^n-1)*2^ (32-n):=by
 unfold js;rw[Nat.sub_mul,<-Nat.pow_add,show n+(32-n)=32 by omega];omega
theorem Ol (n j:Nat)(hn:n<=32):(js n).testBit j=(decide (32-n<=j)&&decide (j<32)):=by
 rw[R7 n hn,Nat.testBit_mul_two_pow,Nat.testBit_two_pow_sub_one]
 by_cases h:32-n<=j
 ·simp only[h,decide_true,BY]
  congr 1;simp;omega
 ·simp[h]
theorem U7 (x n:Nat)(hx:x<4294967296)(hn:n<=32):x&&&js n=ly x n:=by
 apply Nat.eq_of_testBit_eq;intro j;rw[Nat.testBit_and,Om x n j hn,Ol n j hn]
 by_cases hj:j<32
 ·simp[hj,Bool.and_comm]
 ·have:x.testBit j=false:=Nat.testBit_lt_two_pow (Cf hx (by rw[show 4294967296=2^32 from rfl];exact Nat.pow_le_pow_right (by omega) (by omega)))
  simp[this]
theorem Se (x n:Nat):ly x n<=x:=Nat.div_mul_le_self _ _
def d9 (n:Int):Nat:=if n<=0 then 0 else if n<=32 then n.toNat else 32
theorem z7 (n:Int):d9 n<=32:=by
 unfold d9
 repeat' split
 all_goals omega
section
variable {k:AV->Prop}
theorem rT (r:Nat)(hr:r<4294967296):IntKind.wrap .u32 (r:Int)=(r:Int):=by
 simp[IntKind.wrap,IntKind.signed,IntKind.bits];omega
theorem sj (a:Nat)(ha:a<4294967296):(BitVec.ofInt 32 (a:Int)).toNat=a:=by
 rw[BitVec.toNat_ofInt];omega
theorem su (a b:Nat)(ha:a<4294967296)(hb:b<4294967296):intBits .and .u32 (a:Int) (b:Int)=((a&&&b:Nat):Int):=by
 have hl:a&&&b<4294967296:=CO Nat.and_le_left ha;show IntKind.wrap .u32 (((BitVec.ofInt 32 (a:Int)&&&BitVec.ofInt 32 (b:Int)).toNat:Nat):Int)=_
 rw[BitVec.toNat_and,sj a ha,sj b hb];exact rT _ hl
theorem NS (a b:Nat)(ha:a<4294967296)(hb:b<4294967296):intBits .or .u32 (a:Int) (b:Int)=((a|||b:Nat):Int):=by
 have hl:a|||b<4294967296:=Nat.or_lt_two_pow (n:=32) ha hb;show IntKind.wrap .u32 (((BitVec.ofInt 32 (a:Int)|||BitVec.ofInt 32 (b:Int)).toNat:Nat):Int)=_
 rw[BitVec.toNat_or,sj a ha,sj b hb];exact rT _ hl
theorem YN {a b:Nat}(h:k (.int .u32 ((a&&&b:Nat):Int)))(ha:a<4294967296:=by omega)(hb:b<4294967296:=by omega): ∃v,bt .and (.int .u32 (a:Int)) (.int .u32 (b:Int))=some v/\k v:=⟨_,by show some (AV.int .u32 (intBits .and .u32 _ _))=_;rw[su a b ha hb],h⟩
theorem ab4 {n:Nat}{j:Int}(h:k (.int .u32 ((js n:Nat):Int)))(hj:j=32- (n:Int))(hn:n<=32): ∃v,bt .shl (.int .u32 4294967295) (.int .i64 j)=some v/\k v:=by
 refine ⟨_,?_,h⟩;show (if j<0 then none else some (AV.int .u32 (IntKind.wrap .u32 (4294967295*2^ (min j.toNat 32)))))=_
 rw[Ac (by omega),show min j.toNat 32=32-n by omega]
 have h1:(2:Nat)^ (32-n)<=2^32:=Nat.pow_le_pow_right (by omega) (by omega)
 have h2:0<(2:Nat)^ (32-n):=Nat.pow_pos (by omega)
 have e:(4294967295*2^ (32-n):Int)=((js n:Nat):Int)+4294967296* ((2^ (32-n)-1:Nat):Int):=by
  unfold js;have:((2^ (32-n):Nat):Int)=(2:Int)^ (32-n):=by simp
  rw[<-this];omega
 congr 2
 rw[e];have h3:js n<4294967296:=by unfold js;omega
 simp[IntKind.wrap,IntKind.signed,IntKind.bits];omega
end
end Go.AM.IR
namespace Go.AM.IR
theorem yg (n:Int):ab G 186 [.int .i64 n,.int .i64 32] [] ⟨.int .i64 (d9 n:Nat),[]⟩:=by
 by_cases h0:n<=0
 ·rw[show d9 n=0 from by simp[d9,h0]]
  by_cases h1:n=0
  ·subst h1
   exact gvA (F:=xW)
  ·have h2:n<0:=by omega
   refine gvB (F:=xW) ?_;refine ax ?_;first|rfl|(simp[h2])
 ·by_cases h1:n<=32
  ·rw[show ((d9 n:Nat):Int)=n from by simp[d9,h0,h1];omega]
   exact gvA (F:=xW)
  ·rw[show d9 n=32 from by simp[d9,h0,h1]]
   exact gvA (F:=xW)
theorem AG (n:Int):ab G 183 [.int .i64 n] [] ⟨.int .u32 (js (d9 n):Nat),[]⟩:=by
 have hc:=yg n;have hl:=z7 n;generalize d9 n=c at*;refine gvC (F:=Ut) ?_
 repeat' ((conv=>whnf);first|refine ab4 (n:=c) ?_ (by omega) (by omega)|refine aq ?_|(refine ae ?_ ?_<;>intro h))
 refine ax ?_;rfl
theorem AP (x:Nat)(n:Int)(hx:x<4294967296):ab G 181 [.int .u32 (x:Int),.int .i64 n] [] ⟨.int .u32 (ly x (d9 n):Nat),[]⟩:=by
 have hm:=AG n;have hl:=z7 n;rw[<-U7 x (d9 n) hx hl];have hb:js (d9 n)<4294967296:=by unfold js;have:=Nat.pow_pos (n:=32-d9 n) (show 0<2 by omega);omega
 generalize js (d9 n)=mk at*;refine gvC (F:=Uv) ?_
 repeat' ((conv=>whnf);first|refine YN ?_ hx hb|refine aq ?_|(refine ae ?_ ?_<;>intro h))
 refine ax ?_;rfl
def bz (p:Pfx):Bool:=decide (0<=p.len/\p.len<=32/\(ly p.addr.toNat p.len.toNat:Int)=p.addr)
theorem fM (p:Pfx)(h:p.ok):ab G 178 [.agg p.enc] [] ⟨.bool (bz p),[]⟩:=by
 obtain ⟨a,n⟩:=p;obtain ⟨x,rfl⟩: ∃x:Nat,a=x:=⟨a.toNat,by have:=h.addr;unfold okU at this;simp only at this;omega⟩
 have hx:x<4294967296:=by have:=h.addr;unfold okU at this;simp only at this;omega
 have hk:=AP x n hx;have hkl:=Se x (d9 n)
 by_cases hn:0<=n/\n<=32
 ·obtain ⟨n0,n1⟩:=hn
  have hc:d9 n=n.toNat:=by unfold d9;repeat' split<;>omega
  rw[hc] at hk hkl
  by_cases hq:ly x n.toNat=x
  ·rw[show bz ⟨x,n⟩=true from by simp[bz,n0,n1,hq]]
   rw[hq] at hk;refine gvB (F:=xX) ?_;refine ax ?_;simp
  ·rw[show bz ⟨x,n⟩=false from by simp only[bz,AR];intro hh;exact hq (by have:=hh.2.2;simp only[Int.toNat_natCast] at this;omega)]
   have hq2: ¬((ly x n.toNat:Nat):Int)=(x:Int):=by omega
   generalize ly x n.toNat=kq at*;refine gvB (F:=xX) ?_;refine ax ?_;simp[hq2]
 ·rw[show bz ⟨x,n⟩=false from by simp[bz];omega]
  by_cases n0:0<=n
  ·have n1: ¬n<=32:=by omega
   exact gvA (F:=xX)
  ·exact gvA (F:=xX)
end Go.AM.IR
namespace Go.AM.IR
end Go.AM.IR
namespace Go.AM.IR.J
theorem nat_of {a:Int}(h:okU a):a=(a.toNat:Nat)/\a.toNat<4294967296:=by unfold okU at h;omega
end Go.AM.IR.J
namespace Go.AM.IR.J
theorem validP_len {p:Pfx}(h:bz p=true):0<=p.len/\p.len<=32:=by
 unfold bz at h;rw[AO] at h;exact ⟨h.1,h.2.1⟩
end Go.AM.IR.J
namespace Go.AM.IR.J
end Go.AM.IR.J
namespace Go.AM.IR.J
end Go.AM.IR.J
namespace Go.AM.IR.J
theorem J3 (p:Pfx):bz p=true↔0<=p.len/\p.len<=32/\(ly p.addr.toNat p.len.toNat:Int)=p.addr:=by unfold bz;rw[AO]
end Go.AM.IR.J
namespace Go.AM.IR.J
section
variable {k:Eff->Prop} {x y:Opd} {g key:Nat} {hg:Nat->Option (Nat×Blk)}
end
end Go.AM.IR.J
namespace Go.AM.IR.J
open Go Go.AM
def dig (b:UInt8):Bool:=decide (48<=b.toNat)&&decide (b.toNat<=57)
def dval (b:UInt8):Nat:=b.toNat-48
def chk (n:Nat):Bool:=(aw n).all dig&&(decide (1<=(aw n).length)&&(decide ((aw n).length<=3)&&((aw n).length==1||(aw n).head? !=some 48)))&&(Lib.atoiAll (aw n)== .ok n)&&((aw n).foldl (λa b=>a*10+dval b) 0==n)
theorem Yu:(List.range 256).all chk=true:=by decide+kernel
theorem FG {n:Nat}(h:n<256):chk n=true:=List.all_eq_true.1 Yu n (List.mem_range.2 h)
theorem Sg {n:Nat}(h:n<256): ∀b∈aw n,dig b=true:=by
 have:=FG h;simp only[chk,Av] at this;exact λb hb=>List.all_eq_true.1 this.1.1.1 b hb
theorem itoa_len {n:Nat}(h:n<256):1<=(aw n).length/\(aw n).length<=3:=by
 have:=FG h;simp only[chk,Av,AO] at this;exact ⟨this.1.1.2.1,this.1.1.2.2.1⟩
theorem PU {n:Nat}(h:n<256):Lib.atoiAll (aw n)= .ok (n:Int):=by
 have:=FG h;simp only[chk,Av,beq_iff_eq] at this;exact this.1.2
theorem dig_of {b:UInt8}(h:dig b=true): ∃d,d<10/\b=UInt8.ofNat (48+d)/\dval b=d:=by
 unfold dig at h;simp only[Av,AO] at h
 refine ⟨dval b,by unfold dval;omega,?_,rfl⟩
 unfold dval;rw[show 48+(b.toNat-48)=b.toNat by omega];simp
theorem nV (c:UInt8): ∀(a r:List UInt8),c∉a->Lib.index (a++c::r) [c]=a.length
 | [],r,_=>by simp[Lib.index]
 |x::a,r,h=>by
  have hx:x≠c:=λe=>h (by simp[e])
  have ih:=nV c a r (λq=>h (by simp[q]))
  rw[B4,Lib.index,ih];have h1:([c].isPrefixOf (x::(a++c::r)))=false:=by simp[List.isPrefixOf];exact λe=>hx e.symm
  rw[h1];have h2:(((a.length:Nat):Int)== -1)=false:=by rw[beq_eq_false_iff_ne];omega
  simp[h2]
theorem my (c:UInt8): ∀(a:List UInt8),c∉a->Lib.index a [c]= -1
 | [],_=>by simp[Lib.index]
 |x::a,h=>by
  have hx:x≠c:=λe=>h (by simp[e])
  have ih:=my c a (λq=>h (by simp[q]))
  rw[Lib.index,ih];have h1:([c].isPrefixOf (x::a))=false:=by simp[List.isPrefixOf];exact λe=>hx e.symm
  rw[h1];rfl
theorem sep_cases (c:UInt8): ∀s:List UInt8,c∉s∨ ∃a r,c∉a/\s=a++c::r
 | []=>.inl (by simp)
 |x::s=>by
  by_cases hx:x=c
  ·exact .inr ⟨[],s,by simp,by simp[hx]⟩
  ·rcases sep_cases c s with h|⟨a,r,h1,rfl⟩
   ·exact .inl (by simp;exact ⟨λe=>hx e.symm,h⟩)
   ·exact .inr ⟨x::a,r,by simp;exact ⟨λe=>hx e.symm,h1⟩,rfl⟩
theorem ye (c:UInt8)(a r:List UInt8)(h:c∉a):Lib.cut (a++c::r) [c]=(a,r,true):=by
 unfold Lib.cut;rw[nV c a r h,Ad (by omega)]
 simp
theorem UG (c:UInt8)(s:List UInt8)(h:c∉s):Lib.cut s [c]=(s,[],false):=by
 unfold Lib.cut;rw[my c s h,Ac (by omega)]
theorem split_none (c:UInt8)(s:List UInt8)(h:c∉s):Lib.split s [c]= [s]:=by
 unfold Lib.split;rw[Lib.count_miss (my c s h)];rfl
theorem split_hit (c:UInt8)(a r:List UInt8)(h:c∉a):Lib.split (a++c::r) [c]=a::Lib.split r [c]:=by
 unfold Lib.split;have hi:=nV c a r h;rw[Lib.count_hit (by simp) hi,Nat.add_comm 1,Lib.splitK,hi]
 have h2:(((a.length:Nat):Int)== -1)=false:=by rw[beq_eq_false_iff_ne];omega
 simp[h2]
def vx (c:UInt8):List (List UInt8)->List UInt8
 | []=>[]
 | [x]=>x
 |x::y::r=>x++c::vx c (y::r)
theorem split_ne (c:UInt8)(s:List UInt8):Lib.split s [c]≠ []:=by
 rcases sep_cases c s with h|⟨a,r,h,rfl⟩
 ·rw[split_none c s h];simp
 ·rw[split_hit c a r h];simp
theorem mw (c:UInt8): ∀(n:Nat)(s:List UInt8),s.length<=n->vx c (Lib.split s [c])=s
 |n,s,hn=>by
  rcases sep_cases c s with h|⟨a,r,h,rfl⟩
  ·rw[split_none c s h];rfl
  ·rw[split_hit c a r h]
   cases n with
   |zero=>simp at hn
   |succ n=>
    have ih:=mw c n r (by simp at hn;omega)
    cases hs:Lib.split r [c] with
    |nil=>exact absurd hs (split_ne c r)
    |cons y t=>rw[hs] at ih;simp only[vx,ih]
theorem Ot (x y z w:List UInt8):Lib.join [x,y,z,w] [46]=x++46::(y++46::(z++46::w)):=by
 simp[Lib.join,List.intercalate]
end Go.AM.IR.J
namespace Go.AM.IR.J
theorem itoa_gives246 {n:Int}(h0: -9223372036854775808<=n)(h1:n<=9223372036854775807):ab G 246 [.int .i64 n] [] ⟨.str (aw n),[]⟩:=by
 show sg _ _=_
 exact Ad ⟨h0,h1⟩
def dots (x:Nat):List UInt8:=aw (x/ 16777216:Nat)++46::(aw (x/ 65536 % 256:Nat)++46::(aw (x/ 256 % 256:Nat)++46::aw (x % 256:Nat)))
section
variable {k:AV->Prop} {q:IntKind}
theorem zShrC (m:Nat){x:Nat}{j:Int}(h:k (.int .u32 ((x/ m:Nat):Int)))(hm:m=2^j.toNat)(h0:0<=j)(h1:j<=32): ∃v,bt .shr (.int .u32 (x:Int)) (.int q j)=some v/\k v:=by
 subst hm;refine ⟨_,?_,h⟩;show (if j<0 then none else some (AV.int .u32 ((x:Int).fdiv (2^ (min j.toNat 32)))))=_
 rw[Ac (by omega),show min j.toNat 32=j.toNat by omega]
 congr 2
 rw[Int.fdiv_eq_ediv_of_nonneg _ (by exact Int.le_of_lt (Int.pow_pos (by omega)))]
 simp
theorem zAnd255 {x:Nat}(h:k (.int .u32 ((x % 256:Nat):Int)))(hx:x<4294967296): ∃v,bt .and (.int .u32 (x:Int)) (.int .u32 255)=some v/\k v:=
 ⟨_,by
  show some (AV.int .u32 (intBits .and .u32 (x:Int) ((255:Nat):Int)))=_
  rw[su x 255 hx (by omega),show (255:Nat)=2^8-1 from rfl,Nat.and_two_pow_sub_one_eq_mod],h⟩
end
theorem join_gives247 (a b c d:List UInt8)(h:a.length<=3/\b.length<=3/\c.length<=3/\d.length<=3):ab G 247 [.sl 1 [[.str a],[.str b],[.str c],[.str d]],.str [46]] [] ⟨.str (a++46::(b++46::(c++46::d))),[]⟩:=by
 have hj:=Ot a b c d;show se [.sl 1 [[.str a],[.str b],[.str c],[.str d]],.str [46]] []=_
 show (if [a,b,c,d].length<=140737488355328/\(Lib.join [a,b,c,d] [46]).length<=140737488355328 then some (⟨.str (Lib.join [a,b,c,d] [46]),[]⟩:Ret) else none)=_
 rw[hj,Ad];simp;omega
end Go.AM.IR.J
namespace Go.AM.IR.J
section
variable {k:Eff->Prop} {x y:Opd} {g key:Nat} {hg:Nat->Option (Nat×Blk)}
theorem Mw {kv:AV->Prop}{b:UInt8}(h:kv (.int .u8 (dval b:Nat)))(hb:48<=b.toNat): ∃v,bt .sub (.int .u8 (b.toNat:Int)) (.int .u8 48)=some v/\kv v:=by
 refine ⟨_,?_,h⟩;have hl:=b.toNat_lt;show some (AV.int .u8 (IntKind.wrap .u8 ((b.toNat:Int)-48)))=_
 unfold dval;rw[rQ (by omega) (by omega),show (b.toNat:Int)-48=((b.toNat-48:Nat):Int) by omega]
end
end Go.AM.IR.J
namespace Go.AM.IR.J
end Go.AM.IR.J
namespace Go.AM.IR.J
end Go.AM.IR.J
namespace Go.AM.IR.J
theorem zSlarr {k:Eff->Prop}{x:Opd}{g key kk gk n:Nat}{cs:List AV}{hg:Nat->Option (Nat×Blk)}(h:k {res:=.vs key g n,wr:=[(key,some (g,.vec 1 (cs.map λc=>[c]))),(kk,some (g,.vec 1 []))],rd:=[kk]})
  (hk:hg kk=some (gk,.cells cs):=by rfl) (hn:cs.length=n:=by rfl) (hne:kk≠key:=by decide): ∃e,aP (.slarr n 1 x none none none) g key [.ref kk gk 0] hg=some e/\k e:=by
 refine ⟨_,?_,h⟩;simp[aP,oC,hk,hn,hne]
theorem addr_loop4 (x:Nat)(t3 t2 t1 t0 R:List UInt8)(hx:x<4294967296)(n3:ab G 246 [.int .i64 (x/ 16777216 % 256:Nat)] [] ⟨.str t3,[]⟩)(n2:ab G 246 [.int .i64 (x/ 65536 % 256:Nat)] [] ⟨.str t2,[]⟩)(n1:ab G 246 [.int .i64 (x/ 256 % 256:Nat)] [] ⟨.str t1,[]⟩)(n0:ab G 246 [.int .i64 (x/ 1 % 256:Nat)] [] ⟨.str t0,[]⟩)(ej:ab G 247 [.sl 1 [[.str t3],[.str t2],[.str t1],[.str t0]],.str [46]] [] ⟨.str R,[]⟩)(T:TV)(H:ap)(c g:Nat):
  Ev G ⟨gP,⟨(5,.int .i64 4)::(3,.ref 67 g 0)::(0,.int .u32 (x:Int))::T,(67,some (g,.cells [.str t3,.str t2,.str t1,.str t0]))::H,c⟩,[.t 2],0⟩ ⟨.str R,[]⟩:=by
 refine evl ?_
 repeat' ((conv=>whnf);first|refine zSlarr ?_|refine aq ?_|refine kZ [(83,_,_)] ⟨rfl,pz trivial⟩ (ej) ?_|(refine ae ?_ ?_<;>intro h))
 refine ax ?_;rfl
theorem addr_loop3 (x:Nat)(t3 t2 t1 t0 R:List UInt8)(hx:x<4294967296)(n3:ab G 246 [.int .i64 (x/ 16777216 % 256:Nat)] [] ⟨.str t3,[]⟩)(n2:ab G 246 [.int .i64 (x/ 65536 % 256:Nat)] [] ⟨.str t2,[]⟩)(n1:ab G 246 [.int .i64 (x/ 256 % 256:Nat)] [] ⟨.str t1,[]⟩)(n0:ab G 246 [.int .i64 (x/ 1 % 256:Nat)] [] ⟨.str t0,[]⟩)(ej:ab G 247 [.sl 1 [[.str t3],[.str t2],[.str t1],[.str t0]],.str [46]] [] ⟨.str R,[]⟩)(T:TV)(H:ap)(c g:Nat):
  Ev G ⟨gP,⟨(5,.int .i64 3)::(3,.ref 67 g 0)::(0,.int .u32 (x:Int))::T,(67,some (g,.cells [.str t3,.str t2,.str t1,.str []]))::H,c⟩,[.t 2],0⟩ ⟨.str R,[]⟩:=by
 refine evl ?_
 repeat' ((conv=>whnf);first|refine zShrC 1 ?_ (by rfl) (by omega) (by omega)|refine zAnd255 ?_ (by omega)|refine aq ?_|(refine ae ?_ ?_<;>intro h))
 refine au [5,3,0] [67] ?_;exact addr_loop4 x t3 t2 t1 t0 R hx n3 n2 n1 n0 ej _ _ _ _
theorem addr_loop2 (x:Nat)(t3 t2 t1 t0 R:List UInt8)(hx:x<4294967296)(n3:ab G 246 [.int .i64 (x/ 16777216 % 256:Nat)] [] ⟨.str t3,[]⟩)(n2:ab G 246 [.int .i64 (x/ 65536 % 256:Nat)] [] ⟨.str t2,[]⟩)(n1:ab G 246 [.int .i64 (x/ 256 % 256:Nat)] [] ⟨.str t1,[]⟩)(n0:ab G 246 [.int .i64 (x/ 1 % 256:Nat)] [] ⟨.str t0,[]⟩)(ej:ab G 247 [.sl 1 [[.str t3],[.str t2],[.str t1],[.str t0]],.str [46]] [] ⟨.str R,[]⟩)(T:TV)(H:ap)(c g:Nat):
  Ev G ⟨gP,⟨(5,.int .i64 2)::(3,.ref 67 g 0)::(0,.int .u32 (x:Int))::T,(67,some (g,.cells [.str t3,.str t2,.str [],.str []]))::H,c⟩,[.t 2],0⟩ ⟨.str R,[]⟩:=by
 refine evl ?_
 repeat' ((conv=>whnf);first|refine zShrC 256 ?_ (by rfl) (by omega) (by omega)|refine zAnd255 ?_ (by omega)|refine aq ?_|(refine ae ?_ ?_<;>intro h))
 refine au [5,3,0] [67] ?_;exact addr_loop3 x t3 t2 t1 t0 R hx n3 n2 n1 n0 ej _ _ _ _
theorem addr_loop1 (x:Nat)(t3 t2 t1 t0 R:List UInt8)(hx:x<4294967296)(n3:ab G 246 [.int .i64 (x/ 16777216 % 256:Nat)] [] ⟨.str t3,[]⟩)(n2:ab G 246 [.int .i64 (x/ 65536 % 256:Nat)] [] ⟨.str t2,[]⟩)(n1:ab G 246 [.int .i64 (x/ 256 % 256:Nat)] [] ⟨.str t1,[]⟩)(n0:ab G 246 [.int .i64 (x/ 1 % 256:Nat)] [] ⟨.str t0,[]⟩)(ej:ab G 247 [.sl 1 [[.str t3],[.str t2],[.str t1],[.str t0]],.str [46]] [] ⟨.str R,[]⟩)(T:TV)(H:ap)(c g:Nat):
  Ev G ⟨gP,⟨(5,.int .i64 1)::(3,.ref 67 g 0)::(0,.int .u32 (x:Int))::T,(67,some (g,.cells [.str t3,.str [],.str [],.str []]))::H,c⟩,[.t 2],0⟩ ⟨.str R,[]⟩:=by
 refine evl ?_
 repeat' ((conv=>whnf);first|refine zShrC 65536 ?_ (by rfl) (by omega) (by omega)|refine zAnd255 ?_ (by omega)|refine aq ?_|(refine ae ?_ ?_<;>intro h))
 refine au [5,3,0] [67] ?_;exact addr_loop2 x t3 t2 t1 t0 R hx n3 n2 n1 n0 ej _ _ _ _
theorem addr_loop0 (x:Nat)(t3 t2 t1 t0 R:List UInt8)(hx:x<4294967296)(n3:ab G 246 [.int .i64 (x/ 16777216 % 256:Nat)] [] ⟨.str t3,[]⟩)(n2:ab G 246 [.int .i64 (x/ 65536 % 256:Nat)] [] ⟨.str t2,[]⟩)(n1:ab G 246 [.int .i64 (x/ 256 % 256:Nat)] [] ⟨.str t1,[]⟩)(n0:ab G 246 [.int .i64 (x/ 1 % 256:Nat)] [] ⟨.str t0,[]⟩)(ej:ab G 247 [.sl 1 [[.str t3],[.str t2],[.str t1],[.str t0]],.str [46]] [] ⟨.str R,[]⟩)(T:TV)(H:ap)(c g:Nat):
  Ev G ⟨gP,⟨(5,.int .i64 0)::(3,.ref 67 g 0)::(0,.int .u32 (x:Int))::T,(67,some (g,.cells [.str [],.str [],.str [],.str []]))::H,c⟩,[.t 2],0⟩ ⟨.str R,[]⟩:=by
 refine evl ?_
 repeat' ((conv=>whnf);first|refine zShrC 16777216 ?_ (by rfl) (by omega) (by omega)|refine zAnd255 ?_ (by omega)|refine aq ?_|(refine ae ?_ ?_<;>intro h))
 refine au [5,3,0] [67] ?_;exact addr_loop1 x t3 t2 t1 t0 R hx n3 n2 n1 n0 ej _ _ _ _
theorem addr_gives227 (x:Nat)(hx:x<4294967296):ab G 227 [.int .u32 (x:Int)] [] ⟨.str (dots x),[]⟩:=by
 have n3:=itoa_gives246 (n:=(x/ 16777216:Nat)) (by omega) (by omega)
 have n2:=itoa_gives246 (n:=(x/ 65536 % 256:Nat)) (by omega) (by omega)
 have n1:=itoa_gives246 (n:=(x/ 256 % 256:Nat)) (by omega) (by omega)
 have n0:=itoa_gives246 (n:=(x % 256:Nat)) (by omega) (by omega)
 have l3:=itoa_len (n:=x/ 16777216) (by omega)
 have l2:=itoa_len (n:=x/ 65536 % 256) (by omega)
 have l1:=itoa_len (n:=x/ 256 % 256) (by omega)
 have l0:=itoa_len (n:=x % 256) (by omega)
 have ej:=join_gives247 _ _ _ _ ⟨l3.2,l2.2,l1.2,l0.2⟩;have n3:ab G 246 [.int .i64 (x/ 16777216 % 256:Nat)] [] ⟨.str (aw (x/ 16777216:Nat)),[]⟩:=by rw[show x/ 16777216 % 256=x/ 16777216 by omega];exact n3
 have n0:ab G 246 [.int .i64 (x/ 1 % 256:Nat)] [] ⟨.str (aw (x % 256:Nat)),[]⟩:=by rw[Nat.div_one];exact n0
 refine gvB (F:=Ef) ?_;refine au [5,3,0] [67] ?_;exact addr_loop0 x _ _ _ _ _ hx n3 n2 n1 n0 ej _ _ _ _
end Go.AM.IR.J
namespace Go.AM.IR.J
section
variable {kv:AV->Prop} {a b:Int}
end
end Go.AM.IR.J
namespace Go.AM.IR.J
def okA (p:Int×Int):Ret:=⟨.tup [.int .u32 p.1,.int .i64 p.2],[]⟩
def qW (s:List UInt8):Int:=match Lib.atoiAll s with
 | .ok v=>v
 | .range=>Lib.atoiSat s
 |_=>0
def kR (most:Int)(s:List UInt8):Bool:=match Lib.atoiAll s with
 | .ok v=>decide (0<=v)&&(decide (v<=most)&&(aw v==s))
 |_=>false
theorem oM {k:Nat}{most:Int}(hk:k<256)(hm:(k:Int)<=most):kR most (aw k)=true/\qW (aw k)=k:=by
 unfold kR qW;rw[PU hk];simp;omega
theorem pC {most:Int}{s:List UInt8}(h:kR most s=true): ∃k:Nat,(k:Int)<=most/\s=aw k/\qW s=k:=by
 unfold kR at h;unfold qW;cases hr:Lib.atoiAll s
 ·rename_i v
  rw[hr] at h;simp at h;exact ⟨v.toNat,by omega,by rw[Cl h.1];exact h.2.2.symm,by simp;omega⟩
 ·rw[hr] at h;cases h
 ·rw[hr] at h;cases h
def paL:List (List UInt8)->Nat->Int×Int
 | [],a=>((a:Int),0)
 |w::r,a=>if kR 255 w=true then paL r (a*256+(qW w).toNat) else (0,2)
def paP (s:List UInt8):Int×Int:=if (Lib.split s [46]).length=4 then paL (Lib.split s [46]) 0 else (0,2)
theorem j5 {k:Nat}(hk:k<256)(c:UInt8)(hc:dig c=false):c∉aw k:=λh=>by
 have:=Sg hk c h;rw[hc] at this;cases this
theorem Jp {x:Nat}(hx:x<4294967296):paP (dots x)=((x:Int),0):=by
 have e:Lib.split (dots x) [46]= [aw (x/ 16777216:Nat),aw (x/ 65536 % 256:Nat),aw (x/ 256 % 256:Nat),aw (x % 256:Nat)]:=by
  unfold dots;rw[split_hit 46 _ _ (j5 (by omega) _ rfl),split_hit 46 _ _ (j5 (by omega) _ rfl),split_hit 46 _ _ (j5 (by omega) _ rfl),split_none 46 _ (j5 (by omega) _ rfl)]
 unfold paP;rw[e,Ad (show [aw (x/ 16777216:Nat),aw (x/ 65536 % 256:Nat),aw (x/ 256 % 256:Nat),aw (x % 256:Nat)].length=4 from rfl)]
 have q3:=oM (k:=x/ 16777216) (most:=255) (by omega) (by omega)
 have q2:=oM (k:=x/ 65536 % 256) (most:=255) (by omega) (by omega)
 have q1:=oM (k:=x/ 256 % 256) (most:=255) (by omega) (by omega)
 have q0:=oM (k:=x % 256) (most:=255) (by omega) (by omega)
 rw[paL,Ad q3.1,paL,Ad q2.1,paL,Ad q1.1,paL,Ad q0.1,paL,q3.2,q2.2,q1.2,q0.2];simp only[Int.toNat_natCast];refine Prod.ext ?_ rfl;simp only;omega
theorem Jq: ∀(l:List (List UInt8))(a:Nat),paL l a=(0,2)∨ ∃ks:List Nat,(∀k∈ks,k<256)/\l=ks.map (λk:Nat=>aw (k:Int))/\paL l a=(((ks.foldl (λa k=>a*256+k) a:Nat):Int),0)
 | [],a=>.inr ⟨[],by simp,rfl,rfl⟩
 |w::r,a=>by
  by_cases h:kR 255 w=true
  ·obtain ⟨k,hk,e,hv⟩:=pC (most:=255) h
   rw[paL,Ad h,hv,Int.toNat_natCast];rcases Jq r (a*256+k) with q|⟨ks,h1,h2,h3⟩
   ·exact .inl q
   ·exact .inr ⟨k::ks,by intro j hj;rcases AL.1 hj with rfl|hj;omega;exact h1 j hj,by rw[h2,e];rfl,by rw[h3];rfl⟩
  ·left;rw[paL,Ac h]
theorem paP_all (s:List UInt8):paP s=(0,2)∨ ∃x:Nat,x<4294967296/\s=dots x/\paP s=((x:Int),0):=by
 by_cases hl:(Lib.split s [46]).length=4
 ·unfold paP
  rw[Ad hl];rcases Jq (Lib.split s [46]) 0 with q|⟨ks,h1,h2,h3⟩
  ·exact .inl q
  ·right
   rw[h3];have hj:=mw 46 s.length s (Be _);rw[h2] at hl hj
   match ks,h1,hl,hj with
   | [k0,k1,k2,k3],h1,_,hj=>
    have b0:=h1 k0 (by simp)
    have b1:=h1 k1 (by simp)
    have b2:=h1 k2 (by simp)
    have b3:=h1 k3 (by simp)
    have hx:(((0*256+k0)*256+k1)*256+k2)*256+k3<4294967296:=by omega
    refine ⟨_,hx,?_,rfl⟩;rw[<-hj];unfold dots
    rw[show ((((0*256+k0)*256+k1)*256+k2)*256+k3)/ 16777216=k0 by omega,show ((((0*256+k0)*256+k1)*256+k2)*256+k3)/ 65536 % 256=k1 by omega,
     show ((((0*256+k0)*256+k1)*256+k2)*256+k3)/ 256 % 256=k2 by omega,show ((((0*256+k0)*256+k1)*256+k2)*256+k3) % 256=k3 by omega]
    rfl
   | [],_,hl,_=>simp at hl
   | [_],_,hl,_=>simp at hl
   | [_,_],_,hl,_=>simp at hl
   | [_,_,_],_,hl,_=>simp at hl
   |_::_::_::_::_::_,_,hl,_=>simp at hl
 ·left;unfold paP;rw[Ac hl]
def psV (x:Nat)(n:Int):Pfx×Int:=if bz ⟨(x:Int),n⟩=true then (⟨(x:Int),n⟩,0) else (⟨0,0⟩,1)
def psP (s:List UInt8):Pfx×Int:=
 if (Lib.cut s [47]).2.2=false∨ ¬(paP (Lib.cut s [47]).1).2=0∨kR 32 (Lib.cut s [47]).2.1=false then (⟨0,0⟩,2)
 else psV (paP (Lib.cut s [47]).1).1.toNat (qW (Lib.cut s [47]).2.1)
theorem NY {x:Nat}(hx:x<4294967296):(47:UInt8)∉dots x:=by
 unfold dots;have h3:=j5 (k:=x/ 16777216) (by omega) 47 rfl
 have h2:=j5 (k:=x/ 65536 % 256) (by omega) 47 rfl
 have h1:=j5 (k:=x/ 256 % 256) (by omega) 47 rfl
 have h0:=j5 (k:=x % 256) (by omega) 47 rfl
 simp only[Cb,AL,not_or];exact ⟨h3,by decide,h2,by decide,h1,by decide,h0⟩
def ptext (x n:Nat):List UInt8:=dots x++47::aw n
theorem Xa {x n:Nat}(hx:x<4294967296)(hn:n<=32):psP (ptext x n)=psV x n:=by
 unfold psP ptext;have q:=oM (k:=n) (most:=32) (by omega) (by omega)
 rw[ye 47 _ _ (NY hx),Ac]
 ·simp only
  rw[Jp hx,q.2];simp
 ·simp only
  rw[Jp hx]
  rintro (e|e|e)
  ·cases e
  ·exact e rfl
  ·rw[q.1] at e;cases e
theorem psP_all (s:List UInt8):psP s=(⟨0,0⟩,2)∨ ∃x n:Nat,x<4294967296/\n<=32/\s=ptext x n/\psP s=psV x n:=by
 rcases sep_cases 47 s with h|⟨a,r,h,e⟩
 ·left;unfold psP;rw[UG 47 s h,Ad (.inl rfl)]
 ·rcases paP_all a with q|⟨x,hx,ea,q⟩
  ·left;unfold psP;rw[e,ye 47 a r h,Ad (.inr (.inl (by simp only;rw[q];decide)))]
  ·cases hb:kR 32 r
   ·left;unfold psP;rw[e,ye 47 a r h,Ad (.inr (.inr hb))]
   ·obtain ⟨n,hn,er,hv⟩:=pC (most:=32) hb
    right
    refine ⟨x,n,hx,by omega,by rw[e,ea,er];rfl,?_⟩
    rw[e,ea,er];exact Xa hx (by omega)
end Go.AM.IR.J
namespace Go.AM.IR.J
def errT:Nat:=273
section
variable {k:Eff->Prop} {x y:Opd} {g key:Nat} {hg:Nat->Option (Nat×Blk)} {ka kb:IntKind} {a b:Int} {kv:AV->Prop}
end
end Go.AM.IR.J
namespace Go.AM.IR.J
section
variable {kv:AV->Prop}
theorem Qf {a b:List UInt8}(h:kv (.bool (a==b))): ∃v,bt .eql (.str a) (.str b)=some v/\kv v:=⟨_,rfl,h⟩
end
theorem dots_len {x:Nat}(hx:x<4294967296):(dots x).length<=15:=by
 have l3:=itoa_len (n:=x/ 16777216) (by omega)
 have l2:=itoa_len (n:=x/ 65536 % 256) (by omega)
 have l1:=itoa_len (n:=x/ 256 % 256) (by omega)
 have l0:=itoa_len (n:=x % 256) (by omega)
 unfold dots;simp only[Ar,As];omega
theorem Br (s:List UInt8)(hs:s.length<2^40):ab G 263 [.str s] [] (BF errT s):=by
 show vg errT [.str s] []=_
 exact Ad (by omega)
theorem nQ (s:List UInt8)(most:Int)(hs:s.length<2^40):ab G 250 [.str s,.int .i64 most] [] ⟨.tup [.int .i64 (qW s),.bool (kR most s)],[]⟩:=by
 have ha:=Br s hs;unfold BF at ha;unfold qW kR;cases hr:Lib.atoiAll s
 ·rename_i v
  rw[hr] at ha;simp only at ha⊢;obtain ⟨b0,b1⟩:=Lib.atoiAll_bounds hr;have hi:=itoa_gives246 b0 b1;generalize aw v=t at*
  by_cases h0:0<=v
  ·by_cases h1:v<=most
   ·refine gvC (F:=uh) ?_
    repeat' ((conv=>whnf);first|refine Qf ?_|refine aq ?_|(refine ae ?_ ?_<;>intro h))
    refine ax ?_;simp[h0,h1]
   ·refine gvC (F:=uh) ?_
    repeat' ((conv=>whnf);first|refine Qf ?_|refine aq ?_|(refine ae ?_ ?_<;>intro h))
    refine ax ?_;simp[h0,h1]
  ·refine gvC (F:=uh) ?_
   repeat' ((conv=>whnf);first|refine Qf ?_|refine aq ?_|(refine ae ?_ ?_<;>intro h))
   refine ax ?_;simp[h0]
 ·rw[hr] at ha
  simp only at ha⊢;exact gvA (F:=uh)
 ·rw[hr] at ha
  simp only at ha⊢;exact gvA (F:=uh)
theorem text_gives229 (p:Pfx)(h:p.ok):ab G 229 [.agg p.enc] [] ⟨.str (if bz p=true then ptext p.addr.toNat p.len.toNat else []),[]⟩:=by
 obtain ⟨e,hx⟩:=nat_of h.addr;have hv:=fM p h;have ha:=addr_gives227 p.addr.toNat hx;have hd:=dots_len hx;rw[<-e] at ha;cases hvp:bz p
 ·rw[hvp] at hv
  rw[Ac (by simp)]
  exact gvA (F:=xV)
 ·rw[hvp] at hv
  obtain ⟨n0,n1⟩:=validP_len hvp;have hi:=itoa_gives246 (n:=p.len) (by omega) (by omega)
  have hil:=itoa_len (n:=p.len.toNat) (by omega)
  rw[Cl n0] at hil;rw[Ad rfl,ptext,Cl n0];generalize aw p.len=t at*;generalize dots p.addr.toNat=d at*;refine gvC (F:=xV) ?_
  repeat' (first|refine b8 ?_|(refine ae ?_ ?_<;>intro h))
  refine ax ?_;simp
end Go.AM.IR.J
namespace Go.AM.IR.J
theorem ptext_len {x n:Nat}(hx:x<4294967296)(hn:n<=32):(ptext x n).length<=19:=by
 have:=dots_len hx;have:=itoa_len (n:=n) (by omega)
 unfold ptext;simp only[Ar,As];omega
structure PRule where
 permit:Bool
 pfx:Pfx
 min:Int
 max:Int
 deriving DecidableEq
def PRule.enc (r:PRule):List AV:=[.bool r.permit,.int .u32 r.pfx.addr,.int .i64 r.pfx.len,.int .i64 r.min,.int .i64 r.max]
structure PRule.ok (r:PRule):Prop where
 pfx:r.pfx.ok
 min:okI r.min
 max:okI r.max
def jB (r:PRule):Int:=if bz r.pfx=true then (if r.min<r.pfx.len∨r.max<r.min∨r.max>32 then 5 else 0) else 1
theorem chk_zero {r:PRule}(h:jB r=0):bz r.pfx=true/\r.pfx.len<=r.min/\r.min<=r.max/\r.max<=32/\0<=r.pfx.len:=by
 unfold jB at h;split at h
 ·rename_i v
  obtain ⟨a,b⟩:=(J3 r.pfx).1 v;split at h
  ·cases h
  ·exact ⟨v,by omega,by omega,by omega,a⟩
 ·cases h
def wPermit:List UInt8:=[112,101,114,109,105,116]
def wDeny:List UInt8:=[100,101,110,121]
def tg (b:Bool):List UInt8:=bif b then wPermit else wDeny
def rng (a b:Int):List UInt8:=aw a++45::aw b
def rtail (r:PRule):List UInt8:=if r.min≠r.pfx.len∨r.max≠r.pfx.len then 32::rng r.min r.max else []
def rtext (r:PRule):List UInt8:=tg r.permit++32::(ptext r.pfx.addr.toNat r.pfx.len.toNat++rtail r)
def JW:PRule:=⟨false,⟨0,0⟩,0,0⟩
def canon (s:List UInt8):Bool:=match s with
 | []=>false
 |b::r=> !(decide (r≠ [])&&decide (b=48))&&(b::r).all dig
def foldN:List UInt8->Nat->Option Nat
 | [],n=>some n
 |b::r,n=>if n>(9223372036854775807-dval b)/ 10 then none else foldN r (10*n+dval b)
def fNum (most:Int)(s:List UInt8):Int×Int:=if canon s=true then (match foldN s 0 with
 |none=>(0,5)
 |some n=>if (n:Int)>most then (0,5) else ((n:Int),0)) else (0,2)
def lenS (s:List UInt8):Int×Int×Bool:=
 if 45∈s then ((fNum 32 (s.takeWhile (· !=45))).1,(fNum 32 ((s.dropWhile (· !=45)).drop 1)).1,(fNum 32 (s.takeWhile (· !=45))).2==0&&(fNum 32 ((s.dropWhile (· !=45)).drop 1)).2==0)
 else (0,0,false)
theorem Vm {c:UInt8}: ∀{a r:List UInt8},c∉a->(a++c::r).takeWhile (· !=c)=a/\(a++c::r).dropWhile (· !=c)=c::r
 | [],r,_=>by simp
 |x::a,r,h=>by
  have hx:(x !=c)=true:=by simp;exact λe=>h (by simp[e])
  have ih:=Vm (c:=c) (a:=a) (r:=r) (λq=>h (by simp[q]))
  simp only[B4,List.takeWhile_cons,List.dropWhile_cons,hx,if_true,ih.1,ih.2,and_self]
def wordsS (s:List UInt8):Option (List (List UInt8)):=if s= [] then some [] else if 10∈s then none else if []∈Lib.split s [32] then none else some (Lib.split s [32])
def plW (ws:List (List UInt8)):Option PRule:=match ws with
 | [v,p]=>if (psP p).2=0 then some ⟨v==wPermit,(psP p).1,(psP p).1.len,(psP p).1.len⟩ else none
 | [v,p,l]=>if (psP p).2=0 then (if (lenS l).2.2=true then some ⟨v==wPermit,(psP p).1,(lenS l).1,(lenS l).2.1⟩ else none) else none
 |_=>none
def plP (s:List UInt8):PRule×Int:=match (wordsS s).bind plW with
 |some r=>if jB r=0/\rtext r=s then (r,0) else (JW,2)
 |none=>(JW,2)
theorem psP_ok {s:List UInt8}(h:(psP s).2=0):(psP s).1.ok:=by
 rcases psP_all s with e|⟨x,n,hx,hn,_,e⟩
 ·rw[e] at h;cases h
 ·rw[e] at h⊢
  unfold psV at h⊢;split at h
  ·rename_i v
   rw[Ad v];exact ⟨by unfold okU;simp only;omega,by unfold okI;simp only;omega⟩
  ·cases h
theorem ZE {ws:List (List UInt8)}{r:PRule}(h:plW ws=some r):r.pfx.ok:=by
 unfold plW at h;split at h
 ·split at h
  ·rename_i hz;obtain rfl:=Ai h;exact psP_ok hz
  ·cases h
 ·split at h
  ·rename_i hz
   split at h
   ·obtain rfl:=Ai h;exact psP_ok hz
   ·cases h
  ·cases h
 ·cases h
theorem plP_all (s:List UInt8):plP s=(JW,2)∨ ∃r,r.pfx.ok/\jB r=0/\s=rtext r/\plP s=(r,0):=by
 unfold plP;cases hw:(wordsS s).bind plW with
 |none=>exact .inl rfl
 |some r=>
  by_cases h:jB r=0/\rtext r=s
  ·obtain ⟨ws,_,h2⟩:=Option.bind_eq_some_iff.1 hw
   exact .inr ⟨r,ZE h2,h.1,h.2.symm,Ad h⟩
  ·exact .inl (Ac h)
def low (b:UInt8):Bool:=b !=32&&b !=10
end Go.AM.IR.J
namespace Go.AM.IR.J
end Go.AM.IR.J
namespace Go.AM.IR.J
theorem FF (r:PRule)(h:r.ok):ab G 325 [.agg r.enc] [] ⟨.int .i64 (jB r),[]⟩:=by
 have hv:=fM r.pfx h.pfx;unfold jB;cases hvp:bz r.pfx
 ·rw[hvp] at hv
  rw[Ac (by simp)]
  exact gvA (F:=oq)
 ·rw[hvp] at hv
  rw[Ad rfl]
  by_cases h1:r.min<r.pfx.len
  ·rw[Ad (.inl h1)]
   exact gvA (F:=oq)
  ·by_cases h2:r.max<r.min
   ·rw[Ad (.inr (.inl h2))]
    exact gvA (F:=oq)
   ·by_cases h3:r.max>32
    ·rw[Ad (.inr (.inr h3))]
     exact gvA (F:=oq)
    ·rw[Ac (by omega)]
     exact gvA (F:=oq)
end Go.AM.IR.J
namespace Go.AM.IR.J
def Zk (s:List UInt8)(r:PRule):Prop:=jB r=0/\rtext r=s
instance (s:List UInt8) (r:PRule):Decidable (Zk s r):=by unfold Zk;infer_instance
end Go.AM.IR.J
namespace Go.AM.IR.J
theorem shl8 {x:Nat}(hx:x<16777216){kv:AV->Prop}(h:kv (.int .u32 ((x*256:Nat):Int))): ∃v,bt .shl (.int .u32 (x:Int)) (.int .u64 8)=some v/\kv v:=by
 refine ⟨_,?_,h⟩;show some (AV.int .u32 (IntKind.wrap .u32 ((x:Int)*2^ (min (8:Int).toNat 32))))=_
 rw[show (x:Int)*2^ (min (8:Int).toNat 32)=((x*256:Nat):Int) from by simp[show min (8:Int).toNat 32=8 from rfl],rT _ (by omega)]
theorem or8 {x n:Nat}(hx:x<16777216)(hn:n<256){kv:AV->Prop}(h:kv (.int .u32 ((x*256+n:Nat):Int))): ∃v,bt .or (.int .u32 ((x*256:Nat):Int)) (.int .u32 (n:Int))=some v/\kv v:=by
 refine ⟨_,?_,h⟩;show some (AV.int .u32 (intBits .or .u32 _ _))=_
 rw[NS _ _ (by omega) (by omega),ZP hn]
abbrev Bs:=List UInt8
def encS (w:List UInt8):List AV:=[.str w]
theorem u9 (l:List Bs)(h4:l.length=4)(hw: ∀w∈l,w.length<2^40)(hl:l.length<2^40)(ln:Int)(hln:ln=l.length): ∀(rest done:List Bs)(a:Nat)(T:TV)(H:ap)(c:Nat)(n:Int)(e:l=done++rest)(hn:n=done.length)(ha:a<256^done.length),Ev G ⟨O0,⟨(15,.sl 1 (l.map encS))::(16,.int .i64 ln)::(17,.int .i64 n)::(5,.int .u32 (a:Int))::T,H,c⟩,[.t 2,.t 3],0⟩ (okA (paL rest a))
 | [],done,a,T,H,c,n,e,hn,ha=>by
  have hd:=md0 e;have hll:=ml l encS;refine evA ?_;refine ax ?_;rfl
 |x::r,done,a,T,H,c,n,e,hn,ha=>by
  have hd:=md e;have hll:=ml l encS;have hx:=mx encS e hn;have ha4:a<16777216:=Cf ha (AN (Nat.pow_le_pow_right (by omega) (show done.length<=3 by omega)) (by omega))
  have hn:=nQ x 255 (hw x (by simp[e]))
  by_cases hb:kR 255 x=true
  ·obtain ⟨k,hk,ek,hv⟩:=pC hb
   rw[hb,hv] at hn;rw[paL,Ad hb,hv,Int.toNat_natCast];refine evl ?_
   repeat' ((conv=>whnf);first|refine shl8 ha4 ?_|refine or8 ha4 (by omega) ?_|refine aq ?_|(refine ae ?_ ?_<;>intro h))
   refine au [15,16,17,5] [] ?_;exact u9 l h4 hw hl ln hln r (done++[x]) (a*256+k) _ _ _ (n+1) (by simp[e]) (by simp[hn]<;>omega) (by rw[Ar,List.length_singleton,Nat.pow_succ];omega)
  ·have hb2:kR 255 x=false:=by simpa using hb
   rw[hb2] at hn;rw[paL,Ac hb];refine evA ?_;refine ax ?_;rfl
theorem wM (s:List UInt8)(hs:s.length<4294967281):ab G 249 [.str s,.str [46]] [] ⟨.sl 1 ((Lib.split s [46]).map encS),[]⟩:=by
 show oH [.str s,.str [46]] []=_
 exact Ad ⟨hs,by simp⟩
end Go.AM.IR.J
namespace Go.AM.IR.J
theorem dec_gives337 {n:Nat}(h:n<256):ab G 337 [.int .i64 (n:Int)] [] ⟨.str (aw n),[]⟩:=by
 have hi:=itoa_gives246 (n:=(n:Int)) (by omega) (by omega)
 generalize aw (n:Int)=t at*;exact gvA (F:=f337)
theorem idx_at {s done rest:List UInt8}{x:UInt8}{n:Int}(e:s=done++x::rest)(hn:n=done.length):s[n.toNat]? =some x:=by
 rw[e,hn];simp
theorem me (s:List UInt8)(hs:s.length<2^40): ∀(rest done:List UInt8)(T:TV)(H:ap)(c:Nat)(n:Int)(e:s=done++rest)(hn:n=done.length),
  Ev G ⟨D8,⟨(18,.int .i64 n)::(0,.str s)::(17,.int .i64 s.length)::T,H,c⟩,[.t 2],0⟩ ⟨.bool (rest.all dig),[]⟩
 | [],done,T,H,c,n,e,hn=>by
  have hd:=md0 e;refine evA ?_;refine ax ?_;rfl
 |x::rest,done,T,H,c,n,e,hn=>by
  have hd:=md e;have hb:=idx_at e hn;rw[Co]
  by_cases h1:48<=x.toNat
  ·by_cases h2:x.toNat<=57
   ·rw[show dig x=true from by simp[dig,h1,h2],BY]
    refine evl ?_
    repeat' (first|refine b8 ?_|(refine ae ?_ ?_<;>intro h))
    refine au [18,0,17] [] ?_;exact me s hs rest (done++[x]) _ _ _ (n+1) (by simp[e]) (by simp[hn])
   ·rw[show dig x=false from by simp[dig,h2],BV]
    refine evl ?_
    repeat' (first|refine b8 ?_|(refine ae ?_ ?_<;>intro h))
    refine ax ?_;rfl
  ·rw[show dig x=false from by simp[dig,h1],BV]
   refine evl ?_
   repeat' (first|refine b8 ?_|(refine ae ?_ ?_<;>intro h))
   refine ax ?_;rfl
theorem yj (s:List UInt8)(hs:s.length<2^40):ab G 347 [.str s] [] ⟨.bool (canon s),[]⟩:=by
 cases s with
 |nil=>
  have z: ∀{kv:AV->Prop},kv (.bool true)-> ∃v,bt .eql (.str []) (.str [])=some v/\kv v:=λh=>⟨_,rfl,h⟩
  refine gvC (F:=nt) ?_
  repeat' ((conv=>whnf);first|refine z ?_|refine aq ?_|(refine ae ?_ ?_<;>intro h))
  refine ax ?_;rfl
 |cons b r=>
  have z: ∀{kv:AV->Prop},kv (.bool false)-> ∃v,bt .eql (.str (b::r)) (.str [])=some v/\kv v:=λh=>⟨_,rfl,h⟩
  have hb:(b::r)[(0:Int).toNat]? =some b:=rfl;have hl:(b::r).length=r.length+1:=rfl;cases r with
  |nil=>
   rw[show canon [b]= [b].all dig from by simp[canon]]
   refine gvC (F:=nt) ?_
   repeat' ((conv=>whnf);first|refine z ?_|refine aq ?_|(refine ae ?_ ?_<;>intro h))
   refine au [18,0,17] [] ?_;exact me [b] hs [b] [] _ _ _ 0 rfl rfl
  |cons d q=>
   have hl2:(b::d::q).length=q.length+2:=rfl
   by_cases hz:b=48
   ·subst hz
    rw[show canon (48::d::q)=false from by simp[canon]]
    refine gvC (F:=nt) ?_
    repeat' ((conv=>whnf);first|refine z ?_|refine zIstr (b:=48) ?_ hb (by omega)|refine aq ?_|(refine ae ?_ ?_<;>intro h))
    refine ax ?_;rfl
   ·have hz2: ¬(b.toNat:Int)=48:=by
     intro e;apply hz;apply A8.1
     show b.toNat=48
     omega
    rw[show canon (b::d::q)=(b::d::q).all dig from by simp[canon,hz]]
    refine gvC (F:=nt) ?_
    repeat' ((conv=>whnf);first|refine z ?_|refine zIstr (b:=b) ?_ hb (by omega)|refine aq ?_|(refine ae ?_ ?_<;>intro h))
    refine au [18,0,17] [] ?_;exact me (b::d::q) hs (b::d::q) [] _ _ _ 0 rfl rfl
def nfR (p:Int×Int):Ret:=⟨.tup [.int .i64 p.1,.int .i64 p.2],[]⟩
def R0 (most:Int)(o:Option Nat):Int×Int:=match o with
 |none=>(0,5)
 |some n=>if (n:Int)>most then (0,5) else ((n:Int),0)
theorem sJ (s:List UInt8)(hs:s.length<2^40)(most:Int): ∀(rest done:List UInt8)(a:Nat)(T:TV)(H:ap)(c:Nat)(n A:Int)(e:s=done++rest)(hn:n=done.length)(hA:A=a)(ha:a<=9223372036854775807)(hd:rest.all dig=true),
  Ev G ⟨zr,⟨(14,.int .i64 n)::(6,.int .i64 A)::(0,.str s)::(1,.int .i64 most)::(13,.int .i64 s.length)::T,H,c⟩,[.t 4,.t 5],0⟩ (nfR (R0 most (foldN rest a)))
 | [],done,a,T,H,c,n,A,e,hn,hA,ha,hd=>by
  have hd:=md0 e;rw[foldN,R0]
  by_cases hm:(a:Int)>most
  ·rw[Ad hm]
   refine evA ?_;refine ax ?_;rfl
  ·rw[Ac hm]
   refine evA ?_;refine ax ?_;rw[hA];rfl
 |x::rest,done,a,T,H,c,n,A,e,hn,hA,ha,hdg=>by
  have hd:=md e;have hb:=idx_at e hn;simp only[Co,Av] at hdg;obtain ⟨h1,h2⟩:48<=x.toNat/\x.toNat<=57:=by have:=hdg.1;simpa[dig] using this
  have hv:dval x<10:=by unfold dval;omega
  rw[foldN]
  by_cases ho:a>(9223372036854775807-dval x)/ 10
  ·rw[Ad ho,R0]
   have ho2:A>(9223372036854775807- ((dval x:Nat):Int))/ 10:=by omega
   refine evl ?_
   repeat' ((conv=>whnf);first|refine zIstr ?_ hb (by omega)|refine Mw ?_ h1|refine aq ?_|(refine ae ?_ ?_<;>intro h))
   refine ax ?_;rfl
  ·rw[Ac ho]
   have ho2: ¬A>(9223372036854775807- ((dval x:Nat):Int))/ 10:=by omega
   refine evl ?_
   repeat' ((conv=>whnf);first|refine zIstr ?_ hb (by omega)|refine Mw ?_ h1|refine aq ?_|(refine ae ?_ ?_<;>intro h))
   refine au [14,6,0,1,13] [] ?_;exact sJ s hs most rest (done++[x]) (10*a+dval x) _ _ _ (n+1) (10*A+(dval x:Nat)) (by simp[e]) (by simp[hn]) (by omega) (by omega) hdg.2
theorem num_gives346 (s:List UInt8)(hs:s.length<2^40)(most:Int):ab G 346 [.str s,.int .i64 most] [] (nfR (fNum most s)):=by
 have hc:=yj s hs;unfold fNum;cases hq:canon s
 ·rw[hq] at hc
  rw[Ac (by simp)]
  exact gvA (F:=ug)
 ·rw[hq] at hc
  rw[Ad rfl]
  have hd:s.all dig=true:=by
   unfold canon at hq;split at hq
   ·cases hq
   ·simp only[Av] at hq;exact hq.2
  refine gvB (F:=ug) ?_;refine au [14,6,0,1,13] [] ?_;exact sJ s hs most s [] 0 _ _ _ 0 0 rfl rfl rfl (by omega) hd
end Go.AM.IR.J
namespace Go.AM.IR.J
def lnR (p:Int×Int×Bool):Ret:=⟨.tup [.int .i64 p.1,.int .i64 p.2.1,.bool p.2.2],[]⟩
theorem sN (s:List UInt8)(hs:s.length<2^40): ∀(rest done:List UInt8)(T:TV)(H:ap)(c:Nat)(n:Int)(e:s=done++rest)(hn:n=done.length)(hd:(45:UInt8)∉done),
  Ev G ⟨Ur,⟨(0,.str s)::(12,.int .i64 n)::(11,.int .i64 s.length)::T,H,c⟩,[.t 2,.t 3,.t 4],0⟩ (lnR (lenS s))
 | [],done,T,H,c,n,e,hn,hdn=>by
  have hd:=md0 e;rw[show lenS s=(0,0,false) from Ac (by rw[e];simpa using hdn)]
  refine evA ?_;refine ax ?_;rfl
 |x::rest,done,T,H,c,n,e,hn,hdn=>by
  have hd:=md e;have hb:=idx_at e hn
  by_cases hx:x=45
  ·subst hx
   obtain ⟨e1,e2⟩:=Vm (r:=rest) hdn
   have hlen:lenS s=((fNum 32 done).1,(fNum 32 rest).1,(fNum 32 done).2==0&&(fNum 32 rest).2==0):=by
    unfold lenS;rw[Ad (by rw[e];simp),e,e1,e2];rfl
   rw[hlen];have n1: ∀m,List.take m (List.drop 0 s)=done->ab G 346 [.str (List.take m (List.drop 0 s)),.int .i64 32] [] (nfR (fNum 32 done)):=λm ht=>by rw[ht];exact num_gives346 done (by omega) 32
   have n2: ∀m k,List.take m (List.drop k s)=rest->ab G 346 [.str (List.take m (List.drop k s)),.int .i64 32] [] (nfR (fNum 32 rest)):=λm k ht=>by rw[ht];exact num_gives346 rest (by omega) 32
   generalize fNum 32 done=F1 at*;generalize fNum 32 rest=F2 at*;obtain ⟨a,p⟩:=F1;obtain ⟨b,q⟩:=F2;have s1:List.take (n.toNat-0) (List.drop 0 s)=done:=by simp[e,hn]
   have s2:List.take (s.length- (n+1).toNat) (List.drop (n+1).toNat s)=rest:=by
    have:(n+1).toNat=done.length+1:=by omega
    rw[this,e,List.take_of_length_le (by simp<;>omega)];simp
   by_cases hp:p=0
   ·refine evl ?_
    repeat' ((conv=>whnf);first|refine zIstr (b:=45) ?_ hb (by omega)|refine kV (n1 _ s1) ?_|refine kV (n2 _ _ s2) ?_|refine aq ?_|(refine ae ?_ ?_<;>intro h))
    refine ax ?_;simp[hp,lnR]
   ·refine evl ?_
    repeat' ((conv=>whnf);first|refine zIstr (b:=45) ?_ hb (by omega)|refine kV (n1 _ s1) ?_|refine kV (n2 _ _ s2) ?_|refine aq ?_|(refine ae ?_ ?_<;>intro h))
    refine ax ?_;simp[hp,lnR]
  ·have hx2: ¬(x.toNat:Int)=45:=by
    intro q;apply hx;apply A8.1
    show x.toNat=45
    omega
   refine evl ?_
   repeat' (first|refine b8 ?_|(refine ae ?_ ?_<;>intro h))
   refine au [0,12,11] [] ?_;exact sN s hs rest (done++[x]) _ _ _ (n+1) (by simp[e]) (by simp[hn]) (by simp;exact ⟨hdn,λq=>hx q.symm⟩)
theorem Dx (s:List UInt8)(hs:s.length<2^40):ab G 340 [.str s] [] (lnR (lenS s)):=by
 refine gvB (F:=LG) ?_;refine au [0,12,11] [] ?_;exact sN s hs s [] _ _ _ 0 rfl rfl (by simp)
def wrR (s:List UInt8):Ret:=match wordsS s with
 |none=>⟨.tup [.con (.slice none 0 0),.int .i64 2],[]⟩
 |some ws=>if s= [] then ⟨.tup [.con (.slice none 0 0),.int .i64 0],[]⟩ else ⟨.tup [.sl 1 (ws.map encS),.int .i64 0],[]⟩
theorem sx (s:List UInt8)(hs:s.length<4294967281):ab G 345 [.str s,.str [10]] [] ⟨.bool (decide ((10:UInt8)∈s)),[]⟩:=by
 have e:Lib.contains s [10]=decide ((10:UInt8)∈s):=by
  unfold Lib.contains;rcases sep_cases 10 s with h|⟨a,r,h,rfl⟩
  ·rw[my 10 s h];simp[h]
  ·rw[nV 10 a r h];simp
 rw[<-e];show lW [.str s,.str [10]] []=_
 exact Ad hs
theorem Ab (s:List UInt8)(hs:s.length<4294967281):ab G 249 [.str s,.str [32]] [] ⟨.sl 1 ((Lib.split s [32]).map encS),[]⟩:=by
 show oH [.str s,.str [32]] []=_
 exact Ad ⟨hs,by simp⟩
theorem Ph (w:Bs):aH (encS w)=true:=rfl
@[simp] theorem Cj (l:List Bs):aa (l.map encS)=true:=lx Ph l
theorem qk (l:List Bs)(hl:l.length<2^40)(ln:Int)(hln:ln=l.length): ∀(rest done:List Bs)(T:TV)(H:ap)(c:Nat)(n:Int)(e:l=done++rest)(hn:n=done.length),Ev G ⟨OZ,⟨(13,.sl 1 (l.map encS))::(14,.int .i64 ln)::(15,.int .i64 n)::(4,.sl 1 (l.map encS))::T,H,c⟩,[.t 2,.t 3],0⟩ (bif rest.any (λw=>w== []) then ⟨.tup [.con (.slice none 0 0),.int .i64 2],[]⟩ else ⟨.tup [.sl 1 (l.map encS),.int .i64 0],[]⟩)
 | [],done,  T,H,c,n,e,hn=>by
  have hd:=md0 e;have hll:=ml l encS;have hpu:(AV.tup [.sl 1 (l.map encS),.int .i64 0]).pure=true:=by simp[AV.pure,aH]
  refine evA ?_
  first|refine O9 (And.intro hpu ?_)|refine JF (And.intro hpu ?_)
  rfl
 |x::r,done,  T,H,c,n,e,hn=>by
  have hd:=md e;have hll:=ml l encS;have hx:=mx encS e hn;rw[List.any_cons]
  by_cases hz:x= []
  ·subst hz
   refine evl ?_
   repeat' (first|refine b8 ?_|(refine ae ?_ ?_<;>intro h))
   refine ax ?_;rfl
  ·have hz2:(x==([]:List UInt8))=false:=by simpa using hz
   have zf: ∀{kv:AV->Prop},kv (.bool false)-> ∃v,bt .eql (.str x) (.str [])=some v/\kv v:=λh=>⟨_,by show some (AV.bool (x== []))=_;rw[hz2],h⟩
   rw[hz2,Bool.false_or];refine evl ?_
   repeat' ((conv=>whnf);first|refine zf ?_|refine aq ?_|(refine ae ?_ ?_<;>intro h))
   refine au [13,14,15,4] [] ?_;exact qk l  hl ln hln r (done++[x])  _ _ _ (n+1) (by simp[e]) (by simp[hn]<;>omega)
theorem words_gives339 (s:List UInt8)(hs:s.length<4294967281):ab G 339 [.str s] [] (wrR s):=by
 unfold wrR wordsS
 by_cases h0:s= []
 ·subst h0
  rw[Ad rfl];refine gvC (F:=xU) ?_
  repeat' (first|refine b8 ?_|(refine ae ?_ ?_<;>intro h))
  refine ax ?_;rfl
 ·have hz2:(s==([]:List UInt8))=false:=by simpa using h0
  have zf: ∀{kv:AV->Prop},kv (.bool false)-> ∃v,bt .eql (.str s) (.str [])=some v/\kv v:=λh=>⟨_,by show some (AV.bool (s== []))=_;rw[hz2],h⟩
  have hc:=sx s hs;rw[Ac h0]
  by_cases h1:(10:UInt8)∈s
  ·rw[Ad h1]
   rw[Al h1] at hc;refine gvC (F:=xU) ?_
   repeat' ((conv=>whnf);first|refine zf ?_|refine aq ?_|(refine ae ?_ ?_<;>intro h))
   refine ax ?_;rfl
  ·rw[Ac h1]
   rw[An h1] at hc;have hp:=Ab s hs
   have hln:(Lib.split s [32]).length<2^40:=by
    have:=Lib.count_le s [32]
    have h2:(Lib.split s [32]).length<=Lib.count s [32]+1:=by
     have:=Lib.splitB_length_le ⟨[32].toArray⟩ 0 (Lib.count s [32]) ⟨s.toArray⟩;have e:=congrArg List.length (Lib.splitB_data ⟨[32].toArray⟩ 0 (Lib.count s [32]) ⟨s.toArray⟩);have e2:(Lib.splitB ⟨[32].toArray⟩ 0 (Lib.count s [32]) ⟨s.toArray⟩).length=(Lib.splitK [32] 0 (Lib.count s [32]) s).length:=by simpa using e
     unfold Lib.split;omega
    omega
   have hm:([]∈Lib.split s [32])↔ (Lib.split s [32]).any (λw=>w== [])=true:=by simp
   generalize Lib.split s [32]=l at*;have hpu:(AV.sl 1 (l.map encS)).pure=true:=by simp[AV.pure]
   have key:=qk l hln ((l.map encS).length:Int) (by simp) l []
   have hr:(match (if []∈l then none else some l) with
    |none=>(⟨.tup [.con (.slice none 0 0),.int .i64 2],[]⟩:Ret)
    |some ws=>if s= [] then ⟨.tup [.con (.slice none 0 0),.int .i64 0],[]⟩ else ⟨.tup [.sl 1 (ws.map encS),.int .i64 0],[]⟩)=(bif l.any (λw=>w== []) then ⟨.tup [.con (.slice none 0 0),.int .i64 2],[]⟩ else ⟨.tup [.sl 1 (l.map encS),.int .i64 0],[]⟩):=by
    by_cases hq: []∈l
    ·rw[Ad hq,hm.1 hq];rfl
    ·rw[Ac hq]
     have:l.any (λw=>w== [])=false:=by rw[Bool.eq_false_iff];exact λq=>hq (hm.2 q)
     rw[this];simp only[Ac h0];rfl
   rw[hr];refine gvC (F:=xU) ?_
   repeat' ((conv=>whnf);first|refine zf ?_|refine wt hp ?_ (by rfl) hpu|refine aq ?_|(refine ae ?_ ?_<;>intro h))
   refine au [13,14,15,4] [] ?_;exact key _ _ _ 0 rfl rfl
end Go.AM.IR.J
namespace Go.AM.IR.J
def txR (r:PRule):Ret:=if jB r=0 then ⟨.tup [.str (rtext r),.int .i64 0],[]⟩ else ⟨.tup [.str [],.int .i64 (jB r)],[]⟩
theorem nat32 {x:Int}(h0:0<=x)(h1:x<=32): ∃k:Nat,x=k/\k<=32:=⟨x.toNat,by omega,by omega⟩
theorem text_gives332 (r:PRule)(h:r.ok):ab G 332 [.agg r.enc] [] (txR r):=by
 have hc:=FF r h;unfold txR
 by_cases h0:jB r=0
 ·rw[h0] at hc
  obtain ⟨v,m1,m2,m3,m0⟩:=chk_zero h0;rw[Ad h0];have ht:=text_gives229 r.pfx h.pfx;rw[Ad v] at ht;obtain ⟨_,hx⟩:=nat_of h.pfx.addr;have hl:=ptext_len (n:=r.pfx.len.toNat) hx (by omega)
  obtain ⟨a,ea,ha⟩:=nat32 (x:=r.min) (by omega) (by omega)
  obtain ⟨b,eb,hb⟩:=nat32 (x:=r.max) (by omega) (by omega)
  have d1:=dec_gives337 (n:=a) (by omega)
  have d2:=dec_gives337 (n:=b) (by omega)
  have l1:=itoa_len (n:=a) (by omega)
  have l2:=itoa_len (n:=b) (by omega)
  clear h h0 v hx m0 m1 m2 m3;unfold rtext rtail rng;obtain ⟨p,⟨x,n⟩,mn,mx⟩:=r;simp only at*;subst ea eb;generalize ptext x.toNat n.toNat=t at*;generalize aw (a:Int)=ta at*;generalize aw (b:Int)=tb at*
  by_cases e1:(a:Int)=n
  ·by_cases e2:(b:Int)=n
   ·cases p
    ·refine gvC (F:=nu) ?_
     repeat' (first|refine b8 ?_|(refine ae ?_ ?_<;>intro h))
     refine ax ?_;simp[tg,wDeny,e1,e2]
    ·refine gvC (F:=nu) ?_
     repeat' (first|refine b8 ?_|(refine ae ?_ ?_<;>intro h))
     refine ax ?_;simp[tg,wPermit,e1,e2]
   ·cases p
    ·refine gvC (F:=nu) ?_
     repeat' (first|refine b8 ?_|(refine ae ?_ ?_<;>intro h))
     refine ax ?_;simp[tg,wDeny,e2]
    ·refine gvC (F:=nu) ?_
     repeat' (first|refine b8 ?_|(refine ae ?_ ?_<;>intro h))
     refine ax ?_;simp[tg,wPermit,e2]
  ·cases p
   ·refine gvC (F:=nu) ?_
    repeat' (first|refine b8 ?_|(refine ae ?_ ?_<;>intro h))
    refine ax ?_;simp[tg,wDeny,e1]
   ·refine gvC (F:=nu) ?_
    repeat' (first|refine b8 ?_|(refine ae ?_ ?_<;>intro h))
    refine ax ?_;simp[tg,wPermit,e1]
 ·rw[Ac h0]
  generalize jB r=k at*;exact gvA (F:=nu)
end Go.AM.IR.J
namespace Go.AM.IR.J
theorem re (c:UInt8): ∀(l:List (List UInt8))(w:List UInt8),w∈l->w.length<=(vx c l).length
 | [],_,h=>by simp at h
 | [x], w, h => by obtain rfl:w=x:=by simpa using h
                   exact Be _
 |x::y::r,w,h=>by
  simp only[vx,Ar,As];rcases AL.1 h with rfl|h
  ·omega
  ·have:=re c (y::r) w h;omega
theorem Nd (s:List UInt8)(w:List UInt8)(h:w∈Lib.split s [46]):w.length<=s.length:=by
 have:=re 46 _ w h;rwa [mw 46 s.length s (Be _)] at this
theorem pad_gives231 (s:List UInt8)(hs:s.length<4294967281):ab G 231 [.str s] [] (okA (paP s)):=by
 have hp:=wM s hs;have hw: ∀w∈Lib.split s [46],w.length<2^40:=λw h=>by have:=Nd s w h;omega
 unfold paP;generalize Lib.split s [46]=l at*;have hll:=ml l encS;have hpu:(AV.sl 1 (l.map encS)).pure=true:=lx (λ_=>rfl) l
 by_cases h4:l.length=4
 ·rw[Ad h4]
  refine gvC (F:=D9) ?_
  repeat' ((conv=>whnf);first|refine wt hp ?_ (by rfl) hpu|refine aq ?_|(refine ae ?_ ?_<;>intro h))
  refine au [15,16,17,5] [] ?_;exact u9 l h4 hw (by omega) _ (by simp) l [] 0 _ _ _ 0 rfl rfl (by simp)
 ·rw[Ac h4]
  refine gvC (F:=D9) ?_
  repeat' ((conv=>whnf);first|refine wt hp ?_ (by rfl) hpu|refine aq ?_|(refine ae ?_ ?_<;>intro h))
  refine ax ?_;rfl
def pfR (x:Pfx×Int):Ret:=⟨.tup [.agg x.1.enc,.int .i64 x.2],[]⟩
theorem Fm (s:List UInt8)(hs:s.length<4294967281):ab G 252 [.str s,.str [47]] [] ⟨.tup [.str (Lib.cut s [47]).1,.str (Lib.cut s [47]).2.1,.bool (Lib.cut s [47]).2.2],[]⟩:=by
 show Dc [.str s,.str [47]] []=_
 exact Ad hs
theorem Yo (s:List UInt8):(Lib.cut s [47]).1.length<=s.length/\(Lib.cut s [47]).2.1.length<=s.length:=by
 unfold Lib.cut;split
 ·simp;omega
 ·simp
theorem ZL {x:Nat}{n:Int}(hx:x<4294967296)(h0:0<=n)(h1:n<=32):Pfx.ok ⟨(x:Int),n⟩:=⟨by unfold okU;simp only;omega,by unfold okI;simp only;omega⟩
theorem parse_gives233 (s:List UInt8)(hs:s.length<4294967281):ab G 233 [.str s] [] (pfR (psP s)):=by
 have hc:=Fm s hs;obtain ⟨hl1,hl2⟩:=Yo s;unfold psP;generalize Lib.cut s [47]=q at*;obtain ⟨l,r,f⟩:=q;simp only at hc hl1 hl2⊢;have hp:=pad_gives231 l (by omega)
 have hn:=nQ r 32 (by omega)
 rcases paP_all l with ea|⟨x,hx,_,ea⟩
 ·rw[ea] at hp⊢
  rw[Ad (.inr (.inl (by simp only;decide)))]
  cases f
  ·refine gvB (F:=rn) ?_
   refine ax ?_;(conv=>whnf);refine Go.AM.finC ?_;rfl
  ·refine gvB (F:=rn) ?_
   refine ax ?_;(conv=>whnf);refine Go.AM.finC ?_;rfl
 ·rw[ea] at hp⊢
  cases f
  ·rw[Ad (.inl rfl)]
   refine gvB (F:=rn) ?_;refine ax ?_;(conv=>whnf);refine Go.AM.finC ?_;rfl
  ·cases hb:kR 32 r
   ·rw[hb] at hn
    rw[Ad (.inr (.inr rfl))];refine gvB (F:=rn) ?_;refine ax ?_;(conv=>whnf);refine Go.AM.finC ?_;rfl
   ·rw[hb] at hn
    obtain ⟨k,hk,_,hv⟩:=pC hb;rw[hv] at hn⊢;rw[Ac (by simp),psV,Int.toNat_natCast]
    have vv:=fM ⟨(x:Int),(k:Int)⟩ (ZL hx (by omega) hk)
    cases hvp:bz ⟨(x:Int),(k:Int)⟩
    ·rw[hvp] at vv
     rw[Ac (by simp)]
     refine gvB (F:=rn) ?_;refine ax ?_;(conv=>whnf);refine Go.AM.finC ?_;rfl
    ·rw[hvp] at vv
     rw[Ad rfl];refine gvB (F:=rn) ?_;refine ax ?_;(conv=>whnf);refine Go.AM.finC ?_;rfl
end Go.AM.IR.J
namespace Go.AM.IR.J
def prR5 (x:PRule×Int):Ret:=⟨.tup [.agg x.1.enc,.int .i64 x.2],[]⟩
theorem Ib (s:List UInt8)(w:List UInt8)(h:w∈Lib.split s [32]):w.length<=s.length:=by
 have:=re 32 _ w h;rwa [mw 32 s.length s (Be _)] at this
theorem My {s:List UInt8}{ws:List (List UInt8)}(h:wordsS s=some ws): ∀w∈ws,w.length<=s.length:=by
 intro w hw;unfold wordsS at h;split at h
 ·obtain rfl:=Ai h
  simp at hw
 ·split at h
  ·cases h
  ·split at h
   ·cases h
   ·obtain rfl:=Ai h
    exact Ib s w hw
theorem fNum_ok (most:Int)(s:List UInt8)(h0:0<=most):0<=(fNum most s).1/\(fNum most s).1<=most:=by
 unfold fNum;split
 ·split
  ·exact ⟨Int.le_refl _,h0⟩
  ·split
   ·exact ⟨Int.le_refl _,h0⟩
   ·rename_i h;exact ⟨by simp only;omega,by simp only;omega⟩
 ·exact ⟨Int.le_refl _,h0⟩
theorem XX (s:List UInt8):okI (lenS s).1/\okI (lenS s).2.1:=by
 unfold lenS;split
 ·have h1:=fNum_ok 32 (s.takeWhile (· !=45)) (by omega)
  have h2:=fNum_ok 32 ((s.dropWhile (· !=45)).drop 1) (by omega)
  unfold okI;simp only;omega
 ·unfold okI;simp only;omega
section
variable {kv:AV->Prop}
theorem YK {a:List UInt8}(h:kv (.bool false)): ∃v,bt .neq (.str a) (.str a)=some v/\kv v:=⟨.bool false,by show some (AV.bool (a !=a))=_;simp,h⟩
theorem YL {a b:List UInt8}(n:a≠b)(h:kv (.bool true)): ∃v,bt .neq (.str a) (.str b)=some v/\kv v:=⟨.bool true,by show some (AV.bool (a !=b))=_;simp[n],h⟩
end
theorem parse_gives334 (s:List UInt8)(hs:s.length<4294967281):ab G 334 [.str s] [] (prR5 (plP s)):=by
 have hw:=words_gives339 s hs;unfold wrR at hw;unfold plP;cases hq:wordsS s with
 |none=>
  rw[hq] at hw;simp only[Option.bind_none] at hw⊢;refine gvB (F:=jz) ?_;refine ax ?_;(conv=>whnf);refine Go.AM.finC ?_;rfl
 |some ws=>
  rw[hq] at hw;have hlen:=My hq;simp only[Option.bind_some] at hw⊢
  by_cases hn:s= []
  ·rw[Ad hn] at hw
   have:ws= []:=by rw[hn] at hq;simpa[wordsS] using hq.symm
   subst this;refine gvB (F:=jz) ?_;refine ax ?_;(conv=>whnf);refine Go.AM.finC ?_;rfl
  ·rw[Ac hn] at hw
   match ws,hlen,hw with
   | [],hlen,hw=>
    refine gvB (F:=jz) ?_;refine ax ?_;(conv=>whnf);refine Go.AM.finC ?_;rfl
   | [v],hlen,hw=>
    refine gvB (F:=jz) ?_;refine ax ?_;(conv=>whnf);refine Go.AM.finC ?_;rfl
   | [v,p],hlen,hw=>
    have hp:=parse_gives233 p (by have:=hlen p (by simp);omega)
    have hok:=psP_ok (s:=p);unfold plW;rcases hpp:psP p with ⟨q,e⟩
    rw[hpp] at hp hok;simp only[hpp] at hok⊢
    by_cases e0:e=0
    ·subst e0
     rw[Ad rfl];have ho:=hok rfl;obtain ⟨pv,hpv⟩: ∃b,b=(v==wPermit):=⟨_,rfl⟩
     have zv: ∀{kv:AV->Prop},kv (.bool pv)-> ∃x,bt .eql (.str v) (.str wPermit)=some x/\kv x:=λh=>⟨_,by show some (AV.bool (v==wPermit))=_;rw[<-hpv],h⟩
     rw[<-hpv];have ht:=text_gives332 ⟨pv,q,q.len,q.len⟩ ⟨ho,ho.len,ho.len⟩;unfold txR at ht;simp only
     by_cases hc:jB ⟨pv,q,q.len,q.len⟩=0
     ·rw[Ad hc] at ht
      by_cases hx:rtext ⟨pv,q,q.len,q.len⟩=s
      ·rw[Ad ⟨hc,hx⟩]
       rw[hx] at ht;refine gvC (F:=jz) ?_
       repeat' ((conv=>whnf);first|refine zv ?_|refine YK ?_|refine aq ?_|(refine ae ?_ ?_<;>intro h))
       refine ax ?_;(conv=>whnf);refine Go.AM.finC ?_;rfl
      ·rw[Ac (λh=>hx h.2)]
       generalize rtext ⟨pv,q,q.len,q.len⟩=t at*;refine gvC (F:=jz) ?_
       repeat' ((conv=>whnf);first|refine zv ?_|refine YL hx ?_|refine aq ?_|(refine ae ?_ ?_<;>intro h))
       refine ax ?_;(conv=>whnf);refine Go.AM.finC ?_;rfl
     ·rw[Ac hc] at ht
      rw[Ac (λh=>hc h.1)]
      generalize jB ⟨pv,q,q.len,q.len⟩=k at*;refine gvC (F:=jz) ?_
      repeat' ((conv=>whnf);first|refine zv ?_|refine aq ?_|(refine ae ?_ ?_<;>intro h))
      refine ax ?_;(conv=>whnf);refine Go.AM.finC ?_;rfl
    ·rw[Ac e0]
     refine gvB (F:=jz) ?_;refine ax ?_;(conv=>whnf);refine Go.AM.finC ?_;rfl
   | [v,p,l],hlen,hw=>
    have hp:=parse_gives233 p (by have:=hlen p (by simp);omega)
    have hl:=Dx l (by have:=hlen l (by simp);omega)
    have hok:=psP_ok (s:=p);have hlo:=XX l;unfold plW;unfold lnR at hl;rcases hpp:psP p with ⟨q,e⟩
    rcases hll:lenS l with ⟨a,b,o⟩
    rw[hpp] at hp hok;rw[hll] at hlo hl;simp only[hpp,hll] at hok hlo hl⊢
    by_cases e0:e=0
    ·subst e0
     rw[Ad rfl];have ho:=hok rfl;obtain ⟨pv,hpv⟩: ∃b,b=(v==wPermit):=⟨_,rfl⟩
     have zv: ∀{kv:AV->Prop},kv (.bool pv)-> ∃x,bt .eql (.str v) (.str wPermit)=some x/\kv x:=λh=>⟨_,by show some (AV.bool (v==wPermit))=_;rw[<-hpv],h⟩
     rw[<-hpv];cases o
     ·rw[Ac (by simp)]
      simp only;refine gvC (F:=jz) ?_
      repeat' ((conv=>whnf);first|refine zv ?_|refine aq ?_|(refine ae ?_ ?_<;>intro h))
      refine ax ?_;(conv=>whnf);refine Go.AM.finC ?_;rfl
     ·rw[Ad rfl]
      have ht:=text_gives332 ⟨pv,q,a,b⟩ ⟨ho,hlo.1,hlo.2⟩;unfold txR at ht;simp only
      by_cases hc:jB ⟨pv,q,a,b⟩=0
      ·rw[Ad hc] at ht
       by_cases hx:rtext ⟨pv,q,a,b⟩=s
       ·rw[Ad ⟨hc,hx⟩]
        rw[hx] at ht;refine gvC (F:=jz) ?_
        repeat' ((conv=>whnf);first|refine zv ?_|refine YK ?_|refine aq ?_|(refine ae ?_ ?_<;>intro h))
        refine ax ?_;(conv=>whnf);refine Go.AM.finC ?_;rfl
       ·rw[Ac (λh=>hx h.2)]
        generalize rtext ⟨pv,q,a,b⟩=t at*;refine gvC (F:=jz) ?_
        repeat' ((conv=>whnf);first|refine zv ?_|refine YL hx ?_|refine aq ?_|(refine ae ?_ ?_<;>intro h))
        refine ax ?_;(conv=>whnf);refine Go.AM.finC ?_;rfl
      ·rw[Ac hc] at ht
       rw[Ac (λh=>hc h.1)]
       generalize jB ⟨pv,q,a,b⟩=k at*;refine gvC (F:=jz) ?_
       repeat' ((conv=>whnf);first|refine zv ?_|refine aq ?_|(refine ae ?_ ?_<;>intro h))
       refine ax ?_;(conv=>whnf);refine Go.AM.finC ?_;rfl
    ·rw[Ac e0]
     refine gvB (F:=jz) ?_;refine ax ?_;(conv=>whnf);refine Go.AM.finC ?_;rfl
   |v::p::l::w::r,hlen,hw=>
    have hll:((v::p::l::w::r).map encS).length=r.length+4:=by simp
    have hpl:aa ((v::p::l::w::r).map encS)=true:=Cj _;generalize (v::p::l::w::r).map encS=es at*;have hpu:(AV.tup [AV.sl 1 es,AV.int .i64 0]).pure=true:=by simp[AV.pure,aH,hpl]
    simp only[plW];refine gvC (F:=jz) ?_
    repeat' ((conv=>whnf);first|refine wt hw ?_ (by rfl) hpu|refine aq ?_|(refine ae ?_ ?_<;>intro h))
    refine ax ?_;(conv=>whnf);refine Go.AM.finC ?_;rfl
end Go.AM.IR.J
namespace Go.AM.IR.J
end Go.AM.IR.J
namespace Go.AM.IR.J
section
variable {kv:AV->Prop}
end
end Go.AM.IR.J
namespace Go.AM.IR.J
end Go.AM.IR.J
