/- What functions of this program give. -/
import Derived.Test.YtomphmeopjpejaaGreatDoorDataB
set_option linter.unusedSectionVars false
set_option linter.unusedVariables false
set_option linter.unusedSimpArgs false
set_option maxHeartbeats 4000000
set_option maxRecDepth 20000
namespace Go.AM.IR
section
variable (x n:Nat)
def fX:Nat:=x/ 2^ (32-n)*2^ (32-n)
def nu (n:Nat):Nat:=4294967296-2^ (32-n)
theorem uk (x n j:Nat)(hn:n<=32):(fX x n).testBit j=(decide (32-n<=j)&&x.testBit j):=by
 grind [fX]
theorem Ya (n:Nat)(hn:n<=32):nu n=(2^n-1)*2^ (32-n):=by
 unfold nu;rw[Nat.sub_mul,<-Nat.pow_add,show n+(32-n)=32 by omega];omega
theorem Ut (n j:Nat)(hn:n<=32):(nu n).testBit j=(decide (32-n<=j)&&decide (j<32)):=by
 grind [Ya]
theorem aa5 (hx:x<4294967296)(hn:n<=32):x&&&nu n=fX x n:=by
 apply Nat.eq_of_testBit_eq;intro j;rw[Nat.testBit_and,uk x n j hn,Ut n j hn]
 by_cases hj:j<32
 ·grind
 ·have:x.testBit j=false:=Nat.testBit_lt_two_pow (BS hx (by rw[show 4294967296=2^32 from rfl];exact Nat.pow_le_pow_right (by omega) (by omega)))
  grind
theorem w8:fX x n<=x:=Nat.div_mul_le_self _ _
theorem Qn (hn:n<32):fX x n|||(x/ 2^ (31-n) % 2*2^ (31-n))=fX x (n+1):=by
 apply Nat.eq_of_testBit_eq;intro j;rw[Nat.testBit_or,uk x n j (by omega),uk x (n+1) j (by omega),Nat.testBit_mul_two_pow]
 have e1: ∀q:Nat,(x/ 2^ (31-n) % 2).testBit q=(decide (q<1)&&(x/ 2^ (31-n)).testBit q):=λq=>by
  have:=Nat.testBit_mod_two_pow (x/ 2^ (31-n)) 1 q
  grind
 grind
end
theorem Qm (x:Nat)(hx:x<4294967296):fX x 0=0:=by
 grind [fX]
def cn (n:Int):Nat:=if n<=0 then 0 else if n<=32 then n.toNat else 32
theorem uL (n:Int):cn n<=32:=by
 grind [cn]
section
variable {k:AV->Prop}
theorem oC (r:Nat)(hr:r<4294967296):IntKind.wrap .u32 (r:Int)=(r:Int):=by
 grind [IntKind.wrap,IntKind.signed,IntKind.bits]
section
variable (a b:Nat)(ha:a<4294967296)(hb:b<4294967296)
include ha hb
theorem vM:intBits .and .u32 (a:Int) (b:Int)=((a&&&b:Nat):Int):=by
 have hl:a&&&b<4294967296:=B4 Nat.and_le_left ha;show IntKind.wrap .u32 (((BitVec.ofInt 32 (a:Int)&&&BitVec.ofInt 32 (b:Int)).toNat:Nat):Int)=_
 grind [oC]
theorem IX:intBits .or .u32 (a:Int) (b:Int)=((a|||b:Nat):Int):=by
 have hl:a|||b<4294967296:=Nat.or_lt_two_pow (n:=32) ha hb;show IntKind.wrap .u32 (((BitVec.ofInt 32 (a:Int)|||BitVec.ofInt 32 (b:Int)).toNat:Nat):Int)=_
 grind [oC]
end
theorem adU {a b:Nat}(h:k (.int .u32 ((a&&&b:Nat):Int)))(ha:a<4294967296:=by omega)(hb:b<4294967296:=by omega): ∃v,bm .and (.int .u32 (a:Int)) (.int .u32 (b:Int))=some v/\k v:=⟨_,by show some (AV.int .u32 (intBits .and .u32 _ _))=_;grind [vM],h⟩
theorem agw {a b:Nat}(h:k (.int .u32 ((a|||b:Nat):Int)))(ha:a<4294967296)(hb:b<4294967296): ∃v,bm .or (.int .u32 (a:Int)) (.int .u32 (b:Int))=some v/\k v:=⟨_,by show some (AV.int .u32 (intBits .or .u32 _ _))=_;grind [IX],h⟩
theorem agC {n:Nat}{j:Int}(h:k (.int .u32 ((nu n:Nat):Int)))(hj:j=32- (n:Int))(hn:n<=32): ∃v,bm .shl (.int .u32 4294967295) (.int .i64 j)=some v/\k v:=by
 refine ⟨_,?_,h⟩;show (if j<0 then none else some (AV.int .u32 (IntKind.wrap .u32 (4294967295*2^ (min j.toNat 32)))))=_
 rw[Aa (by omega),show min j.toNat 32=32-n by omega]
 have h1:(2:Nat)^ (32-n)<=2^32:=Nat.pow_le_pow_right (by omega) (by omega)
 grind [nu,IntKind.wrap,IntKind.signed,IntKind.bits]
theorem adR {x:Nat}{j:Int}(h:k (.int .u32 ((x/ 2^j.toNat:Nat):Int)))(h0:0<=j)(h1:j<=32): ∃v,bm .shr (.int .u32 (x:Int)) (.int .u64 j)=some v/\k v:=by
 refine ⟨_,?_,h⟩;show (if j<0 then none else some (AV.int .u32 ((x:Int).fdiv (2^ (min j.toNat 32)))))=_
 grind
theorem agv {b m:Nat}{j:Int}(h:k (.int .u32 ((b*2^m:Nat):Int)))(hj:j=m)(hm:m<32)(hb:b<2): ∃v,bm .shl (.int .u32 (b:Int)) (.int .u64 j)=some v/\k v:=by
 refine ⟨_,?_,h⟩;show (if j<0 then none else some (AV.int .u32 (IntKind.wrap .u32 ((b:Int)*2^ (min j.toNat 32)))))=_
 rw[Aa (by omega),show min j.toNat 32=m by omega]
 have h1:(2:Nat)^m<=2^31:=Nat.pow_le_pow_right (by omega) (by omega)
 have e:((b:Int)*2^m:Int)=((b*2^m:Nat):Int):=by simp
 rw[e]
 have h3:b*2^m<4294967296:=by
  have:b*2^m<=1*2^m:=A4 _ (by omega)
  omega
 grind [IntKind.wrap,IntKind.signed,IntKind.bits]
theorem agE {x:Nat}(hx:x<4294967296)(h:k (.int .u32 ((x % 2:Nat):Int))): ∃v,bm .and (.int .u32 (x:Int)) (.int .u32 1)=some v/\k v:=
 ⟨_,by
  show some (AV.int .u32 (intBits .and .u32 (x:Int) ((1:Nat):Int)))=_
  rw[vM x 1 hx (by omega),Nat.and_one_is_mod],h⟩
end
section
variable (x:Nat)(n:Int)
theorem Cp:ag G 186 [.int .i64 n,.int .i64 32] [] ⟨.int .i64 (cn n:Nat),[]⟩:=by
 by_cases h0:n<=0
 ·rw[show cn n=0 from by simp[cn,h0]]
  by_cases h1:n=0
  ·subst h1
   exact gvA (F:=BP)
  ·have h2:n<0:=by omega
   refine gvB (F:=BP) ?_;refine ap ?_;first|rfl|(simp[h2])
 ·by_cases h1:n<=32
  ·rw[show ((cn n:Nat):Int)=n from by simp[cn,h0,h1];omega]
   exact gvA (F:=BP)
  ·rw[show cn n=32 from by simp[cn,h0,h1]]
   exact gvA (F:=BP)
theorem Je:ag G 184 [.int .i64 n,.int .i64 32] [] ⟨.int .i64 (cn n:Nat),[]⟩:=by
 by_cases h0:n<=0
 ·rw[show cn n=0 from by simp[cn,h0]]
  by_cases h1:n=0
  ·subst h1
   exact gvA (F:=BQ)
  ·have h2:n<0:=by omega
   refine gvB (F:=BQ) ?_;refine ap ?_;first|rfl|(simp[h2])
 ·by_cases h1:n<=32
  ·rw[show ((cn n:Nat):Int)=n from by simp[cn,h0,h1];omega]
   exact gvA (F:=BQ)
  ·rw[show cn n=32 from by simp[cn,h0,h1]]
   exact gvA (F:=BQ)
theorem Fc:ag G 183 [.int .i64 n] [] ⟨.int .u32 (nu (cn n):Nat),[]⟩:=by
 have hc:=Cp n;have hl:=uL n;generalize cn n=c at*;refine gvC (F:=aaE) ?_
 repeat' ((conv=>whnf);first|refine agC (n:=c) ?_ (by omega) (by omega)|refine aq ?_|apply ae<;>intro h)
 refine ap ?_;rfl
theorem Ff (hx:x<4294967296):ag G 181 [.int .u32 (x:Int),.int .i64 n] [] ⟨.int .u32 (fX x (cn n):Nat),[]⟩:=by
 have hm:=Fc n;have hl:=uL n;rw[<-aa5 x (cn n) hx hl];have hb:nu (cn n)<4294967296:=by unfold nu;have:=Nat.pow_pos (n:=32-cn n) (show 0<2 by omega);omega
 generalize nu (cn n)=mk at*;refine gvC (F:=aaG) ?_
 repeat' ((conv=>whnf);first|refine adU ?_ hx hb|refine aq ?_|apply ae<;>intro h)
 refine ap ?_;rfl
theorem Nk (x i:Nat)(hx:x<4294967296)(hi:i<32):ag G 185 [.int .u32 (x:Int),.int .i64 (i:Int)] [] ⟨.int .i64 (x/ 2^ (31-i) % 2:Nat),[]⟩:=by
 have he:(31- (i:Int)).toNat=31-i:=by omega
 have hd:x/ 2^ (31-i)<4294967296:=B4 (Nat.div_le_self _ _) hx;have hm:x/ 2^ (31-i) % 2<2:=Nat.mod_lt _ (by omega)
 rw[<-he] at hd hm⊢;refine gvC (F:=aaD) ?_
 repeat' ((conv=>whnf);first|refine adR ?_ (by omega) (by omega)|refine agE hd ?_|refine aq ?_|apply ae<;>intro h)
 refine ap ?_;rfl
theorem uj (x c:Nat)(hx:x<4294967296)(hc:c<=32): ∀(d i:Nat)(T:TV)(H:az)(ct:Nat)(hd:d+i=c),
  Ev G ⟨aaF,⟨(9,.int .i64 (i:Int))::(0,.int .u32 (x:Int))::(5,.int .u32 (fX x i:Nat))::(8,.int .i64 (c:Int))::T,H,ct⟩,[.t 4],0⟩ ⟨.int .u32 (fX x c:Nat),[]⟩
 |0,i,T,H,ct,hd=>by
  obtain rfl:i=c:=by omega
  refine evA ?_;refine ap ?_;rfl
 |d+1,i,T,H,ct,hd=>by
  have ha:=Nk x i hx (by omega)
  have hb:x/ 2^ (31-i) % 2<2:=Nat.mod_lt _ (by omega)
  have hk:=Qn x i (by omega)
  have hl:=w8 x i
  have hs:x/ 2^ (31-i) % 2*2^ (31-i)<4294967296:=by
   have h1:(2:Nat)^ (31-i)<=2^31:=Nat.pow_le_pow_right (by omega) (by omega)
   have h2:=A4 (2^ (31-i)) (show x/ 2^ (31-i) % 2<=1 by omega)
   omega
  generalize x/ 2^ (31-i) % 2=b at*;generalize hki:fX x i=ki at*;refine evl ?_
  repeat' ((conv=>whnf);first|refine agv (m:=31-i) ?_ (by omega) (by omega) hb|refine agw ?_ (by omega) hs|refine aq ?_|apply ae<;>intro h)
  rw[hk];refine au [9,0,5,8] [] ?_;exact uj x c hx hc d (i+1) _ _ _ (by omega)
theorem Fe (hx:x<4294967296):ag G 182 [.int .u32 (x:Int),.int .i64 n] [] ⟨.int .u32 (fX x (cn n):Nat),[]⟩:=by
 have hm:=Je n;have hl:=uL n;have h0:=Qm x hx;generalize cn n=c at*;refine gvB (F:=RQ) ?_;refine au [9,0,5,8] [] ?_;have:=uj x c hx hl c 0;rw[h0] at this;exact this _ _ _ rfl
end
def bu (p:Pfx):Bool:=decide (0<=p.len/\p.len<=32/\(fX p.addr.toNat p.len.toNat:Int)=p.addr)
theorem jS (p:Pfx)(h:p.ok):ag G 178 [.agg p.enc] [] ⟨.bool (bu p),[]⟩:=by
 obtain ⟨a,n⟩:=p;obtain ⟨x,rfl⟩: ∃x:Nat,a=x:=⟨a.toNat,by have:=h.addr;unfold okU at this;simp only at this;omega⟩
 have hx:x<4294967296:=by have:=h.addr;unfold okU at this;simp only at this;omega
 have hk:=Ff x n hx;have hkl:=w8 x (cn n)
 by_cases hn:0<=n/\n<=32
 ·obtain ⟨n0,n1⟩:=hn
  have hc:cn n=n.toNat:=by unfold cn;repeat' split<;>omega
  rw[hc] at hk hkl
  by_cases hq:fX x n.toNat=x
  ·rw[show bu ⟨x,n⟩=true from by simp[bu,n0,n1,hq]]
   rw[hq] at hk;refine gvB (F:=BT) ?_;refine ap ?_;simp
  ·rw[show bu ⟨x,n⟩=false from by simp only[bu,AL];intro hh;exact hq (by have:=hh.2.2;simp only[Int.toNat_natCast] at this;omega)]
   have hq2: ¬((fX x n.toNat:Nat):Int)=(x:Int):=by omega
   generalize fX x n.toNat=kq at*;refine gvB (F:=BT) ?_;refine ap ?_;simp[hq2]
 ·rw[show bu ⟨x,n⟩=false from by simp[bu];omega]
  by_cases n0:0<=n
  ·have n1: ¬n<=32:=by omega
   exact gvA (F:=BT)
  ·exact gvA (F:=BT)
theorem eC (p:Pfx)(h:p.ok):ag G 179 [.agg p.enc] [] ⟨.bool (bu p),[]⟩:=by
 obtain ⟨a,n⟩:=p;obtain ⟨x,rfl⟩: ∃x:Nat,a=x:=⟨a.toNat,by have:=h.addr;unfold okU at this;simp only at this;omega⟩
 have hx:x<4294967296:=by have:=h.addr;unfold okU at this;simp only at this;omega
 have hk:=Fe x n hx;have hkl:=w8 x (cn n)
 by_cases hn:0<=n/\n<=32
 ·obtain ⟨n0,n1⟩:=hn
  have hc:cn n=n.toNat:=by unfold cn;repeat' split<;>omega
  rw[hc] at hk hkl
  by_cases hq:fX x n.toNat=x
  ·rw[show bu ⟨x,n⟩=true from by simp[bu,n0,n1,hq]]
   rw[hq] at hk;refine gvB (F:=BR) ?_;refine ap ?_;simp
  ·rw[show bu ⟨x,n⟩=false from by simp only[bu,AL];intro hh;exact hq (by have:=hh.2.2;simp only[Int.toNat_natCast] at this;omega)]
   have hq2: ¬((fX x n.toNat:Nat):Int)=(x:Int):=by omega
   generalize fX x n.toNat=kq at*;refine gvB (F:=BR) ?_;refine ap ?_;simp[hq2]
 ·rw[show bu ⟨x,n⟩=false from by simp[bu];omega]
  by_cases n0:0<=n
  ·have n1: ¬n<=32:=by omega
   exact gvA (F:=BR)
  ·exact gvA (F:=BR)
end Go.AM.IR
namespace Go.AM.IR.J
theorem o9 {a:Int}(h:okU a):a=(a.toNat:Nat)/\a.toNat<4294967296:=by grind [okU]
theorem lz {p:Pfx}(h:bu p=true):0<=p.len/\p.len<=32:=by
 grind [bu]
theorem OT (p:Pfx):bu p=true↔0<=p.len/\p.len<=32/\(fX p.addr.toNat p.len.toNat:Int)=p.addr:=by grind [bu]
section
variable {k:Eff->Prop} {x y:Opd} {g key:Nat} {hg:Nat->Cl}
end
open Go Go.AM
def dig (b:UInt8):Bool:=decide (48<=b.toNat)&&decide (b.toNat<=57)
def dval (b:UInt8):Nat:=b.toNat-48
def chk (n:Nat):Bool:=(am n).all dig&&(decide (1<=(am n).length)&&(decide ((am n).length<=3)&&((am n).length==1||(am n).head? !=some 48)))&&(Lib.atoiAll (am n)== .ok n)&&((am n).foldl (λa b=>a*10+dval b) 0==n)
theorem chk_all:(List.range 256).all chk=true:=by decide+kernel
section
variable {n:Nat}(h:n<256)
include h
theorem uO:chk n=true:=List.all_eq_true.1 chk_all n (List.mem_range.2 h)
theorem xa: ∀b∈am n,dig b=true:=by
 have:=uO h;simp only[chk,At] at this;exact λb hb=>List.all_eq_true.1 this.1.1.1 b hb
theorem itoa_len:1<=(am n).length/\(am n).length<=3:=by
 have:=uO h;simp only[chk,At,AK] at this;exact ⟨this.1.1.2.1,this.1.1.2.2.1⟩
theorem Uy:(am n).length=1∨(am n).head?≠some 48:=by
 have:=uO h;simp only[chk,At,Bool.or_eq_true,beq_iff_eq,bne_iff_ne] at this;exact this.1.1.2.2.2
theorem VP:Lib.atoiAll (am n)= .ok (n:Int):=by
 have:=uO h;simp only[chk,At,beq_iff_eq] at this;exact this.1.2
theorem Yg:(am n).foldl (λa b=>a*10+dval b) 0=n:=by
 have:=uO h;simp only[chk,At,beq_iff_eq] at this;exact this.2
end
theorem dig_of {b:UInt8}(h:dig b=true): ∃d,d<10/\b=UInt8.ofNat (48+d)/\dval b=d:=by
 unfold dig at h;simp only[At,AK] at h
 refine ⟨dval b,by unfold dval;omega,?_,rfl⟩
 unfold dval;rw[show 48+(b.toNat-48)=b.toNat by omega];simp
theorem xD {f u:Nat}(h:u<10):bT (f+1) u= [UInt8.ofNat (48+u)]:=by simp[bT,h]
theorem uF {f u:Nat}(h: ¬u<10):bT (f+1) u=bT f (u/ 10)++[UInt8.ofNat (48+u % 10)]:=by simp[bT,h]
theorem uo (n:Nat):am (n:Int)=bT 19 n:=by unfold am;rw[Aa (by omega)];simp
theorem afb {a:UInt8}(ha:dig a=true):am (dval a:Nat)= [a]:=by
 obtain ⟨d,hd,rfl,e⟩:=dig_of ha;rw[e,uo,xD hd]
theorem afa {a b:UInt8}(ha:dig a=true)(hb:dig b=true)(h0:a≠48):am ((dval a*10+dval b:Nat):Int)= [a,b]:=by
 obtain ⟨d,hd,rfl,e⟩:=dig_of ha;obtain ⟨d2,hd2,rfl,e2⟩:=dig_of hb;have:d≠0:=by rintro rfl;exact h0 rfl
 rw[e,e2,uo,uF (by omega),show (d*10+d2)/ 10=d by omega,show (d*10+d2) % 10=d2 by omega,xD hd];rfl
theorem ae9 {a b c:UInt8}(ha:dig a=true)(hb:dig b=true)(hc:dig c=true)(h0:a≠48):am (((dval a*10+dval b)*10+dval c:Nat):Int)= [a,b,c]:=by
 obtain ⟨d,hd,rfl,e⟩:=dig_of ha;obtain ⟨d2,hd2,rfl,e2⟩:=dig_of hb;obtain ⟨d3,hd3,rfl,e3⟩:=dig_of hc;have:d≠0:=by rintro rfl;exact h0 rfl
 rw[e,e2,e3,uo,uF (by omega),show ((d*10+d2)*10+d3)/ 10=d*10+d2 by omega,show ((d*10+d2)*10+d3) % 10=d3 by omega,uF (by omega),show (d*10+d2)/ 10=d by omega,show (d*10+d2) % 10=d2 by omega,xD hd];rfl
theorem qp (c:UInt8): ∀(a r:B5),c∉a->Lib.index (a++c::r) [c]=a.length
 | [],r,_=>by simp[Lib.index]
 |x::a,r,h=>by
  have hx:x≠c:=λe=>h (by simp[e])
  have ih:=qp c a r (λq=>h (by simp[q]))
  rw[BD,Lib.index,ih];have h1:([c].isPrefixOf (x::(a++c::r)))=false:=by simp[List.isPrefixOf];exact λe=>hx e.symm
  rw[h1];have h2:(((a.length:Nat):Int)== -1)=false:=by rw[beq_eq_false_iff_ne];omega
  simp[h2]
theorem ow (c:UInt8): ∀(a:B5),c∉a->Lib.index a [c]= -1
 | [],_=>by simp[Lib.index]
 |x::a,h=>by
  have hx:x≠c:=λe=>h (by simp[e])
  have ih:=ow c a (λq=>h (by simp[q]))
  rw[Lib.index,ih];have h1:([c].isPrefixOf (x::a))=false:=by simp[List.isPrefixOf];exact λe=>hx e.symm
  rw[h1];rfl
theorem sep_cases (c:UInt8): ∀s:B5,c∉s∨ ∃a r,c∉a/\s=a++c::r
 | []=>.inl (by simp)
 |x::s=>by
  by_cases hx:x=c
  ·exact .inr ⟨[],s,by simp,by simp[hx]⟩
  ·rcases sep_cases c s with h|⟨a,r,h1,rfl⟩
   ·exact .inl (by simp;exact ⟨λe=>hx e.symm,h⟩)
   ·exact .inr ⟨x::a,r,by simp;exact ⟨λe=>hx e.symm,h1⟩,rfl⟩
section
variable (c:UInt8)(s:B5)
theorem Ck (a r:B5)(h:c∉a):Lib.cut (a++c::r) [c]=(a,r,true):=by
 unfold Lib.cut;rw[qp c a r h,Ac (by omega)]
 simp
theorem aaN (h:c∉s):Lib.cut s [c]=(s,[],false):=by
 unfold Lib.cut;rw[ow c s h,Aa (by omega)]
theorem split_none (h:c∉s):Lib.split s [c]= [s]:=by
 unfold Lib.split;rw[Lib.count_miss (ow c s h)];rfl
theorem split_hit (a r:B5)(h:c∉a):Lib.split (a++c::r) [c]=a::Lib.split r [c]:=by
 unfold Lib.split;have hi:=qp c a r h;rw[Lib.count_hit (by simp) hi,Nat.add_comm 1,Lib.splitK,hi]
 have h2:(((a.length:Nat):Int)== -1)=false:=by rw[beq_eq_false_iff_ne];omega
 simp[h2]
def yN (c:UInt8):CF->B5
 | []=>[]
 | [x]=>x
 |x::y::r=>x++c::yN c (y::r)
theorem split_ne:Lib.split s [c]≠ []:=by
 rcases sep_cases c s with h|⟨a,r,h,rfl⟩
 ·rw[split_none c s h];simp
 ·rw[split_hit c a r h];simp
end
theorem ov (c:UInt8): ∀(n:Nat)(s:B5),s.length<=n->yN c (Lib.split s [c])=s
 |n,s,hn=>by
  rcases sep_cases c s with h|⟨a,r,h,rfl⟩
  ·rw[split_none c s h];rfl
  ·rw[split_hit c a r h]
   cases n with
   |zero=>simp at hn
   |succ n=>
    have ih:=ov c n r (by simp at hn;omega)
    cases hs:Lib.split r [c] with
    |nil=>exact absurd hs (split_ne c r)
    |cons y t=>rw[hs] at ih;simp only[yN,ih]
theorem Ux (x y z w:B5):Lib.join [x,y,z,w] [46]=x++46::(y++46::(z++46::w)):=by
 simp[Lib.join,List.intercalate]
end Go.AM.IR.J
namespace Go.AM.IR.J
def FX:C3->B5->Bool
 |some ⟨.str s,[]⟩,l=>s==l
 |_,_=>false
theorem I8 {o:C3}{l:B5}(h:FX o l=true):o=some ⟨.str l,[]⟩:=by
 unfold FX at h
 grind
theorem acQ:(List.range 256).all (λn=>FX (run G 200 (RI.start [.int .i64 (n:Int)] [])) (am n))=true:=by kernel_rfl
theorem jH {n:Nat}(h:n<256):ag G 248 [.int .i64 (n:Int)] [] ⟨.str (am n),[]⟩:=
 i8 200 rfl rfl (I8 (List.all_eq_true.1 acQ n (List.mem_range.2 h)))
theorem itoa_gives246 {n:Int}(h0: -9223372036854775808<=n)(h1:n<=9223372036854775807):ag G 246 [.int .i64 n] [] ⟨.str (am n),[]⟩:=by
 show vu _ _=_
 exact Ac ⟨h0,h1⟩
def dots (x:Nat):B5:=am (x/ 16777216:Nat)++46::(am (x/ 65536 % 256:Nat)++46::(am (x/ 256 % 256:Nat)++46::am (x % 256:Nat)))
section
variable {k:AV->Prop} {q:IntKind}
theorem zShrC (m:Nat){x:Nat}{j:Int}(h:k (.int .u32 ((x/ m:Nat):Int)))(hm:m=2^j.toNat)(h0:0<=j)(h1:j<=32): ∃v,bm .shr (.int .u32 (x:Int)) (.int q j)=some v/\k v:=by
 subst hm;refine ⟨_,?_,h⟩;show (if j<0 then none else some (AV.int .u32 ((x:Int).fdiv (2^ (min j.toNat 32)))))=_
 grind
theorem rb {x:Nat}(h:k (.int .u32 ((x % 256:Nat):Int)))(hx:x<4294967296): ∃v,bm .and (.int .u32 (x:Int)) (.int .u32 255)=some v/\k v:=
 ⟨_,by
  show some (AV.int .u32 (intBits .and .u32 (x:Int) ((255:Nat):Int)))=_
  rw[vM x 255 hx (by omega),show (255:Nat)=2^8-1 from rfl,Nat.and_two_pow_sub_one_eq_mod],h⟩
theorem zCat {a b:B5}(h:k (.str (a++b)))(hl:a.length+b.length<2^62:=by first|omega|(simp;omega)): ∃v,bm .add (.str a) (.str b)=some v/\k v:=⟨_,Ac hl,h⟩
end
theorem Fh (a b c d:B5)(h:a.length<=3/\b.length<=3/\c.length<=3/\d.length<=3):ag G 247 [.sl 1 [[.str a],[.str b],[.str c],[.str d]],.str [46]] [] ⟨.str (a++46::(b++46::(c++46::d))),[]⟩:=by
 have hj:=Ux a b c d;show yA [.sl 1 [[.str a],[.str b],[.str c],[.str d]],.str [46]] []=_
 show (if [a,b,c,d].length<=140737488355328/\(Lib.join [a,b,c,d] [46]).length<=140737488355328 then some (⟨.str (Lib.join [a,b,c,d] [46]),[]⟩:Ret) else none)=_
 rw[hj,Ac];simp;omega
def fw:Nat->B5->Nat->Nat->Nat×Nat
 |0,_,n,c=>(n,c)
 |_+1,[],n,c=>(n,c)
 |f+1,b::r,n,c=>if dig b=true then fw f r (n*10+dval b) (c+1) else (n,c)
def pd (s:B5)(a n c most:Nat):Int×Int:=if c=0∨c=4∨n>most∨(1<c/\s[a]? =some 48) then (0,-1) else ((n:Int),((a+c:Nat):Int))
def prR (p:Int×Int):Ret:=⟨.tup [.int .i64 p.1,.int .i64 p.2],[]⟩
def oY (s:B5)(a most:Nat):Int×Int:=pd s a (fw 4 (s.drop a) 0 0).1 (fw 4 (s.drop a) 0 0).2 most
section
variable {k:Eff->Prop} {x y:Opd} {g key:Nat} {hg:Nat->Cl}
theorem zSub48 {kv:AV->Prop}{b:UInt8}(h:kv (.int .u8 (dval b:Nat)))(hb:48<=b.toNat): ∃v,bm .sub (.int .u8 (b.toNat:Int)) (.int .u8 48)=some v/\kv v:=by
 refine ⟨_,?_,h⟩;have hl:=b.toNat_lt;show some (AV.int .u8 (IntKind.wrap .u8 ((b.toNat:Int)-48)))=_
 grind [dval,rc]
end
theorem nb (s:B5)(a n c most:Nat)(N to:Int)(hN:N=n)(hto:to=a+c)(hs:s.length<2^40)(hc:c<=4)(hac:a+c<=s.length)(hn:n<100000)(hm:most<100000)(T:TV)(H:az)(ct:Nat):
  Ev G ⟨[.code (.seq (.seq (.region JO false) (.cond (.t 68) (.seq (.region JN false) .ret) .skip)) (.seq (.region JM false) .ret))],⟨(9,.int .i64 to)::(0,.str s)::(8,.int .i64 N)::(1,.int .i64 (a:Int))::(2,.int .i64 (most:Int))::T,H,ct⟩,[.t 6,.t 7],0⟩ (prR (pd s a n c most)):=by
 by_cases h0:c=0
 ·rw[show pd s a n c most=(0,-1) from Ac (.inl h0)]
  refine wk3 ?_
  repeat' (first|refine aW ?_|apply ae<;>intro h)
  refine ap ?_;rfl
 ·by_cases h4:c=4
  ·rw[show pd s a n c most=(0,-1) from Ac (.inr (.inl h4))]
   refine wk3 ?_
   repeat' (first|refine aW ?_|apply ae<;>intro h)
   refine ap ?_;rfl
  ·by_cases hb:n>most
   ·rw[show pd s a n c most=(0,-1) from Ac (.inr (.inr (.inl hb)))]
    refine wk3 ?_
    repeat' (first|refine aW ?_|apply ae<;>intro h)
    refine ap ?_;rfl
   ·by_cases h1:1<c
    ·obtain ⟨b,hsb⟩: ∃b,s[a]? =some b:=⟨s[a]'(by omega),AF (by omega)⟩
     by_cases hz:b=48
     ·subst hz
      rw[show pd s a n c most=(0,-1) from Ac (.inr (.inr (.inr ⟨h1,hsb⟩)))]
      refine wk3 ?_
      repeat' (first|refine bp ?_|apply ae<;>intro h)
      refine ap ?_;rfl
     ·have hz2: ¬(b.toNat:Int)=48:=by
       intro e;apply hz
       apply A5.1;show b.toNat=48
       omega
      rw[show pd s a n c most=((n:Int),((a+c:Nat):Int)) from Aa (by rintro (e|e|e|⟨_,e⟩);exact h0 e;exact h4 e;exact hb e;exact hz (Ad (hsb.symm.trans e)))]
      refine wk3 ?_
      repeat' (first|refine bp ?_|apply ae<;>intro h)
      refine ap ?_;rw[prR,hN,hto];rfl
    ·rw[show pd s a n c most=((n:Int),((a+c:Nat):Int)) from Aa (by rintro (e|e|e|⟨e,_⟩);exact h0 e;exact h4 e;exact hb e;exact h1 e)]
     refine wk3 ?_
     repeat' (first|refine aW ?_|apply ae<;>intro h)
     refine ap ?_;rw[prR,hN,hto];rfl
theorem tF (s:B5)(a most:Nat)(hs:s.length<2^40)(hm:most<100000): ∀(f u:Nat)(hfc:u+f=4)(n:Nat)(r:B5)(hr:s.drop (a+u)=r)(hac:a+u<=s.length)(hn:n<10^u)(N to:Int)(hN:N=n)(hto:to=a+u)(T:TV)(H:az)(c:Nat),
  Ev G ⟨aaA,⟨(9,.int .i64 to)::(0,.str s)::(8,.int .i64 N)::(1,.int .i64 (a:Int))::(2,.int .i64 (most:Int))::T,H,c⟩,[.t 6,.t 7],0⟩ (prR (pd s a (fw f r n u).1 (fw f r n u).2 most))
 |0,u,hfc,n,r,hr,hac,hn,N,to,hN,hto,T,H,c=>by
  obtain rfl:u=4:=by omega
  rw[show fw 0 r n 4=(n,4) from rfl]
  have hn':n<100000:=by omega
  cases r with
  |nil=>
   have hl:s.length=a+4:=by have:=List.drop_eq_nil_iff.1 hr;omega
   refine iM (eu 1 300 _ _ _ _ ?_)
   repeat' (first|refine aW ?_|apply ae<;>intro h)
   refine au [9,0,8,1,2] [] ?_;exact nb s a n 4 most N to hN hto hs (by omega) (by omega) hn' hm _ _ _
  |cons b r=>
   have hb:s[to.toNat]? =some b:=by
    have:s[a+4]? =some b:=by rw[<-Nat.add_zero (a+4),<-List.getElem?_drop,hr];rfl
    rw[show to.toNat=a+4 by omega];exact this
   have hl:a+4<s.length:=by
    rcases AO (a+4) s.length with h|h
    ·exact h
    ·rw[List.drop_eq_nil_iff.2 h] at hr;cases hr
   by_cases h1:48<=b.toNat
   ·by_cases h2:b.toNat<=57
    ·refine iM (eu 1 300 _ _ _ _ ?_)
     repeat' (first|refine bp ?_|apply ae<;>intro h)
     refine au [9,0,8,1,2] [] ?_;exact nb s a n 4 most N to hN hto hs (by omega) (by omega) hn' hm _ _ _
    ·refine iM (eu 1 300 _ _ _ _ ?_)
     repeat' (first|refine bp ?_|apply ae<;>intro h)
     refine au [9,0,8,1,2] [] ?_;exact nb s a n 4 most N to hN hto hs (by omega) (by omega) hn' hm _ _ _
   ·refine iM (eu 1 300 _ _ _ _ ?_)
    repeat' (first|refine bp ?_|apply ae<;>intro h)
    refine au [9,0,8,1,2] [] ?_;exact nb s a n 4 most N to hN hto hs (by omega) (by omega) hn' hm _ _ _
 |f+1,u,hfc,n,r,hr,hac,hn,N,to,hN,hto,T,H,c=>by
  have hn':n<100000:=BS hn (AJ (Nat.pow_le_pow_right (by omega) (show u<=4 by omega)) (by omega))
  cases r with
  |nil=>
   have hl:s.length=a+u:=by have:=List.drop_eq_nil_iff.1 hr;omega
   rw[show fw (f+1) [] n u=(n,u) from rfl]
   refine iM (eu 1 300 _ _ _ _ ?_)
   repeat' (first|refine aW ?_|apply ae<;>intro h)
   refine au [9,0,8,1,2] [] ?_;exact nb s a n u most N to hN hto hs (by omega) (by omega) hn' hm _ _ _
  |cons b r=>
   have hb:s[to.toNat]? =some b:=by
    have:s[a+u]? =some b:=by rw[<-Nat.add_zero (a+u),<-List.getElem?_drop,hr];rfl
    rw[show to.toNat=a+u by omega];exact this
   have hl:a+u<s.length:=by
    rcases AO (a+u) s.length with h|h
    ·exact h
    ·rw[List.drop_eq_nil_iff.2 h] at hr;cases hr
   by_cases h1:48<=b.toNat
   ·by_cases h2:b.toNat<=57
    ·have hd:dig b=true:=by unfold dig;simp[h1,h2]
     have hv:dval b<10:=by unfold dval;omega
     rw[show fw (f+1) (b::r) n u=fw f r (n*10+dval b) (u+1) from by rw[fw,Ac hd]]
     refine evl ?_
     repeat' ((conv=>whnf);first|refine zIstr ?_ hb (by omega)|refine zSub48 ?_ h1|refine aq ?_|apply ae<;>intro h)
     refine au [9,0,8,1,2] [] ?_;refine tF s a most hs hm f (u+1) (by omega) (n*10+dval b) r ?_ (by omega) (by rw[Nat.pow_succ];omega) (N*10+(dval b:Nat)) (to+1) (by omega) (by omega) _ _ _
     rw[<-Nat.add_assoc,<-List.drop_drop,hr];rfl
    ·have hd: ¬dig b=true:=by unfold dig;simp[h2]
     rw[show fw (f+1) (b::r) n u=(n,u) from by rw[fw,Aa hd]]
     refine iM (eu 1 300 _ _ _ _ ?_)
     repeat' (first|refine bp ?_|apply ae<;>intro h)
     refine au [9,0,8,1,2] [] ?_;exact nb s a n u most N to hN hto hs (by omega) (by omega) hn' hm _ _ _
   ·have hd: ¬dig b=true:=by unfold dig;simp[h1]
    rw[show fw (f+1) (b::r) n u=(n,u) from by rw[fw,Aa hd]]
    refine iM (eu 1 300 _ _ _ _ ?_)
    repeat' (first|refine bp ?_|apply ae<;>intro h)
    refine au [9,0,8,1,2] [] ?_;exact nb s a n u most N to hN hto hs (by omega) (by omega) hn' hm _ _ _
theorem lQ (s:B5)(a most:Nat)(at_:Int)(ha:at_=a)(hs:s.length<2^40)(hm:most<100000)(hal:a<=s.length):ag G 253 [.str s,.int .i64 at_,.int .i64 (most:Int)] [] (prR (oY s a most)):=by
 subst ha;refine gvB (F:=aaB) ?_;refine au [9,0,8,1,2] [] ?_;exact tF s a most hs hm 4 0 rfl 0 (s.drop a) rfl hal (by simp) 0 (a:Int) rfl (by omega) _ _ _
def val (n:Nat)(ds:B5):Nat:=ds.foldl (λa b=>a*10+dval b) n
theorem GM (rest:B5)(hr:rest= []∨ ∃b r,rest=b::r/\dig b=false): ∀(ds:B5)(f n c:Nat),(∀b∈ds,dig b=true)->ds.length<f->fw f (ds++rest) n c=(val n ds,c+ds.length)
 | [],0,n,c,_,h=>by simp at h
 | [],f+1,n,c,_,_=>by
  rcases hr with rfl|⟨b,r,rfl,hb⟩
  ·rfl
  ·show fw (f+1) (b::r) n c=_
   rw[fw,Aa (by grind)];rfl
 |d::ds,0,n,c,_,h=>by simp at h
 |d::ds,f+1,n,c,hd,h=>by
  show fw (f+1) (d::(ds++rest)) n c=_
  rw[fw,Ac (hd d (by simp)),GM rest hr ds f _ _ (λb hb=>hd b (by simp[hb])) (by grind)]
  grind [val]
theorem CN: ∀(f:Nat)(r:B5)(n c:Nat),∃ds rest,r=ds++rest/\(∀b∈ds,dig b=true)/\fw f r n c=(val n ds,c+ds.length)/\ds.length<=f
 |0,r,n,c=>⟨[],r,rfl,by simp,rfl,by simp⟩
 |f+1,[],n,c=>⟨[],[],rfl,by simp,rfl,by simp⟩
 |f+1,b::r,n,c=>by
  by_cases hb:dig b=true
  ·obtain ⟨ds,rest,e,hd,hs,hl⟩:=CN f r (n*10+dval b) (c+1)
   grind [fw,val]
  ·exact ⟨[],b::r,rfl,by simp,by rw[fw,Aa hb];rfl,by simp⟩
def JX (r:B5):Prop:=r= []∨ ∃b t,r=b::t/\dig b=false
theorem lu (s:B5)(a:Nat):s[a]? =(s.drop a).head?:=by rw[List.head?_drop]
theorem Au {s rest:B5}{a most k:Nat}(hk:k<256)(hm:k<=most)(h:s.drop a=am k++rest)(hr:JX rest):oY s a most=((k:Int),((a+(am k).length:Nat):Int)):=by
 have hl:=itoa_len hk;unfold oY;rw[h,GM rest hr (am k) 4 0 0 (xa hk) (by omega)]
 have hv:val 0 (am k)=k:=Yg hk;rw[hv];unfold pd;rw[Aa,A3]
 rintro (e|e|e|⟨e1,e2⟩)
 ·omega
 ·omega
 ·omega
 ·rcases Uy hk with q|q
  all_goals simp_all[lu]
section
variable {s:B5}
theorem mF {a most:Nat}:oY s a most=(0,-1)∨ ∃k:Nat,k<=most/\oY s a most=((k:Int),((a+(am k).length:Nat):Int))/\s.drop a=am k++s.drop (a+(am k).length)/\1<=(am k).length/\a+(am k).length<=s.length:=by
 obtain ⟨ds,rest,e,hd,hs,hl⟩:=CN 4 (s.drop a) 0 0;unfold oY;rw[hs];unfold pd;rw[A3]
 by_cases hc:ds.length=0∨ds.length=4∨val 0 ds>most∨(1<ds.length/\s[a]? =some 48)
 ·grind
 ·right
  rw[Aa hc];simp only[not_or,not_and] at hc;obtain ⟨h0,h4,hm,hz⟩:=hc
  have hi:am (val 0 ds:Nat)=ds:=by
   rw[lu,e] at hz
   match ds,hd,h0,h4,hl,hz with
   | [x],hd,_,_,_,_=>grind [val,afb]
   | [x,y],hd,_,_,_,hz=>
    have:=afa (hd x (by simp)) (hd y (by simp)) (by grind)
    grind [val]
   | [x,y,z],hd,_,_,_,hz=>
    have:=ae9 (hd x (by simp)) (hd y (by simp)) (hd z (by simp)) (by grind)
    grind [val]
   | [],_,h0,_,_,_=>grind
   | [x,y,z,w],_,_,h4,_,_=>grind
   |x::y::z::w::v::r,_,_,_,hl,_=>simp at hl
  have hdr:s.drop (a+ds.length)=rest:=by rw[<-List.drop_drop,e];simp
  have hlen:a+ds.length<=s.length:=by
   have:=congrArg List.length e
   grind
  grind
def cg (s:B5):Nat->Nat->Nat->Nat->Int×Int
 |0,_,x,a=>((x:Int),(a:Int))
 |f+1,i,x,a=>
  if 0<i/\ ¬s[a]? =some 46 then (0,-1)
  else if (oY s (if 0<i then a+1 else a) 255).2<0 then (0,-1)
  else cg s f (i+1) (x*256+(oY s (if 0<i then a+1 else a) 255).1.toNat) (oY s (if 0<i then a+1 else a) 255).2.toNat
theorem VZ {f x a k:Nat}{rest:B5}(hk:k<256)(h:s.drop a=am k++rest)(hr:JX rest):cg s (f+1) 0 x a=cg s f 1 (x*256+k) (a+(am k).length):=by
 grind [Au,cg]
theorem xN {f i x a k:Nat}{rest:B5}(hi:0<i)(hk:k<256)(h:s.drop a=46::(am k++rest))(hr:JX rest):cg s (f+1) i x a=cg s f (i+1) (x*256+k) (a+1+(am k).length):=by
 have hd:s.drop (a+1)=am k++rest:=by rw[<-List.drop_drop,h];rfl
 grind [Au,cg,lu]
theorem RT (r:B5):JX (46::r):=.inr ⟨46,r,rfl,rfl⟩
theorem DK {s t r:B5}{a:Nat}(h:s.drop a=46::(t++r)):s.drop (a+1+t.length)=r:=by
 rw[<-List.drop_drop,<-List.drop_drop,h];simp
theorem RU {s t r:B5}{a:Nat}(h:s.drop a=t++r):s.drop (a+t.length)=r:=by
 rw[<-List.drop_drop,h];simp
theorem OE {s rest:B5}{x:Nat}(hx:x<4294967296)(h:s=dots x++rest)(hr:JX rest):cg s 4 0 0 0=((x:Int),((dots x).length:Int)):=by
 unfold dots at h;simp only[List.append_assoc,BD] at h;have h0:s.drop 0=am (x/ 16777216:Nat)++(46::(am (x/ 65536 % 256:Nat)++(46::(am (x/ 256 % 256:Nat)++(46::(am (x % 256:Nat)++rest)))))):=by grind
 have d1:=RU h0;have d2:=DK d1;have d3:=DK d2;rw[VZ (by omega) h0 (RT _),xN (by omega) (by omega) d1 (RT _),xN (by omega) (by omega) d2 (RT _),xN (by omega) (by omega) d3 hr]
 unfold cg dots;refine Prod.ext ?_ ?_
 ·omega
 ·simp;omega
theorem V8 {f x a:Nat}(h:cg s (f+1) 0 x a≠(0,-1)): ∃k:Nat,k<256/\s.drop a=am k++s.drop (a+(am k).length)/\a+(am k).length<=s.length/\cg s (f+1) 0 x a=cg s f 1 (x*256+k) (a+(am k).length):=by
 rw[cg,Aa (by simp)] at h⊢
 simp only[Nat.lt_irrefl,if_false] at h⊢;rcases mF (s:=s) (a:=a) (most:=255) with e|⟨k,hk,e,hd,h1,hl⟩
 ·rw[e] at h;grind
 ·refine ⟨k,by omega,hd,hl,?_⟩
  grind
theorem xO {f i x a:Nat}(hi:0<i)(h:cg s (f+1) i x a≠(0,-1)): ∃k:Nat,k<256/\s.drop a=46::(am k++s.drop (a+1+(am k).length))/\a+1+(am k).length<=s.length/\cg s (f+1) i x a=cg s f (i+1) (x*256+k) (a+1+(am k).length):=by
 rw[cg] at h⊢
 by_cases hz:s[a]? =some 46
 ·rw[Aa (by simp[hz])] at h⊢
  simp only[hi,if_true] at h⊢;rcases mF (s:=s) (a:=a+1) (most:=255) with e|⟨k,hk,e,hd,h1,hl⟩
  ·rw[e] at h;grind
  ·refine ⟨k,by omega,?_,hl,?_⟩
   ·rw[<-hd]
    rw[lu] at hz;cases hs:s.drop a with
    |nil=>grind
    |cons b t=>
     rw[hs] at hz;obtain rfl:b=46:=by grind
     rw[<-List.drop_drop,hs];rfl
   grind
 grind
end
theorem CG (s:B5):cg s 4 0 0 0=(0,-1)∨ ∃x:Nat,x<4294967296/\s=dots x++s.drop (dots x).length/\(dots x).length<=s.length/\cg s 4 0 0 0=((x:Int),((dots x).length:Int)):=by
 by_cases h:cg s 4 0 0 0=(0,-1)
 ·grind
 ·right
  obtain ⟨k0,b0,d0,l0,e0⟩:=V8 h;rw[e0] at h⊢;obtain ⟨k1,b1,d1,l1,e1⟩:=xO (by omega) h
  rw[e1] at h⊢;obtain ⟨k2,b2,d2,l2,e2⟩:=xO (by omega) h
  rw[e2] at h⊢;obtain ⟨k3,b3,d3,l3,e3⟩:=xO (by omega) h
  rw[e3];clear e0 e1 e2 e3 h;have hx:(((0*256+k0)*256+k1)*256+k2)*256+k3<4294967296:=by omega
  have hd:dots ((((0*256+k0)*256+k1)*256+k2)*256+k3)=am k0++46::(am k1++46::(am k2++46::am k3)):=by
   unfold dots
   rw[show ((((0*256+k0)*256+k1)*256+k2)*256+k3)/ 16777216=k0 by omega,show ((((0*256+k0)*256+k1)*256+k2)*256+k3)/ 65536 % 256=k1 by omega,
    show ((((0*256+k0)*256+k1)*256+k2)*256+k3)/ 256 % 256=k2 by omega,show ((((0*256+k0)*256+k1)*256+k2)*256+k3) % 256=k3 by omega]
  have hl:(am k0++46::(am k1++46::(am k2++46::am k3))).length=0+(am k0).length+1+(am k1).length+1+(am k2).length+1+(am k3).length:=by simp;omega
  refine ⟨_,hx,?_,?_,?_⟩
  ·grind
  ·grind
  ·rw[hd,hl];rfl
theorem adQ {k:Eff->Prop}{x:Opd}{g key kk gk n:Nat}{cs:B7}{hg:Nat->Cl}(h:k {res:=.vs key g n,wr:=[(key,some (g,.vec 1 (cs.map λc=>[c]))),(kk,some (g,.vec 1 []))],rd:=[kk]})(hk:hg kk=some (gk,.cells cs):=by rfl)(hn:cs.length=n:=by rfl)(hne:kk≠key:=by decide): ∃e,aX (.slarr n 1 x none none none) g key [.ref kk gk 0] hg=some e/\k e:=by
 grind [aX,tz]
theorem FJ (x:Nat)(hx:x<4294967296):ag G 228 [.int .u32 (x:Int)] [] ⟨.str (dots x),[]⟩:=by
 have n3:=jH (n:=x/ 16777216) (by omega)
 have n2:=jH (n:=x/ 65536 % 256) (by omega)
 have n1:=jH (n:=x/ 256 % 256) (by omega)
 have n0:=jH (n:=x % 256) (by omega)
 have l3:=itoa_len (n:=x/ 16777216) (by omega)
 have l2:=itoa_len (n:=x/ 65536 % 256) (by omega)
 have l1:=itoa_len (n:=x/ 256 % 256) (by omega)
 have l0:=itoa_len (n:=x % 256) (by omega)
 unfold dots;generalize am (x/ 16777216:Nat)=t3 at*;generalize am (x/ 65536 % 256:Nat)=t2 at*;generalize am (x/ 256 % 256:Nat)=t1 at*;generalize am (x % 256:Nat)=t0 at*;refine gvC (F:=aaC) ?_
 repeat' ((conv=>whnf);first|refine zCat ?_|refine zShrC 16777216 ?_ (by rfl) (by omega) (by omega)|refine zShrC 65536 ?_ (by rfl) (by omega) (by omega)|refine zShrC 256 ?_ (by rfl) (by omega) (by omega)|refine rb ?_ (by omega)|refine aq ?_|apply ae<;>intro h)
 refine ap ?_;simp
section
variable (x:Nat)(t3 t2 t1 t0 R:B5)(hx:x<4294967296)(n3:ag G 246 [.int .i64 (x/ 16777216 % 256:Nat)] [] ⟨.str t3,[]⟩)(n2:ag G 246 [.int .i64 (x/ 65536 % 256:Nat)] [] ⟨.str t2,[]⟩)(n1:ag G 246 [.int .i64 (x/ 256 % 256:Nat)] [] ⟨.str t1,[]⟩)(n0:ag G 246 [.int .i64 (x/ 1 % 256:Nat)] [] ⟨.str t0,[]⟩)(ej:ag G 247 [.sl 1 [[.str t3],[.str t2],[.str t1],[.str t0]],.str [46]] [] ⟨.str R,[]⟩)(T:TV)(H:az)(c g:Nat)
include hx n3 n2 n1 n0 ej
theorem Sm:
  Ev G ⟨py,⟨(5,.int .i64 4)::(3,.ref 67 g 0)::(0,.int .u32 (x:Int))::T,(67,some (g,.cells [.str t3,.str t2,.str t1,.str t0]))::H,c⟩,[.t 2],0⟩ ⟨.str R,[]⟩:=by
 refine evl ?_
 repeat' ((conv=>whnf);first|refine adQ ?_|refine aq ?_|refine kZ [(83,_,_)] ⟨rfl,pz trivial⟩ (ej) ?_|apply ae<;>intro h)
 refine ap ?_;rfl
theorem Sn:
  Ev G ⟨py,⟨(5,.int .i64 3)::(3,.ref 67 g 0)::(0,.int .u32 (x:Int))::T,(67,some (g,.cells [.str t3,.str t2,.str t1,.str []]))::H,c⟩,[.t 2],0⟩ ⟨.str R,[]⟩:=by
 refine evl ?_
 repeat' ((conv=>whnf);first|refine zShrC 1 ?_ (by rfl) (by omega) (by omega)|refine rb ?_ (by omega)|refine aq ?_|apply ae<;>intro h)
 refine au [5,3,0] [67] ?_;exact Sm x t3 t2 t1 t0 R hx n3 n2 n1 n0 ej _ _ _ _
theorem Ss:
  Ev G ⟨py,⟨(5,.int .i64 2)::(3,.ref 67 g 0)::(0,.int .u32 (x:Int))::T,(67,some (g,.cells [.str t3,.str t2,.str [],.str []]))::H,c⟩,[.t 2],0⟩ ⟨.str R,[]⟩:=by
 refine evl ?_
 repeat' ((conv=>whnf);first|refine zShrC 256 ?_ (by rfl) (by omega) (by omega)|refine rb ?_ (by omega)|refine aq ?_|apply ae<;>intro h)
 refine au [5,3,0] [67] ?_;exact Sn x t3 t2 t1 t0 R hx n3 n2 n1 n0 ej _ _ _ _
theorem Su:
  Ev G ⟨py,⟨(5,.int .i64 1)::(3,.ref 67 g 0)::(0,.int .u32 (x:Int))::T,(67,some (g,.cells [.str t3,.str [],.str [],.str []]))::H,c⟩,[.t 2],0⟩ ⟨.str R,[]⟩:=by
 refine evl ?_
 repeat' ((conv=>whnf);first|refine zShrC 65536 ?_ (by rfl) (by omega) (by omega)|refine rb ?_ (by omega)|refine aq ?_|apply ae<;>intro h)
 refine au [5,3,0] [67] ?_;exact Ss x t3 t2 t1 t0 R hx n3 n2 n1 n0 ej _ _ _ _
theorem Sv:
  Ev G ⟨py,⟨(5,.int .i64 0)::(3,.ref 67 g 0)::(0,.int .u32 (x:Int))::T,(67,some (g,.cells [.str [],.str [],.str [],.str []]))::H,c⟩,[.t 2],0⟩ ⟨.str R,[]⟩:=by
 refine evl ?_
 repeat' ((conv=>whnf);first|refine zShrC 16777216 ?_ (by rfl) (by omega) (by omega)|refine rb ?_ (by omega)|refine aq ?_|apply ae<;>intro h)
 refine au [5,3,0] [67] ?_;exact Su x t3 t2 t1 t0 R hx n3 n2 n1 n0 ej _ _ _ _
end
theorem FK (x:Nat)(hx:x<4294967296):ag G 227 [.int .u32 (x:Int)] [] ⟨.str (dots x),[]⟩:=by
 have n3:=itoa_gives246 (n:=(x/ 16777216:Nat)) (by omega) (by omega)
 have n2:=itoa_gives246 (n:=(x/ 65536 % 256:Nat)) (by omega) (by omega)
 have n1:=itoa_gives246 (n:=(x/ 256 % 256:Nat)) (by omega) (by omega)
 have n0:=itoa_gives246 (n:=(x % 256:Nat)) (by omega) (by omega)
 have l3:=itoa_len (n:=x/ 16777216) (by omega)
 have l2:=itoa_len (n:=x/ 65536 % 256) (by omega)
 have l1:=itoa_len (n:=x/ 256 % 256) (by omega)
 have l0:=itoa_len (n:=x % 256) (by omega)
 have ej:=Fh _ _ _ _ ⟨l3.2,l2.2,l1.2,l0.2⟩;have n3:ag G 246 [.int .i64 (x/ 16777216 % 256:Nat)] [] ⟨.str (am (x/ 16777216:Nat)),[]⟩:=by rw[show x/ 16777216 % 256=x/ 16777216 by omega];exact n3
 have n0:ag G 246 [.int .i64 (x/ 1 % 256:Nat)] [] ⟨.str (am (x % 256:Nat)),[]⟩:=by rw[Nat.div_one];exact n0
 refine gvB (F:=RN) ?_;refine au [5,3,0] [67] ?_;exact Sv x _ _ _ _ _ hx n3 n2 n1 n0 ej _ _ _ _
section
variable {kv:AV->Prop} {a b:Int}
theorem SR (h:kv (.int .u32 (a*b)))(h1:0<=a*b:=by omega)(h2:a*b<=4294967295:=by omega): ∃v,bm .mul (.int .u32 a) (.int .u32 b)=some v/\kv v:=
 ⟨_,by show some (AV.int .u32 (IntKind.wrap .u32 (a*b)))=_;grind [wC],h⟩
theorem SS (h:kv (.int .u32 (a+b)))(h1:0<=a+b:=by omega)(h2:a+b<=4294967295:=by omega): ∃v,bm .add (.int .u32 a) (.int .u32 b)=some v/\kv v:=
 ⟨_,by show some (AV.int .u32 (IntKind.wrap .u32 (a+b)))=_;grind [wC],h⟩
end
def adrR (p:Int×Int):Ret:=⟨.tup [.int .u32 p.1,.int .i64 p.2],[]⟩
theorem p7 (s:B5)(hs:s.length<2^40): ∀(f i:Nat)(hfi:i+f=4)(x a:Nat)(hx:x<256^i)(ha:a<=s.length)(I X A:Int)(hI:I=i)(hX:X=x)(hA:A=a)(T:TV)(H:az)(c:Nat),
  Ev G ⟨Vc,⟨(9,.int .i64 I)::(4,.int .u32 X)::(0,.str s)::(5,.int .i64 A)::T,H,c⟩,[.t 2,.t 3],0⟩ (adrR (cg s f i x a))
 |0,i,hfi,x,a,hx,ha,I,X,A,hI,hX,hA,T,H,c=>by
  refine evA ?_;refine ap ?_;rw[hX,hA];rfl
 |f+1,i,hfi,x,a,hx,ha,I,X,A,hI,hX,hA,T,H,c=>by
  have hx4:x<16777216:=BS hx (AJ (Nat.pow_le_pow_right (by omega) (show i<=3 by omega)) (by omega))
  by_cases hi:0<i
  ·by_cases hal:a<s.length
   ·obtain ⟨b,hsb⟩: ∃b,s[a]? =some b:=⟨s[a],AF hal⟩
    have hb:s[A.toNat]? =some b:=by rw[show A.toNat=a by omega];exact hsb
    by_cases hz:b=46
    ·subst hz
     have hn:=lQ s (a+1) 255 (A+1) (by omega) hs (by omega) (by omega)
     rcases mF (s:=s) (a:=a+1) (most:=255) with e|⟨k,hk,e,hd,h1,hl⟩
     ·rw[show cg s (f+1) i x a=(0,-1) from by rw[cg,Aa (by simp[hsb])];simp only[hi,if_true,e];rw[Ac (by decide)]]
      rw[e] at hn;refine evl ?_
      repeat' (first|refine bp ?_|apply ae<;>intro h)
      refine ap ?_;rfl
     ·rw[show cg s (f+1) i x a=cg s f (i+1) (x*256+k) (a+1+(am k).length) from by rw[cg,Aa (by simp[hsb])];simp only[hi,if_true,e];rw[Aa (by first|omega|(simp only;omega))];rfl]
      rw[e] at hn;refine evl ?_
      repeat' ((conv=>whnf);first|refine zIstr (b:=46) ?_ hb (by omega)|refine SR ?_|refine SS ?_|refine aq ?_|apply ae<;>intro h)
      refine au [9,4,0,5] [] ?_;exact p7 s hs f (i+1) (by omega) (x*256+k) (a+1+(am k).length) (by rw[Nat.pow_succ];omega) hl (I+1) (X*256+(k:Nat)) ((a+1+(am k).length:Nat):Int) (by omega) (by omega) rfl _ _ _
    ·have hz2: ¬(b.toNat:Int)=46:=by
      intro e;apply hz;apply A5.1
      show b.toNat=46
      omega
     rw[show cg s (f+1) i x a=(0,-1) from by rw[cg,Ac ⟨hi,by rw[hsb];simpa using hz⟩]]
     refine evl ?_
     repeat' (first|refine bp ?_|apply ae<;>intro h)
     refine ap ?_;rfl
   ·have hsn:s[a]? =none:=AA (by omega)
    rw[show cg s (f+1) i x a=(0,-1) from by rw[cg,Ac ⟨hi,by rw[hsn];simp⟩]]
    refine evA ?_;refine ap ?_;rfl
  ·have hn:=lQ s a 255 A hA hs (by omega) ha
   rcases mF (s:=s) (a:=a) (most:=255) with e|⟨k,hk,e,hd,h1,hl⟩
   ·rw[show cg s (f+1) i x a=(0,-1) from by rw[cg,Aa (by simp[hi])];simp only[hi,if_false,e];rw[Ac (by decide)]]
    rw[e] at hn;refine evA ?_;refine ap ?_;rfl
   ·rw[show cg s (f+1) i x a=cg s f (i+1) (x*256+k) (a+(am k).length) from by rw[cg,Aa (by simp[hi])];simp only[hi,if_false,e];rw[Aa (by first|omega|(simp only;omega))];rfl]
    rw[e] at hn;refine evl ?_
    repeat' ((conv=>whnf);first|refine SR ?_|refine SS ?_|refine aq ?_|apply ae<;>intro h)
    refine au [9,4,0,5] [] ?_;exact p7 s hs f (i+1) (by omega) (x*256+k) (a+(am k).length) (by rw[Nat.pow_succ];omega) hl (I+1) (X*256+(k:Nat)) ((a+(am k).length:Nat):Int) (by omega) (by omega) rfl _ _ _
section
variable (most:Int)(s:B5)
theorem p6 (hs:s.length<2^40):ag G 251 [.str s] [] (adrR (cg s 4 0 0 0)):=by
 refine gvB (F:=RH) ?_;refine au [9,4,0,5] [] ?_;exact p7 s hs 4 0 rfl 0 0 (by simp) (by omega) 0 0 0 rfl rfl rfl _ _ _
def okA (p:Int×Int):Ret:=⟨.tup [.int .u32 p.1,.int .i64 p.2],[]⟩
def ud:Int:=match Lib.atoiAll s with
 | .ok v=>v
 | .range=>Lib.atoiSat s
 |_=>0
def mQ:Bool:=match Lib.atoiAll s with
 | .ok v=>decide (0<=v)&&(decide (v<=most)&&(am v==s))
 |_=>false
theorem rm {k:Nat}{most:Int}(hk:k<256)(hm:(k:Int)<=most):mQ most (am k)=true/\ud (am k)=k:=by
 grind [mQ,ud,VP]
theorem sg {most:Int}{s:B5}(h:mQ most s=true): ∃k:Nat,(k:Int)<=most/\s=am k/\ud s=k:=by
 unfold mQ at h;unfold ud;cases hr:Lib.atoiAll s
 ·rename_i v
  rw[hr] at h;simp at h;exact ⟨v.toNat,by omega,by grind,by grind⟩
 all_goals grind
def paL:CF->Nat->Int×Int
 | [],a=>((a:Int),0)
 |w::r,a=>if mQ 255 w=true then paL r (a*256+(ud w).toNat) else (0,2)
def paP:Int×Int:=if (Lib.split s [46]).length=4 then paL (Lib.split s [46]) 0 else (0,2)
theorem jW {k:Nat}(hk:k<256)(c:UInt8)(hc:dig c=false):c∉am k:=λh=>by
 grind [xa]
theorem NT {x:Nat}(hx:x<4294967296):paP (dots x)=((x:Int),0):=by
 have e:Lib.split (dots x) [46]= [am (x/ 16777216:Nat),am (x/ 65536 % 256:Nat),am (x/ 256 % 256:Nat),am (x % 256:Nat)]:=by
  unfold dots;rw[split_hit 46 _ _ (jW (by omega) _ rfl),split_hit 46 _ _ (jW (by omega) _ rfl),split_hit 46 _ _ (jW (by omega) _ rfl),split_none 46 _ (jW (by omega) _ rfl)]
 unfold paP;rw[e,Ac (show [am (x/ 16777216:Nat),am (x/ 65536 % 256:Nat),am (x/ 256 % 256:Nat),am (x % 256:Nat)].length=4 from rfl)]
 have q3:=rm (k:=x/ 16777216) (most:=255) (by omega) (by omega)
 have q2:=rm (k:=x/ 65536 % 256) (most:=255) (by omega) (by omega)
 have q1:=rm (k:=x/ 256 % 256) (most:=255) (by omega) (by omega)
 have q0:=rm (k:=x % 256) (most:=255) (by omega) (by omega)
 rw[paL,Ac q3.1,paL,Ac q2.1,paL,Ac q1.1,paL,Ac q0.1,paL,q3.2,q2.2,q1.2,q0.2];simp only[Int.toNat_natCast];refine Prod.ext ?_ rfl;omega
theorem NU: ∀(l:CF)(a:Nat),paL l a=(0,2)∨ ∃ks:Cc,(∀k∈ks,k<256)/\l=ks.map (λk:Nat=>am (k:Int))/\paL l a=(((ks.foldl (λa k=>a*256+k) a:Nat):Int),0)
 | [],a=>.inr ⟨[],by simp,rfl,rfl⟩
 |w::r,a=>by
  by_cases h:mQ 255 w=true
  ·obtain ⟨k,hk,e,hv⟩:=sg (most:=255) h
   rw[paL,Ac h,hv,Int.toNat_natCast];rcases NU r (a*256+k) with q|⟨ks,h1,h2,h3⟩
   ·grind
   ·exact .inr ⟨k::ks,by grind,by grind,by grind⟩
  grind [paL]
theorem paP_all:paP s=(0,2)∨ ∃x:Nat,x<4294967296/\s=dots x/\paP s=((x:Int),0):=by
 by_cases hl:(Lib.split s [46]).length=4
 ·unfold paP
  rw[Ac hl];rcases NU (Lib.split s [46]) 0 with q|⟨ks,h1,h2,h3⟩
  ·grind
  ·right
   rw[h3];have hj:=ov 46 s.length s (A7 _);rw[h2] at hl hj
   match ks,h1,hl,hj with
   | [k0,k1,k2,k3],h1,_,hj=>
    have b0:=h1 k0 (by simp)
    have b1:=h1 k1 (by simp)
    have b2:=h1 k2 (by simp)
    have b3:=h1 k3 (by simp)
    have hx:(((0*256+k0)*256+k1)*256+k2)*256+k3<4294967296:=by omega
    refine ⟨_,hx,?_,rfl⟩;rw[<-hj];unfold dots
    rw[show ((((0*256+k0)*256+k1)*256+k2)*256+k3)/ 16777216=k0 by omega,show ((((0*256+k0)*256+k1)*256+k2)*256+k3)/ 65536 % 256=k1 by omega,
     show ((((0*256+k0)*256+k1)*256+k2)*256+k3)/ 256 % 256=k2 by omega,show ((((0*256+k0)*256+k1)*256+k2)*256+k3) % 256=k3 by omega]
    rfl
   | [],_,hl,_=>simp at hl
   | [_],_,hl,_=>simp at hl
   | [_,_],_,hl,_=>simp at hl
   | [_,_,_],_,hl,_=>simp at hl
   |_::_::_::_::_::_,_,hl,_=>simp at hl
 grind [paP]
def psV (x:Nat)(n:Int):Pfx×Int:=if bu ⟨(x:Int),n⟩=true then (⟨(x:Int),n⟩,0) else (⟨0,0⟩,1)
def psR:Pfx×Int:=
 if (cg s 4 0 0 0).2<0∨(cg s 4 0 0 0).2>=s.length∨ ¬s[(cg s 4 0 0 0).2.toNat]? =some 47 then (⟨0,0⟩,2)
 else if¬(oY s ((cg s 4 0 0 0).2.toNat+1) 32).2=s.length then (⟨0,0⟩,2)
 else psV (cg s 4 0 0 0).1.toNat (oY s ((cg s 4 0 0 0).2.toNat+1) 32).1
def psP:Pfx×Int:=
 if (Lib.cut s [47]).2.2=false∨ ¬(paP (Lib.cut s [47]).1).2=0∨mQ 32 (Lib.cut s [47]).2.1=false then (⟨0,0⟩,2)
 else psV (paP (Lib.cut s [47]).1).1.toNat (ud (Lib.cut s [47]).2.1)
theorem Uh {x:Nat}(hx:x<4294967296):(47:UInt8)∉dots x:=by
 unfold dots;have h3:=jW (k:=x/ 16777216) (by omega) 47 rfl
 have h2:=jW (k:=x/ 65536 % 256) (by omega) 47 rfl
 have h1:=jW (k:=x/ 256 % 256) (by omega) 47 rfl
 have h0:=jW (k:=x % 256) (by omega) 47 rfl
 grind
def ptext (x n:Nat):B5:=dots x++47::am n
theorem AQ {x n:Nat}(hx:x<4294967296)(hn:n<=32):psP (ptext x n)=psV x n:=by
 grind [psP,ptext,rm,Ck,Uh,NT]
theorem AU:psP s=(⟨0,0⟩,2)∨ ∃x n:Nat,x<4294967296/\n<=32/\s=ptext x n/\psP s=psV x n:=by
 rcases sep_cases 47 s with h|⟨a,r,h,e⟩
 ·grind [psP,aaN]
 ·rcases paP_all a with q|⟨x,hx,ea,q⟩
  ·grind [psP,Ck]
  ·cases hb:mQ 32 r
   ·grind [psP,Ck]
   ·obtain ⟨n,hn,er,hv⟩:=sg (most:=32) hb
    right
    refine ⟨x,n,hx,by omega,by rw[e,ea,er];rfl,?_⟩
    rw[e,ea,er];exact AQ hx (by omega)
theorem NI {x n:Nat}(hx:x<4294967296)(hn:n<=32):psR (ptext x n)=psV x n:=by
 have ha:=OE (s:=ptext x n) (rest:=47::am n) hx rfl (.inr ⟨47,_,rfl,rfl⟩);have hd:(ptext x n).drop (dots x).length=47::am n:=by grind [ptext]
 have hl:=itoa_len (n:=n) (by omega)
 have hlen:(ptext x n).length=(dots x).length+1+(am n).length:=by grind [ptext]
 have hr:=Au (s:=ptext x n) (a:=(dots x).length+1) (most:=32) (k:=n) (rest:=[]) (by omega) hn (by rw[<-List.drop_drop,hd];simp) (.inl rfl)
 grind [psR,Int.toNat_natCast,lu]
theorem aco:psR s=(⟨0,0⟩,2)∨ ∃x n:Nat,x<4294967296/\n<=32/\s=ptext x n/\psR s=psV x n:=by
 rcases CG s with e|⟨x,hx,es,hl,ea⟩
 ·grind [psR]
 ·by_cases hc:(cg s 4 0 0 0).2<0∨(cg s 4 0 0 0).2>=s.length∨ ¬s[(cg s 4 0 0 0).2.toNat]? =some 47
  ·grind [psR]
  ·have hcc:=hc
   rw[ea] at hc;simp only[not_or,Classical.not_not,Int.toNat_natCast] at hc;obtain ⟨_,_,h47⟩:=hc;rw[lu] at h47;cases hd:s.drop (dots x).length with
   |nil=>grind
   |cons b t=>
    rw[hd] at h47;obtain rfl:b=47:=by grind
    have ht:s.drop ((dots x).length+1)=t:=by rw[<-List.drop_drop,hd];rfl
    rcases mF (s:=s) (a:=(dots x).length+1) (most:=32) with q|⟨n,hn,q,hdn,h1,hln⟩
    ·left;unfold psR;rw[Aa hcc,ea];simp only[Int.toNat_natCast];rw[q,Ac (by omega)]
    ·by_cases hz:(dots x).length+1+(am n).length=s.length
     ·right
      have hs:s=ptext x n:=by
       rw[hz,List.drop_length,Bb,ht] at hdn;rw[hd,hdn] at es;exact es
      grind [NI]
     ·left;unfold psR;rw[Aa hcc,ea];simp only[Int.toNat_natCast];rw[q,Ac (by omega)]
theorem ps_eq:psP s=psR s:=by
 grind [AU,aco,AQ,NI]
end
def errT:Nat:=273
section
variable {k:Eff->Prop} {x y:Opd} {g key:Nat} {hg:Nat->Cl} {ka kb:IntKind} {a b:Int} {kv:AV->Prop}
end
section
variable {kv:AV->Prop}
theorem Wg {a b:B5}(h:kv (.bool (a==b))): ∃v,bm .eql (.str a) (.str b)=some v/\kv v:=⟨_,rfl,h⟩
end
theorem xC {x:Nat}(hx:x<4294967296):(dots x).length<=15:=by
 have l3:=itoa_len (n:=x/ 16777216) (by omega)
 have l2:=itoa_len (n:=x/ 65536 % 256) (by omega)
 have l1:=itoa_len (n:=x/ 256 % 256) (by omega)
 have l0:=itoa_len (n:=x % 256) (by omega)
 grind [dots]
theorem FH (s:B5)(hs:s.length<2^40):ag G 263 [.str s] [] (Gm errT s):=by
 show yB errT [.str s] []=_
 exact Ac (by omega)
theorem qj (s:B5)(most:Int)(hs:s.length<2^40):ag G 250 [.str s,.int .i64 most] [] ⟨.tup [.int .i64 (ud s),.bool (mQ most s)],[]⟩:=by
 have ha:=FH s hs;unfold Gm at ha;unfold ud mQ;cases hr:Lib.atoiAll s
 ·rename_i v
  rw[hr] at ha;simp only at ha⊢;obtain ⟨b0,b1⟩:=Lib.atoiAll_bounds hr;have hi:=itoa_gives246 b0 b1;generalize am v=t at*
  by_cases h0:0<=v
  ·by_cases h1:v<=most
   ·refine gvC (F:=xz) ?_
    repeat' ((conv=>whnf);first|refine Wg ?_|refine aq ?_|apply ae<;>intro h)
    refine ap ?_;simp[h0,h1]
   ·refine gvC (F:=xz) ?_
    repeat' ((conv=>whnf);first|refine Wg ?_|refine aq ?_|apply ae<;>intro h)
    refine ap ?_;simp[h0,h1]
  ·refine gvC (F:=xz) ?_
   repeat' ((conv=>whnf);first|refine Wg ?_|refine aq ?_|apply ae<;>intro h)
   refine ap ?_;simp[h0]
 ·rw[hr] at ha
  simp only at ha⊢;exact gvA (F:=xz)
 ·rw[hr] at ha
  simp only at ha⊢;exact gvA (F:=xz)
section
variable (p:Pfx)(h:p.ok)
include h
theorem D9:ag G 229 [.agg p.enc] [] ⟨.str (if bu p=true then ptext p.addr.toNat p.len.toNat else []),[]⟩:=by
 obtain ⟨e,hx⟩:=o9 h.addr;have hv:=jS p h;have ha:=FK p.addr.toNat hx;have hd:=xC hx;rw[<-e] at ha;cases hvp:bu p
 ·rw[hvp] at hv
  rw[Aa (by simp)]
  exact gvA (F:=RM)
 ·rw[hvp] at hv
  obtain ⟨n0,n1⟩:=lz hvp;have hi:=itoa_gives246 (n:=p.len) (by omega) (by omega)
  have hil:=itoa_len (n:=p.len.toNat) (by omega)
  rw[BY n0] at hil;rw[Ac rfl,ptext,BY n0];generalize am p.len=t at*;generalize dots p.addr.toNat=d at*;refine gvC (F:=RM) ?_
  repeat' (first|refine bp ?_|apply ae<;>intro h)
  refine ap ?_;simp
theorem D8:ag G 230 [.agg p.enc] [] ⟨.str (if bu p=true then ptext p.addr.toNat p.len.toNat else []),[]⟩:=by
 obtain ⟨e,hx⟩:=o9 h.addr;have hv:=eC p h;have ha:=FJ p.addr.toNat hx;have hd:=xC hx;rw[<-e] at ha;cases hvp:bu p
 ·rw[hvp] at hv
  rw[Aa (by simp)]
  exact gvA (F:=RK)
 ·rw[hvp] at hv
  obtain ⟨n0,n1⟩:=lz hvp;have hi:=jH (n:=p.len.toNat) (by omega)
  have hil:=itoa_len (n:=p.len.toNat) (by omega)
  rw[BY n0] at hil hi;rw[Ac rfl,ptext,BY n0];generalize am p.len=t at*;generalize dots p.addr.toNat=d at*;refine gvC (F:=RK) ?_
  repeat' (first|refine bp ?_|apply ae<;>intro h)
  refine ap ?_;simp
theorem TK (v:bu p=true):psP (ptext p.addr.toNat p.len.toNat)=(p,0):=by
 obtain ⟨e,hx⟩:=o9 h.addr;obtain ⟨n0,n1⟩:=lz v;rw[AQ hx (by omega),psV,<-e,BY n0,Ac v]
end
theorem CX {x n:Nat}(hx:x<4294967296)(hn:n<=32):(ptext x n).length<=19:=by
 grind [xC,itoa_len,ptext]
structure PRule where
 permit:Bool
 pfx:Pfx
 min:Int
 max:Int
 deriving DecidableEq
def PRule.enc (r:PRule):List AV:=[.bool r.permit,.int .u32 r.pfx.addr,.int .i64 r.pfx.len,.int .i64 r.min,.int .i64 r.max]
structure PRule.ok (r:PRule):Prop where
 pfx:r.pfx.ok
 min:okI r.min
 max:okI r.max
def gn (r:PRule):Int:=if bu r.pfx=true then (if r.min<r.pfx.len∨r.max<r.min∨r.max>32 then 5 else 0) else 1
theorem chk_zero {r:PRule}(h:gn r=0):bu r.pfx=true/\r.pfx.len<=r.min/\r.min<=r.max/\r.max<=32/\0<=r.pfx.len:=by
 grind [gn,OT]
def wPermit:List UInt8:=[112,101,114,109,105,116]
def wDeny:List UInt8:=[100,101,110,121]
def io (b:Bool):List UInt8:=bif b then wPermit else wDeny
def rng (a b:Int):List UInt8:=am a++45::am b
def rtail (r:PRule):List UInt8:=if r.min≠r.pfx.len∨r.max≠r.pfx.len then 32::rng r.min r.max else []
def rtext (r:PRule):List UInt8:=io r.permit++32::(ptext r.pfx.addr.toNat r.pfx.len.toNat++rtail r)
def oe:PRule:=⟨false,⟨0,0⟩,0,0⟩
section
variable (most:Int)(s:List UInt8)
def canon:Bool:=match s with
 | []=>false
 |b::r=> !(decide (r≠ [])&&decide (b=48))&&(b::r).all dig
def foldN:List UInt8->Nat->Option Nat
 | [],n=>some n
 |b::r,n=>if n>(9223372036854775807-dval b)/ 10 then none else foldN r (10*n+dval b)
def fNum:Int×Int:=if canon s=true then (match foldN s 0 with
 |none=>(0,5)
 |some n=>if (n:Int)>most then (0,5) else ((n:Int),0)) else (0,2)
def chkF (n:Nat):Bool:=canon (am n)&&(foldN (am n) 0==some n)
theorem aaY:(List.range 256).all chkF=true:=by decide+kernel
theorem YV {k:Nat}{most:Int}(hk:k<256)(hm:(k:Int)<=most):fNum most (am k)=((k:Int),0):=by
 have:=List.all_eq_true.1 aaY k (List.mem_range.2 hk)
 grind [chkF,fNum]
def lenS:Int×Int×Bool:=
 if 45∈s then ((fNum 32 (s.takeWhile (· !=45))).1,(fNum 32 ((s.dropWhile (· !=45)).drop 1)).1,(fNum 32 (s.takeWhile (· !=45))).2==0&&(fNum 32 ((s.dropWhile (· !=45)).drop 1)).2==0)
 else (0,0,false)
theorem ya {c:UInt8}: ∀{a r:List UInt8},c∉a->(a++c::r).takeWhile (· !=c)=a/\(a++c::r).dropWhile (· !=c)=c::r
 | [],r,_=>by simp
 |x::a,r,h=>by
  have hx:(x !=c)=true:=by grind
  have ih:=ya (c:=c) (a:=a) (r:=r) (λq=>h (by simp[q]))
  simp_all
theorem tv {c:UInt8}: ∀{a:List UInt8},c∉a->a.takeWhile (· !=c)=a
 | [],_=>rfl
 |x::a,h=>by
  have hx:(x !=c)=true:=by grind
  rw[List.takeWhile_cons,Ac hx,tv (λq=>h (by simp[q]))]
theorem Yd {a b:Nat}(ha:a<=32)(hb:b<=32):lenS (rng a b)=((a:Int),(b:Int),true):=by
 have hn:=jW (k:=a) (by omega) 45 rfl
 grind [ya,lenS,rng,YV,List.drop_one,List.tail_cons]
def wordsS:Option (List (List UInt8)):=if s= [] then some [] else if 10∈s then none else if []∈Lib.split s [32] then none else some (Lib.split s [32])
def plW (ws:List (List UInt8)):Option PRule:=match ws with
 | [v,p]=>if (psP p).2=0 then some ⟨v==wPermit,(psP p).1,(psP p).1.len,(psP p).1.len⟩ else none
 | [v,p,l]=>if (psP p).2=0 then (if (lenS l).2.2=true then some ⟨v==wPermit,(psP p).1,(lenS l).1,(lenS l).2.1⟩ else none) else none
 |_=>none
def plP:PRule×Int:=match (wordsS s).bind plW with
 |some r=>if gn r=0/\rtext r=s then (r,0) else (oe,2)
 |none=>(oe,2)
theorem psP_ok {s:List UInt8}(h:(psP s).2=0):(psP s).1.ok:=by
 rcases AU s with e|⟨x,n,hx,hn,_,e⟩
 ·grind
 ·rw[e] at h⊢
  unfold psV at h⊢;split at h
  ·rename_i v
   rw[Ac v];exact ⟨by grind [okU],by grind [okI]⟩
  ·cases h
theorem aeg {ws:List (List UInt8)}{r:PRule}(h:plW ws=some r):r.pfx.ok:=by
 unfold plW at h
 grind [psP_ok]
theorem plP_all:plP s=(oe,2)∨ ∃r,r.pfx.ok/\gn r=0/\s=rtext r/\plP s=(r,0):=by
 grind [plP,Option.bind_eq_some_iff,aeg]
end
def low (b:UInt8):Bool:=b !=32&&b !=10
theorem acX {b:UInt8}(h:dig b=true):low b=true:=by
 obtain ⟨d,hd,rfl,_⟩:=dig_of h;have: ∀d,d<10->low (UInt8.ofNat (48+d))=true:=by decide
 grind
theorem kU {k:Nat}(h:k<256):(am k).all low=true:=List.all_eq_true.2 λb hb=>acX (xa h b hb)
theorem low_dots {x:Nat}(hx:x<4294967296):(dots x).all low=true:=by
 unfold dots;simp only[List.all_append,B2,kU (show x/ 16777216<256 by omega),kU (show x/ 65536 % 256<256 by omega),kU (show x/ 256 % 256<256 by omega),kU (show x % 256<256 by omega)]
 decide
theorem Di {x n:Nat}(hx:x<4294967296)(hn:n<=32):(ptext x n).all low=true:=by
 unfold ptext;simp only[List.all_append,B2,low_dots hx,kU (show n<256 by omega)]
 decide
theorem acW {a b:Nat}(ha:a<=32)(hb:b<=32):(rng a b).all low=true:=by
 unfold rng;simp only[List.all_append,B2,kU (show a<256 by omega),kU (show b<256 by omega)]
 decide
theorem sk (b:Bool):(io b).all low=true:=by cases b<;>decide
theorem low_not {s:List UInt8}(h:s.all low=true):(32:UInt8)∉s/\(10:UInt8)∉s:=by
 grind [low]
theorem vQ (b:Bool):(io b==wPermit)=b:=by cases b<;>decide
theorem Nq (b:Bool):io b≠ []:=by cases b<;>decide
theorem Iy (x n:Nat):ptext x n≠ []:=by simp_all[ptext]
theorem ad6 (a b:Int):rng a b≠ []:=by simp_all[rng]
theorem NL {r:PRule}(hr:r.pfx.ok)(h:gn r=0):plP (rtext r)=(r,0):=by
 obtain ⟨v,m1,m2,m3,m0⟩:=chk_zero h;obtain ⟨pe,hx⟩:=o9 hr.addr;have hp:=Di (n:=r.pfx.len.toNat) hx (by omega)
 have hv:=TK r.pfx hr v;have hne:=Iy r.pfx.addr.toNat r.pfx.len.toNat;obtain ⟨perm,pf,mn,mx⟩:=r;simp only at*;obtain ⟨a,rfl⟩: ∃a:Nat,mn=a:=⟨mn.toNat,by omega⟩
 obtain ⟨b,rfl⟩: ∃b:Nat,mx=b:=⟨mx.toNat,by omega⟩
 have hl:=acW (a:=a) (b:=b) (by omega) (by omega)
 have hw:(wordsS (rtext ⟨perm,pf,a,b⟩)).bind plW=some ⟨perm,pf,a,b⟩:=by
  unfold rtext rtail;simp only
  by_cases hc:(a:Int)≠pf.len∨(b:Int)≠pf.len
  ·rw[Ac hc]
   have e:Lib.split (io perm++32::(ptext pf.addr.toNat pf.len.toNat++32::rng a b)) [32]= [io perm,ptext pf.addr.toNat pf.len.toNat,rng a b]:=by
    grind [split_hit,low_not,sk,split_none]
   unfold wordsS;rw[Aa (by simp),Aa,e,Aa]
   ·grind [plW,Yd,vQ]
   ·grind [Nq,ad6]
   ·simp only[BE,AI,not_or]
    exact ⟨(low_not (sk perm)).2,by decide,(low_not hp).2,by decide,(low_not hl).2⟩
  ·rw[Aa hc,Bb]
   have e:Lib.split (io perm++32::ptext pf.addr.toNat pf.len.toNat) [32]= [io perm,ptext pf.addr.toNat pf.len.toNat]:=by
    grind [split_hit,low_not,sk,split_none]
   have ea:(a:Int)=pf.len:=by omega
   have eb:(b:Int)=pf.len:=by omega
   unfold wordsS;rw[Aa (by simp),Aa,e,Aa]
   ·grind [plW,vQ]
   ·grind [Nq]
   ·simp only[BE,AI,not_or]
    exact ⟨(low_not (sk perm)).2,by decide,(low_not hp).2⟩
 grind [plP]
theorem TF {r q:PRule}(hr:r.pfx.ok)(hq:q.pfx.ok)(h1:gn r=0)(h2:gn q=0)(e:rtext r=rtext q):r=q:=by
 grind [NL]
theorem KJ (r:PRule)(h:r.ok):ag G 325 [.agg r.enc] [] ⟨.int .i64 (gn r),[]⟩:=by
 have hv:=jS r.pfx h.pfx;unfold gn;cases hvp:bu r.pfx
 ·rw[hvp] at hv
  rw[Aa (by simp)]
  exact gvA (F:=xy)
 ·rw[hvp] at hv
  rw[Ac rfl]
  by_cases h1:r.min<r.pfx.len
  ·rw[Ac (.inl h1)]
   exact gvA (F:=xy)
  ·by_cases h2:r.max<r.min
   ·rw[Ac (.inr (.inl h2))]
    exact gvA (F:=xy)
   ·by_cases h3:r.max>32
    ·rw[Ac (.inr (.inr h3))]
     exact gvA (F:=xy)
    ·rw[Aa (by omega)]
     exact gvA (F:=xy)
theorem KH (r:PRule)(h:r.ok):ag G 326 [.agg r.enc] [] ⟨.int .i64 (gn r),[]⟩:=by
 have hv:=eC r.pfx h.pfx;unfold gn;cases hvp:bu r.pfx
 ·rw[hvp] at hv
  rw[Aa (by simp)]
  exact gvA (F:=xx)
 ·rw[hvp] at hv
  rw[Ac rfl]
  by_cases h1:r.min<r.pfx.len
  ·rw[Ac (.inl h1)]
   exact gvA (F:=xx)
  ·by_cases h2:r.max<r.min
   ·rw[Ac (.inr (.inl h2))]
    exact gvA (F:=xx)
   ·by_cases h3:r.max>32
    ·rw[Ac (.inr (.inr h3))]
     exact gvA (F:=xx)
    ·rw[Aa (by omega)]
     exact gvA (F:=xx)
def tJ (s:B5)(r:PRule):Prop:=gn r=0/\rtext r=s
instance (s:B5) (r:PRule):Decidable (tJ s r):=by unfold tJ;infer_instance
def qd (s:B5)(v:Bool)(p:Pfx)(mn:Int):Nat->Int->Ds
 |0,_=>none
 |f+1,mx=>if 32<mx then none else if tJ s ⟨v,p,mn,mx⟩ then some mx else qd s v p mn f (mx+1)
def og (s:B5)(v:Bool)(p:Pfx):Nat->Int->Option (Int×Int)
 |0,_=>none
 |f+1,mn=>if 32<mn then none else match qd s v p mn 40 mn with
  |some mx=>some (mn,mx)
  |none=>og s v p f (mn+1)
theorem CP (s:B5)(v:Bool)(p:Pfx)(mn:Int): ∀(f:Nat)(mx:Int),32-mx<f->(qd s v p mn f mx=none/\ ∀m,mx<=m->m<=32-> ¬tJ s ⟨v,p,mn,m⟩)∨ ∃m,qd s v p mn f mx=some m/\tJ s ⟨v,p,mn,m⟩
 |0,mx,h=>.inl ⟨rfl,λm h1 h2=>by omega⟩
 |f+1,mx,h=>by
  rw[qd]
  by_cases h1:32<mx
  ·grind
  ·rw[Aa h1]
   by_cases h2:tJ s ⟨v,p,mn,mx⟩
   ·grind
   ·rw[Aa h2]
    rcases CP s v p mn f (mx+1) (by omega) with ⟨q,hq⟩|q
    all_goals grind
theorem tG (s:B5)(v:Bool)(p:Pfx): ∀(f:Nat)(mn:Int),32-mn<f->0<=mn->(og s v p f mn=none/\ ∀a m,mn<=a->a<=m->m<=32-> ¬tJ s ⟨v,p,a,m⟩)∨ ∃a m,og s v p f mn=some (a,m)/\tJ s ⟨v,p,a,m⟩
 |0,mn,h,_=>.inl ⟨rfl,λa m h1 h2 h3=>by omega⟩
 |f+1,mn,h,h0=>by
  rw[og]
  by_cases h1:32<mn
  ·grind
  ·rw[Aa h1]
   rcases CP s v p mn 40 mn (by omega) with ⟨q,hq⟩|⟨m,q,hq⟩
   ·rw[q]
    rcases tG s v p f (mn+1) (by omega) (by omega) with ⟨q2,hq2⟩|⟨a,m,q2,hq2⟩
    all_goals grind
   grind
section
variable (s:B5)
def vz:Option (Bool×B5):=
 if 7<s.length/\s.take 7=wPermit++[32] then some (true,s.drop 7) else if 5<s.length/\s.take 5=wDeny++[32] then some (false,s.drop 5) else none
def tP (v:Bool)(rest:B5):PRule×Int:=
 if (psR (rest.takeWhile (· !=32))).2=0 then (match og s v (psR (rest.takeWhile (· !=32))).1 40 (psR (rest.takeWhile (· !=32))).1.len with
  |some (a,m)=>(⟨v,(psR (rest.takeWhile (· !=32))).1,a,m⟩,0)
  |none=>(oe,2)) else (oe,2)
def refP:PRule×Int:=match vz s with
 |some (v,rest)=>tP s v rest
 |none=>(oe,2)
theorem psR_ok {s:B5}(h:(psR s).2=0):(psR s).1.ok/\bu (psR s).1=true:=by
 rw[<-ps_eq] at h⊢
 grind [psP_ok,AU,psV]
theorem WX:refP s=(oe,2)∨ ∃r:PRule,r.pfx.ok/\gn r=0/\s=rtext r/\refP s=(r,0):=by
 unfold refP;cases vz s with
 |none=>grind
 |some q=>
  obtain ⟨v,rest⟩:=q;simp only;unfold tP
  by_cases h:(psR (rest.takeWhile (· !=32))).2=0
  ·rw[Ac h]
   obtain ⟨ho,hv⟩:=psR_ok h;have h0:=(lz hv).1;rcases tG s v _ 40 _ (by omega) h0 with ⟨e,_⟩|⟨a,m,e,hr⟩
   ·rw[e];grind
   ·rw[e];exact .inr ⟨_,ho,hr.1,hr.2.symm,rfl⟩
  grind
theorem UD (v:Bool)(r:B5)(hr:r≠ []):vz (io v++32::r)=some (v,r):=by
 obtain ⟨x,t,rfl⟩: ∃x t,r=x::t:=by cases r<;>grind
 unfold vz;cases v
 all_goals simp_all[io,wDeny,wPermit]
theorem WW {r:PRule}(hr:r.pfx.ok)(h:gn r=0):refP (rtext r)=(r,0):=by
 obtain ⟨v,m1,m2,m3,m0⟩:=chk_zero h;obtain ⟨pe,hx⟩:=o9 hr.addr;have hp:=Di (n:=r.pfx.len.toNat) hx (by omega)
 have hv:psR (ptext r.pfx.addr.toNat r.pfx.len.toNat)=(r.pfx,0):=by grind [ps_eq,TK]
 have hne:=Iy r.pfx.addr.toNat r.pfx.len.toNat
 have hw:(ptext r.pfx.addr.toNat r.pfx.len.toNat++rtail r).takeWhile (· !=32)=ptext r.pfx.addr.toNat r.pfx.len.toNat:=by
  unfold rtail;split
  ·grind [ya,low_not]
  ·rw[Bb];exact tv (low_not hp).1
 have hs:vz (rtext r)=some (r.permit,ptext r.pfx.addr.toNat r.pfx.len.toNat++rtail r):=UD _ _ (by simp[hne])
 unfold refP;rw[hs];simp only;unfold tP;rw[hw,hv,Ac rfl];simp only;rcases tG (rtext r) r.permit r.pfx 40 r.pfx.len (by omega) m0 with ⟨e,hno⟩|⟨a,m,e,hq⟩
 ·exact absurd ⟨h,rfl⟩ (hno r.min r.max m1 m2 m3)
 ·rw[e]
  have:=TF (r:=⟨r.permit,r.pfx,a,m⟩) (q:=r) hr hr hq.1 h hq.2
  grind
theorem pl_eq:plP s=refP s:=by
 grind [plP_all,WX,NL,WW]
theorem shl8 {x:Nat}(hx:x<16777216){kv:AV->Prop}(h:kv (.int .u32 ((x*256:Nat):Int))): ∃v,bm .shl (.int .u32 (x:Int)) (.int .u64 8)=some v/\kv v:=by
 refine ⟨_,?_,h⟩;show some (AV.int .u32 (IntKind.wrap .u32 ((x:Int)*2^ (min (8:Int).toNat 32))))=_
 rw[show (x:Int)*2^ (min (8:Int).toNat 32)=((x*256:Nat):Int) from by grind,oC _ (by omega)]
theorem or8 {x n:Nat}(hx:x<16777216)(hn:n<256){kv:AV->Prop}(h:kv (.int .u32 ((x*256+n:Nat):Int))): ∃v,bm .or (.int .u32 ((x*256:Nat):Int)) (.int .u32 (n:Int))=some v/\kv v:=by
 refine ⟨_,?_,h⟩;show some (AV.int .u32 (intBits .or .u32 _ _))=_
 rw[IX _ _ (by omega) (by omega),aeo hn]
abbrev Bs:=B5
def encS (w:B5):B7:=[.str w]
theorem yz (l:List Bs)(h4:l.length=4)(hw: ∀w∈l,w.length<2^40)(hl:l.length<2^40)(ln:Int)(hln:ln=l.length): ∀(rest done:List Bs)(a:Nat)(T:TV)(H:az)(c:Nat)(n:Int)(e:l=done++rest)(hn:n=done.length)(ha:a<256^done.length),Ev G ⟨Ve,⟨(15,.sl 1 (l.map encS))::(16,.int .i64 ln)::(17,.int .i64 n)::(5,.int .u32 (a:Int))::T,H,c⟩,[.t 2,.t 3],0⟩ (okA (paL rest a))
 | [],done,a,T,H,c,n,e,hn,ha=>by
  have hd:=md0 e;have hll:=ml l encS;refine evA ?_;refine ap ?_;rfl
 |x::r,done,a,T,H,c,n,e,hn,ha=>by
  have hd:=md e;have hll:=ml l encS;have hx:=mx encS e hn;have ha4:a<16777216:=BS ha (AJ (Nat.pow_le_pow_right (by omega) (show done.length<=3 by omega)) (by omega))
  have hn:=qj x 255 (hw x (by simp[e]))
  by_cases hb:mQ 255 x=true
  ·obtain ⟨k,hk,ek,hv⟩:=sg hb
   rw[hb,hv] at hn;rw[paL,Ac hb,hv,Int.toNat_natCast];refine evl ?_
   repeat' ((conv=>whnf);first|refine shl8 ha4 ?_|refine or8 ha4 (by omega) ?_|refine aq ?_|apply ae<;>intro h)
   refine au [15,16,17,5] [] ?_;exact yz l h4 hw hl ln hln r (done++[x]) (a*256+k) _ _ _ (n+1) (by simp[e]) (by simp[hn]<;>omega) (by rw[Ao,List.length_singleton,Nat.pow_succ];omega)
  ·have hb2:mQ 255 x=false:=by simpa using hb
   rw[hb2] at hn;rw[paL,Aa hb];refine evA ?_;refine ap ?_;rfl
theorem zX (hs:s.length<4294967281):ag G 249 [.str s,.str [46]] [] ⟨.sl 1 ((Lib.split s [46]).map encS),[]⟩:=by
 show rk [.str s,.str [46]] []=_
 exact Ac ⟨hs,by simp⟩
theorem adx:(List.range 256).all (λn=>FX (run G 400 (f338.start [.int .i64 (n:Int)] [])) (am n))=true:=by kernel_rfl
theorem dec_gives338 {n:Nat}(h:n<256):ag G 338 [.int .i64 (n:Int)] [] ⟨.str (am n),[]⟩:=
 i8 400 rfl rfl (I8 (List.all_eq_true.1 adx n (List.mem_range.2 h)))
theorem dec_gives337 {n:Nat}(h:n<256):ag G 337 [.int .i64 (n:Int)] [] ⟨.str (am n),[]⟩:=by
 have hi:=itoa_gives246 (n:=(n:Int)) (by omega) (by omega)
 generalize am (n:Int)=t at*;exact gvA (F:=f337)
theorem idx_at {s done rest:B5}{x:UInt8}{n:Int}(e:s=done++x::rest)(hn:n=done.length):s[n.toNat]? =some x:=by
 grind
theorem n9 (s:B5)(hs:s.length<2^40): ∀(rest done:B5)(T:TV)(H:az)(c:Nat)(n:Int)(e:s=done++rest)(hn:n=done.length),
  Ev G ⟨JK,⟨(18,.int .i64 n)::(0,.str s)::(17,.int .i64 s.length)::T,H,c⟩,[.t 2],0⟩ ⟨.bool (rest.all dig),[]⟩
 | [],done,T,H,c,n,e,hn=>by
  have hd:=md0 e;refine evA ?_;refine ap ?_;rfl
 |x::rest,done,T,H,c,n,e,hn=>by
  have hd:=md e;have hb:=idx_at e hn;rw[B2]
  by_cases h1:48<=x.toNat
  ·by_cases h2:x.toNat<=57
   ·rw[show dig x=true from by simp[dig,h1,h2],By]
    refine evl ?_
    repeat' (first|refine bp ?_|apply ae<;>intro h)
    refine au [18,0,17] [] ?_;exact n9 s hs rest (done++[x]) _ _ _ (n+1) (by simp[e]) (by simp[hn])
   ·rw[show dig x=false from by simp[dig,h2],Bo]
    refine evl ?_
    repeat' (first|refine bp ?_|apply ae<;>intro h)
    refine ap ?_;rfl
  ·rw[show dig x=false from by simp[dig,h1],Bo]
   refine evl ?_
   repeat' (first|refine bp ?_|apply ae<;>intro h)
   refine ap ?_;rfl
theorem Cu (hs:s.length<2^40):ag G 347 [.str s] [] ⟨.bool (canon s),[]⟩:=by
 cases s with
 |nil=>
  have z: ∀{kv:AV->Prop},kv (.bool true)-> ∃v,bm .eql (.str []) (.str [])=some v/\kv v:=λh=>⟨_,rfl,h⟩
  refine gvC (F:=pq) ?_
  repeat' ((conv=>whnf);first|refine z ?_|refine aq ?_|apply ae<;>intro h)
  refine ap ?_;rfl
 |cons b r=>
  have z: ∀{kv:AV->Prop},kv (.bool false)-> ∃v,bm .eql (.str (b::r)) (.str [])=some v/\kv v:=λh=>⟨_,rfl,h⟩
  have hb:(b::r)[(0:Int).toNat]? =some b:=rfl;have hl:(b::r).length=r.length+1:=rfl;cases r with
  |nil=>
   rw[show canon [b]= [b].all dig from by simp[canon]]
   refine gvC (F:=pq) ?_
   repeat' ((conv=>whnf);first|refine z ?_|refine aq ?_|apply ae<;>intro h)
   refine au [18,0,17] [] ?_;exact n9 [b] hs [b] [] _ _ _ 0 rfl rfl
  |cons d q=>
   have hl2:(b::d::q).length=q.length+2:=rfl
   by_cases hz:b=48
   ·subst hz
    rw[show canon (48::d::q)=false from by simp[canon]]
    refine gvC (F:=pq) ?_
    repeat' ((conv=>whnf);first|refine z ?_|refine zIstr (b:=48) ?_ hb (by omega)|refine aq ?_|apply ae<;>intro h)
    refine ap ?_;rfl
   ·have hz2: ¬(b.toNat:Int)=48:=by
     intro e;apply hz;apply A5.1
     show b.toNat=48
     omega
    rw[show canon (b::d::q)=(b::d::q).all dig from by simp[canon,hz]]
    refine gvC (F:=pq) ?_
    repeat' ((conv=>whnf);first|refine z ?_|refine zIstr (b:=b) ?_ hb (by omega)|refine aq ?_|apply ae<;>intro h)
    refine au [18,0,17] [] ?_;exact n9 (b::d::q) hs (b::d::q) [] _ _ _ 0 rfl rfl
def nfR (p:Int×Int):Ret:=⟨.tup [.int .i64 p.1,.int .i64 p.2],[]⟩
def XO (most:Int)(o:CV):Int×Int:=match o with
 |none=>(0,5)
 |some n=>if (n:Int)>most then (0,5) else ((n:Int),0)
theorem wd (s:B5)(hs:s.length<2^40)(most:Int): ∀(rest done:B5)(a:Nat)(T:TV)(H:az)(c:Nat)(n A:Int)(e:s=done++rest)(hn:n=done.length)(hA:A=a)(ha:a<=9223372036854775807)(hd:rest.all dig=true),
  Ev G ⟨DH,⟨(14,.int .i64 n)::(6,.int .i64 A)::(0,.str s)::(1,.int .i64 most)::(13,.int .i64 s.length)::T,H,c⟩,[.t 4,.t 5],0⟩ (nfR (XO most (foldN rest a)))
 | [],done,a,T,H,c,n,A,e,hn,hA,ha,hd=>by
  have hd:=md0 e;rw[foldN,XO]
  by_cases hm:(a:Int)>most
  ·rw[Ac hm]
   refine evA ?_;refine ap ?_;rfl
  ·rw[Aa hm]
   refine evA ?_;refine ap ?_;rw[hA];rfl
 |x::rest,done,a,T,H,c,n,A,e,hn,hA,ha,hdg=>by
  have hd:=md e;have hb:=idx_at e hn;simp only[B2,At] at hdg;obtain ⟨h1,h2⟩:48<=x.toNat/\x.toNat<=57:=by have:=hdg.1;simpa[dig] using this
  have hv:dval x<10:=by unfold dval;omega
  rw[foldN]
  by_cases ho:a>(9223372036854775807-dval x)/ 10
  ·rw[Ac ho,XO]
   have ho2:A>(9223372036854775807- ((dval x:Nat):Int))/ 10:=by omega
   refine evl ?_
   repeat' ((conv=>whnf);first|refine zIstr ?_ hb (by omega)|refine zSub48 ?_ h1|refine aq ?_|apply ae<;>intro h)
   refine ap ?_;rfl
  ·rw[Aa ho]
   have ho2: ¬A>(9223372036854775807- ((dval x:Nat):Int))/ 10:=by omega
   refine evl ?_
   repeat' ((conv=>whnf);first|refine zIstr ?_ hb (by omega)|refine zSub48 ?_ h1|refine aq ?_|apply ae<;>intro h)
   refine au [14,6,0,1,13] [] ?_;exact wd s hs most rest (done++[x]) (10*a+dval x) _ _ _ (n+1) (10*A+(dval x:Nat)) (by simp[e]) (by simp[hn]) (by omega) (by omega) hdg.2
theorem num_gives346 (hs:s.length<2^40)(most:Int):ag G 346 [.str s,.int .i64 most] [] (nfR (fNum most s)):=by
 have hc:=Cu s hs;unfold fNum;cases hq:canon s
 ·rw[hq] at hc
  rw[Aa (by simp)]
  exact gvA (F:=xw)
 ·rw[hq] at hc
  rw[Ac rfl]
  have hd:s.all dig=true:=by
   unfold canon at hq;split at hq
   ·cases hq
   ·simp only[At] at hq;exact hq.2
  refine gvB (F:=xw) ?_;refine au [14,6,0,1,13] [] ?_;exact wd s hs most s [] 0 _ _ _ 0 0 rfl rfl rfl (by omega) hd
end
def lnR (p:Int×Int×Bool):Ret:=⟨.tup [.int .i64 p.1,.int .i64 p.2.1,.bool p.2.2],[]⟩
theorem wl (s:List UInt8)(hs:s.length<2^40): ∀(rest done:List UInt8)(T:TV)(H:az)(c:Nat)(n:Int)(e:s=done++rest)(hn:n=done.length)(hd:(45:UInt8)∉done),
  Ev G ⟨aaz,⟨(0,.str s)::(12,.int .i64 n)::(11,.int .i64 s.length)::T,H,c⟩,[.t 2,.t 3,.t 4],0⟩ (lnR (lenS s))
 | [],done,T,H,c,n,e,hn,hdn=>by
  have hd:=md0 e;rw[show lenS s=(0,0,false) from Aa (by rw[e];simpa using hdn)]
  refine evA ?_;refine ap ?_;rfl
 |x::rest,done,T,H,c,n,e,hn,hdn=>by
  have hd:=md e;have hb:=idx_at e hn
  by_cases hx:x=45
  ·subst hx
   obtain ⟨e1,e2⟩:=ya (r:=rest) hdn
   have hlen:lenS s=((fNum 32 done).1,(fNum 32 rest).1,(fNum 32 done).2==0&&(fNum 32 rest).2==0):=by
    unfold lenS;rw[Ac (by rw[e];simp),e,e1,e2];rfl
   rw[hlen];have n1: ∀m,List.take m (List.drop 0 s)=done->ag G 346 [.str (List.take m (List.drop 0 s)),.int .i64 32] [] (nfR (fNum 32 done)):=λm ht=>by rw[ht];exact num_gives346 done (by omega) 32
   have n2: ∀m k,List.take m (List.drop k s)=rest->ag G 346 [.str (List.take m (List.drop k s)),.int .i64 32] [] (nfR (fNum 32 rest)):=λm k ht=>by rw[ht];exact num_gives346 rest (by omega) 32
   generalize fNum 32 done=F1 at*;generalize fNum 32 rest=F2 at*;obtain ⟨a,p⟩:=F1;obtain ⟨b,q⟩:=F2;have s1:List.take (n.toNat-0) (List.drop 0 s)=done:=by simp[e,hn]
   have s2:List.take (s.length- (n+1).toNat) (List.drop (n+1).toNat s)=rest:=by
    have:(n+1).toNat=done.length+1:=by omega
    rw[this,e,List.take_of_length_le (by simp<;>omega)];simp
   by_cases hp:p=0
   ·refine evl ?_
    repeat' ((conv=>whnf);first|refine zIstr (b:=45) ?_ hb (by omega)|refine kV (n1 _ s1) ?_|refine kV (n2 _ _ s2) ?_|refine aq ?_|apply ae<;>intro h)
    refine ap ?_;simp[hp,lnR]
   ·refine evl ?_
    repeat' ((conv=>whnf);first|refine zIstr (b:=45) ?_ hb (by omega)|refine kV (n1 _ s1) ?_|refine kV (n2 _ _ s2) ?_|refine aq ?_|apply ae<;>intro h)
    refine ap ?_;simp[hp,lnR]
  ·have hx2: ¬(x.toNat:Int)=45:=by
    intro q;apply hx;apply A5.1
    show x.toNat=45
    omega
   refine evl ?_
   repeat' (first|refine bp ?_|apply ae<;>intro h)
   refine au [0,12,11] [] ?_;exact wl s hs rest (done++[x]) _ _ _ (n+1) (by simp[e]) (by simp[hn]) (by simp;exact ⟨hdn,λq=>hx q.symm⟩)
section
variable (s:List UInt8)
theorem Jf (hs:s.length<2^40):ag G 340 [.str s] [] (lnR (lenS s)):=by
 refine gvB (F:=RF) ?_;refine au [0,12,11] [] ?_;exact wl s hs s [] _ _ _ 0 rfl rfl (by simp)
def wrR:Ret:=match wordsS s with
 |none=>⟨.tup [.con (.slice none 0 0),.int .i64 2],[]⟩
 |some ws=>if s= [] then ⟨.tup [.con (.slice none 0 0),.int .i64 0],[]⟩ else ⟨.tup [.sl 1 (ws.map encS),.int .i64 0],[]⟩
theorem vP (hs:s.length<4294967281):ag G 345 [.str s,.str [10]] [] ⟨.bool (decide ((10:UInt8)∈s)),[]⟩:=by
 have e:Lib.contains s [10]=decide ((10:UInt8)∈s):=by
  unfold Lib.contains;rcases sep_cases 10 s with h|⟨a,r,h,rfl⟩
  ·rw[ow 10 s h];simp[h]
  ·rw[qp 10 a r h];simp
 rw[<-e];show nI [.str s,.str [10]] []=_
 exact Ac hs
theorem Ef (hs:s.length<4294967281):ag G 249 [.str s,.str [32]] [] ⟨.sl 1 ((Lib.split s [32]).map encS),[]⟩:=by
 show rk [.str s,.str [32]] []=_
 exact Ac ⟨hs,by simp⟩
theorem Vq (w:Bs):aM (encS w)=true:=rfl
@[simp] theorem Ii (l:List Bs):ab (l.map encS)=true:=nt Vq l
theorem sI (l:List Bs)(hl:l.length<2^40)(ln:Int)(hln:ln=l.length): ∀(rest done:List Bs)(T:TV)(H:az)(c:Nat)(n:Int)(e:l=done++rest)(hn:n=done.length),Ev G ⟨U9,⟨(13,.sl 1 (l.map encS))::(14,.int .i64 ln)::(15,.int .i64 n)::(4,.sl 1 (l.map encS))::T,H,c⟩,[.t 2,.t 3],0⟩ (bif rest.any (λw=>w== []) then ⟨.tup [.con (.slice none 0 0),.int .i64 2],[]⟩ else ⟨.tup [.sl 1 (l.map encS),.int .i64 0],[]⟩)
 | [],done,  T,H,c,n,e,hn=>by
  have hd:=md0 e;have hll:=ml l encS;have hpu:(AV.tup [.sl 1 (l.map encS),.int .i64 0]).pure=true:=by simp[AV.pure,aM]
  refine evA ?_
  first|refine Vk (And.intro hpu ?_)|refine Oo (And.intro hpu ?_)
  rfl
 |x::r,done,  T,H,c,n,e,hn=>by
  have hd:=md e;have hll:=ml l encS;have hx:=mx encS e hn;rw[List.any_cons]
  by_cases hz:x= []
  ·subst hz
   refine evl ?_
   repeat' (first|refine bp ?_|apply ae<;>intro h)
   refine ap ?_;rfl
  ·have hz2:(x==([]:List UInt8))=false:=by simpa using hz
   have zf: ∀{kv:AV->Prop},kv (.bool false)-> ∃v,bm .eql (.str x) (.str [])=some v/\kv v:=λh=>⟨_,by show some (AV.bool (x== []))=_;rw[hz2],h⟩
   rw[hz2,Bool.false_or];refine evl ?_
   repeat' ((conv=>whnf);first|refine zf ?_|refine aq ?_|apply ae<;>intro h)
   refine au [13,14,15,4] [] ?_;exact sI l  hl ln hln r (done++[x])  _ _ _ (n+1) (by simp[e]) (by simp[hn]<;>omega)
theorem words_gives339 (hs:s.length<4294967281):ag G 339 [.str s] [] (wrR s):=by
 unfold wrR wordsS
 by_cases h0:s= []
 ·subst h0
  rw[Ac rfl];refine gvC (F:=BN) ?_
  repeat' (first|refine bp ?_|apply ae<;>intro h)
  refine ap ?_;rfl
 ·have hz2:(s==([]:List UInt8))=false:=by simpa using h0
  have zf: ∀{kv:AV->Prop},kv (.bool false)-> ∃v,bm .eql (.str s) (.str [])=some v/\kv v:=λh=>⟨_,by show some (AV.bool (s== []))=_;rw[hz2],h⟩
  have hc:=vP s hs;rw[Aa h0]
  by_cases h1:(10:UInt8)∈s
  ·rw[Ac h1]
   rw[Ak h1] at hc;refine gvC (F:=BN) ?_
   repeat' ((conv=>whnf);first|refine zf ?_|refine aq ?_|apply ae<;>intro h)
   refine ap ?_;rfl
  ·rw[Aa h1]
   rw[Al h1] at hc;have hp:=Ef s hs
   have hln:(Lib.split s [32]).length<2^40:=by
    have:=Lib.count_le s [32]
    have h2:(Lib.split s [32]).length<=Lib.count s [32]+1:=by
     have:=Lib.splitB_length_le ⟨[32].toArray⟩ 0 (Lib.count s [32]) ⟨s.toArray⟩;have e:=congrArg List.length (Lib.splitB_data ⟨[32].toArray⟩ 0 (Lib.count s [32]) ⟨s.toArray⟩);have e2:(Lib.splitB ⟨[32].toArray⟩ 0 (Lib.count s [32]) ⟨s.toArray⟩).length=(Lib.splitK [32] 0 (Lib.count s [32]) s).length:=by simpa using e
     unfold Lib.split;omega
    omega
   have hm:([]∈Lib.split s [32])↔ (Lib.split s [32]).any (λw=>w== [])=true:=by simp
   generalize Lib.split s [32]=l at*;have hpu:(AV.sl 1 (l.map encS)).pure=true:=by simp[AV.pure]
   have key:=sI l hln ((l.map encS).length:Int) (by simp) l []
   have hr:(match (if []∈l then none else some l) with
    |none=>(⟨.tup [.con (.slice none 0 0),.int .i64 2],[]⟩:Ret)
    |some ws=>if s= [] then ⟨.tup [.con (.slice none 0 0),.int .i64 0],[]⟩ else ⟨.tup [.sl 1 (ws.map encS),.int .i64 0],[]⟩)=(bif l.any (λw=>w== []) then ⟨.tup [.con (.slice none 0 0),.int .i64 2],[]⟩ else ⟨.tup [.sl 1 (l.map encS),.int .i64 0],[]⟩):=by
    by_cases hq: []∈l
    ·rw[Ac hq,hm.1 hq];rfl
    ·rw[Aa hq]
     have:l.any (λw=>w== [])=false:=by rw[Bool.eq_false_iff];exact λq=>hq (hm.2 q)
     rw[this];simp only[Aa h0];rfl
   rw[hr];refine gvC (F:=BN) ?_
   repeat' ((conv=>whnf);first|refine zf ?_|refine zx hp ?_ (by rfl) hpu|refine aq ?_|apply ae<;>intro h)
   refine au [13,14,15,4] [] ?_;exact key _ _ _ 0 rfl rfl
end
def txR (r:PRule):Ret:=if gn r=0 then ⟨.tup [.str (rtext r),.int .i64 0],[]⟩ else ⟨.tup [.str [],.int .i64 (gn r)],[]⟩
theorem F9 {x:Int}(h0:0<=x)(h1:x<=32): ∃k:Nat,x=k/\k<=32:=⟨x.toNat,by omega,by omega⟩
theorem sJ (r:PRule)(h:r.ok):ag G 332 [.agg r.enc] [] (txR r):=by
 have hc:=KJ r h;unfold txR
 by_cases h0:gn r=0
 ·rw[h0] at hc
  obtain ⟨v,m1,m2,m3,m0⟩:=chk_zero h0;rw[Ac h0];have ht:=D9 r.pfx h.pfx;rw[Ac v] at ht;obtain ⟨_,hx⟩:=o9 h.pfx.addr;have hl:=CX (n:=r.pfx.len.toNat) hx (by omega)
  obtain ⟨a,ea,ha⟩:=F9 (x:=r.min) (by omega) (by omega)
  obtain ⟨b,eb,hb⟩:=F9 (x:=r.max) (by omega) (by omega)
  have d1:=dec_gives337 (n:=a) (by omega)
  have d2:=dec_gives337 (n:=b) (by omega)
  have l1:=itoa_len (n:=a) (by omega)
  have l2:=itoa_len (n:=b) (by omega)
  clear h h0 v hx m0 m1 m2 m3;unfold rtext rtail rng;obtain ⟨p,⟨x,n⟩,mn,mx⟩:=r;simp only at*;subst ea eb;generalize ptext x.toNat n.toNat=t at*;generalize am (a:Int)=ta at*;generalize am (b:Int)=tb at*
  by_cases e1:(a:Int)=n
  ·by_cases e2:(b:Int)=n
   ·cases p
    ·refine gvC (F:=sw) ?_
     repeat' (first|refine bp ?_|apply ae<;>intro h)
     refine ap ?_;simp[io,wDeny,e1,e2]
    ·refine gvC (F:=sw) ?_
     repeat' (first|refine bp ?_|apply ae<;>intro h)
     refine ap ?_;simp[io,wPermit,e1,e2]
   ·cases p
    ·refine gvC (F:=sw) ?_
     repeat' (first|refine bp ?_|apply ae<;>intro h)
     refine ap ?_;simp[io,wDeny,e2]
    ·refine gvC (F:=sw) ?_
     repeat' (first|refine bp ?_|apply ae<;>intro h)
     refine ap ?_;simp[io,wPermit,e2]
  ·cases p
   ·refine gvC (F:=sw) ?_
    repeat' (first|refine bp ?_|apply ae<;>intro h)
    refine ap ?_;simp[io,wDeny,e1]
   ·refine gvC (F:=sw) ?_
    repeat' (first|refine bp ?_|apply ae<;>intro h)
    refine ap ?_;simp[io,wPermit,e1]
 ·rw[Aa h0]
  generalize gn r=k at*;exact gvA (F:=sw)
theorem DZ (r:PRule)(h:r.ok):ag G 333 [.agg r.enc] [] (txR r):=by
 have hc:=KH r h;unfold txR
 by_cases h0:gn r=0
 ·rw[h0] at hc
  obtain ⟨v,m1,m2,m3,m0⟩:=chk_zero h0;rw[Ac h0];have ht:=D8 r.pfx h.pfx;rw[Ac v] at ht;obtain ⟨_,hx⟩:=o9 h.pfx.addr;have hl:=CX (n:=r.pfx.len.toNat) hx (by omega)
  obtain ⟨a,ea,ha⟩:=F9 (x:=r.min) (by omega) (by omega)
  obtain ⟨b,eb,hb⟩:=F9 (x:=r.max) (by omega) (by omega)
  have d1:=dec_gives338 (n:=a) (by omega)
  have d2:=dec_gives338 (n:=b) (by omega)
  have l1:=itoa_len (n:=a) (by omega)
  have l2:=itoa_len (n:=b) (by omega)
  clear h h0 v hx m0 m1 m2 m3;unfold rtext rtail rng;obtain ⟨p,⟨x,n⟩,mn,mx⟩:=r;simp only at*;subst ea eb;generalize ptext x.toNat n.toNat=t at*;generalize am (a:Int)=ta at*;generalize am (b:Int)=tb at*
  by_cases e1:(a:Int)=n
  ·by_cases e2:(b:Int)=n
   ·cases p
    ·refine gvC (F:=sv) ?_
     repeat' (first|refine bp ?_|apply ae<;>intro h)
     refine ap ?_;simp[io,wDeny,e1,e2]
    ·refine gvC (F:=sv) ?_
     repeat' (first|refine bp ?_|apply ae<;>intro h)
     refine ap ?_;simp[io,wPermit,e1,e2]
   ·cases p
    ·refine gvC (F:=sv) ?_
     repeat' (first|refine bp ?_|apply ae<;>intro h)
     refine ap ?_;simp[io,wDeny,e2]
    ·refine gvC (F:=sv) ?_
     repeat' (first|refine bp ?_|apply ae<;>intro h)
     refine ap ?_;simp[io,wPermit,e2]
  ·cases p
   ·refine gvC (F:=sv) ?_
    repeat' (first|refine bp ?_|apply ae<;>intro h)
    refine ap ?_;simp[io,wDeny,e1]
   ·refine gvC (F:=sv) ?_
    repeat' (first|refine bp ?_|apply ae<;>intro h)
    refine ap ?_;simp[io,wPermit,e1]
 ·rw[Aa h0]
  generalize gn r=k at*;exact gvA (F:=sv)
theorem um (c:UInt8): ∀(l:CF)(w:B5),w∈l->w.length<=(yN c l).length
 | [],_,h=>by simp at h
 | [x], w, h => by obtain rfl:w=x:=by simpa using h
                   exact A7 _
 |x::y::r,w,h=>by
  simp only[yN,Ao,Ar];rcases AI.1 h with rfl|h
  ·omega
  ·have:=um c (y::r) w h;omega
section
variable (s:B5)
theorem Tp (w:B5)(h:w∈Lib.split s [46]):w.length<=s.length:=by
 have:=um 46 _ w h;rwa [ov 46 s.length s (A7 _)] at this
theorem pad_gives231 (hs:s.length<4294967281):ag G 231 [.str s] [] (okA (paP s)):=by
 have hp:=zX s hs;have hw: ∀w∈Lib.split s [46],w.length<2^40:=λw h=>by have:=Tp s w h;omega
 unfold paP;generalize Lib.split s [46]=l at*;have hll:=ml l encS;have hpu:(AV.sl 1 (l.map encS)).pure=true:=nt (λ_=>rfl) l
 by_cases h4:l.length=4
 ·rw[Ac h4]
  refine gvC (F:=JP) ?_
  repeat' ((conv=>whnf);first|refine zx hp ?_ (by rfl) hpu|refine aq ?_|apply ae<;>intro h)
  refine au [15,16,17,5] [] ?_;exact yz l h4 hw (by omega) _ (by simp) l [] 0 _ _ _ 0 rfl rfl (by simp)
 ·rw[Aa h4]
  refine gvC (F:=JP) ?_
  repeat' ((conv=>whnf);first|refine zx hp ?_ (by rfl) hpu|refine aq ?_|apply ae<;>intro h)
  refine ap ?_;rfl
def pfR (x:Pfx×Int):Ret:=⟨.tup [.agg x.1.enc,.int .i64 x.2],[]⟩
theorem Kj (hs:s.length<4294967281):ag G 252 [.str s,.str [47]] [] ⟨.tup [.str (Lib.cut s [47]).1,.str (Lib.cut s [47]).2.1,.bool (Lib.cut s [47]).2.2],[]⟩:=by
 show IU [.str s,.str [47]] []=_
 exact Ac hs
theorem ady:(Lib.cut s [47]).1.length<=s.length/\(Lib.cut s [47]).2.1.length<=s.length:=by
 unfold Lib.cut;split
 ·simp;omega
 ·simp
theorem TW {x:Nat}{n:Int}(hx:x<4294967296)(h0:0<=n)(h1:n<=32):Pfx.ok ⟨(x:Int),n⟩:=⟨by unfold okU;simp only;omega,by unfold okI;simp only;omega⟩
theorem parse_gives233 (hs:s.length<4294967281):ag G 233 [.str s] [] (pfR (psP s)):=by
 have hc:=Kj s hs;obtain ⟨hl1,hl2⟩:=ady s;unfold psP;generalize Lib.cut s [47]=q at*;obtain ⟨l,r,f⟩:=q;simp only at hc hl1 hl2⊢;have hp:=pad_gives231 l (by omega)
 have hn:=qj r 32 (by omega)
 rcases paP_all l with ea|⟨x,hx,_,ea⟩
 ·rw[ea] at hp⊢
  rw[Ac (.inr (.inl (by simp only;decide)))]
  cases f
  ·refine gvB (F:=uB) ?_
   refine ap ?_;(conv=>whnf);refine Go.AM.finC ?_;rfl
  ·refine gvB (F:=uB) ?_
   refine ap ?_;(conv=>whnf);refine Go.AM.finC ?_;rfl
 ·rw[ea] at hp⊢
  cases f
  ·rw[Ac (.inl rfl)]
   refine gvB (F:=uB) ?_;refine ap ?_;(conv=>whnf);refine Go.AM.finC ?_;rfl
  ·cases hb:mQ 32 r
   ·rw[hb] at hn
    rw[Ac (.inr (.inr rfl))];refine gvB (F:=uB) ?_;refine ap ?_;(conv=>whnf);refine Go.AM.finC ?_;rfl
   ·rw[hb] at hn
    obtain ⟨k,hk,_,hv⟩:=sg hb;rw[hv] at hn⊢;rw[Aa (by simp),psV,Int.toNat_natCast]
    have vv:=jS ⟨(x:Int),(k:Int)⟩ (TW hx (by omega) hk)
    cases hvp:bu ⟨(x:Int),(k:Int)⟩
    ·rw[hvp] at vv
     rw[Aa (by simp)]
     refine gvB (F:=uB) ?_;refine ap ?_;(conv=>whnf);refine Go.AM.finC ?_;rfl
    ·rw[hvp] at vv
     rw[Ac rfl];refine gvB (F:=uB) ?_;refine ap ?_;(conv=>whnf);refine Go.AM.finC ?_;rfl
def prR5 (x:PRule×Int):Ret:=⟨.tup [.agg x.1.enc,.int .i64 x.2],[]⟩
theorem L9 (w:B5)(h:w∈Lib.split s [32]):w.length<=s.length:=by
 have:=um 32 _ w h;rwa [ov 32 s.length s (A7 _)] at this
theorem SU {s:B5}{ws:CF}(h:wordsS s=some ws): ∀w∈ws,w.length<=s.length:=by
 intro w hw;unfold wordsS at h;split at h
 ·grind
 ·split at h
  ·cases h
  ·split at h
   ·cases h
   ·obtain rfl:=Ad h
    exact L9 s w hw
theorem fNum_ok (most:Int)(s:B5)(h0:0<=most):0<=(fNum most s).1/\(fNum most s).1<=most:=by
 grind [fNum]
theorem acY:okI (lenS s).1/\okI (lenS s).2.1:=by
 unfold lenS;split
 ·have h1:=fNum_ok 32 (s.takeWhile (· !=45)) (by omega)
  have h2:=fNum_ok 32 ((s.dropWhile (· !=45)).drop 1) (by omega)
  grind [okI]
 grind [okI]
end
section
variable {kv:AV->Prop}
theorem zNeT {a:B5}(h:kv (.bool false)): ∃v,bm .neq (.str a) (.str a)=some v/\kv v:=⟨.bool false,by show some (AV.bool (a !=a))=_;simp,h⟩
theorem zNeF {a b:B5}(n:a≠b)(h:kv (.bool true)): ∃v,bm .neq (.str a) (.str b)=some v/\kv v:=⟨.bool true,by show some (AV.bool (a !=b))=_;simp[n],h⟩
end
theorem parse_gives334 (s:B5)(hs:s.length<4294967281):ag G 334 [.str s] [] (prR5 (plP s)):=by
 have hw:=words_gives339 s hs;unfold wrR at hw;unfold plP;cases hq:wordsS s with
 |none=>
  rw[hq] at hw;simp only[Option.bind_none] at hw⊢;refine gvB (F:=j8) ?_;refine ap ?_;(conv=>whnf);refine Go.AM.finC ?_;rfl
 |some ws=>
  rw[hq] at hw;have hlen:=SU hq;simp only[Option.bind_some] at hw⊢
  by_cases hn:s= []
  ·rw[Ac hn] at hw
   have:ws= []:=by rw[hn] at hq;simpa[wordsS] using hq.symm
   subst this;refine gvB (F:=j8) ?_;refine ap ?_;(conv=>whnf);refine Go.AM.finC ?_;rfl
  ·rw[Aa hn] at hw
   match ws,hlen,hw with
   | [],hlen,hw=>
    refine gvB (F:=j8) ?_;refine ap ?_;(conv=>whnf);refine Go.AM.finC ?_;rfl
   | [v],hlen,hw=>
    refine gvB (F:=j8) ?_;refine ap ?_;(conv=>whnf);refine Go.AM.finC ?_;rfl
   | [v,p],hlen,hw=>
    have hp:=parse_gives233 p (by have:=hlen p (by simp);omega)
    have hok:=psP_ok (s:=p);unfold plW;rcases hpp:psP p with ⟨q,e⟩
    rw[hpp] at hp hok;simp only[hpp] at hok⊢
    by_cases e0:e=0
    ·subst e0
     rw[Ac rfl];have ho:=hok rfl;obtain ⟨pv,hpv⟩: ∃b,b=(v==wPermit):=⟨_,rfl⟩
     have zv: ∀{kv:AV->Prop},kv (.bool pv)-> ∃x,bm .eql (.str v) (.str wPermit)=some x/\kv x:=λh=>⟨_,by show some (AV.bool (v==wPermit))=_;rw[<-hpv],h⟩
     rw[<-hpv];have ht:=sJ ⟨pv,q,q.len,q.len⟩ ⟨ho,ho.len,ho.len⟩;unfold txR at ht;simp only
     by_cases hc:gn ⟨pv,q,q.len,q.len⟩=0
     ·rw[Ac hc] at ht
      by_cases hx:rtext ⟨pv,q,q.len,q.len⟩=s
      ·rw[Ac ⟨hc,hx⟩]
       rw[hx] at ht;refine gvC (F:=j8) ?_
       repeat' ((conv=>whnf);first|refine zv ?_|refine zNeT ?_|refine aq ?_|apply ae<;>intro h)
       refine ap ?_;(conv=>whnf);refine Go.AM.finC ?_;rfl
      ·rw[Aa (λh=>hx h.2)]
       generalize rtext ⟨pv,q,q.len,q.len⟩=t at*;refine gvC (F:=j8) ?_
       repeat' ((conv=>whnf);first|refine zv ?_|refine zNeF hx ?_|refine aq ?_|apply ae<;>intro h)
       refine ap ?_;(conv=>whnf);refine Go.AM.finC ?_;rfl
     ·rw[Aa hc] at ht
      rw[Aa (λh=>hc h.1)]
      generalize gn ⟨pv,q,q.len,q.len⟩=k at*;refine gvC (F:=j8) ?_
      repeat' ((conv=>whnf);first|refine zv ?_|refine aq ?_|apply ae<;>intro h)
      refine ap ?_;(conv=>whnf);refine Go.AM.finC ?_;rfl
    ·rw[Aa e0]
     refine gvB (F:=j8) ?_;refine ap ?_;(conv=>whnf);refine Go.AM.finC ?_;rfl
   | [v,p,l],hlen,hw=>
    have hp:=parse_gives233 p (by have:=hlen p (by simp);omega)
    have hl:=Jf l (by have:=hlen l (by simp);omega)
    have hok:=psP_ok (s:=p);have hlo:=acY l;unfold plW;unfold lnR at hl;rcases hpp:psP p with ⟨q,e⟩
    rcases hll:lenS l with ⟨a,b,o⟩
    rw[hpp] at hp hok;rw[hll] at hlo hl;simp only[hpp,hll] at hok hlo hl⊢
    by_cases e0:e=0
    ·subst e0
     rw[Ac rfl];have ho:=hok rfl;obtain ⟨pv,hpv⟩: ∃b,b=(v==wPermit):=⟨_,rfl⟩
     have zv: ∀{kv:AV->Prop},kv (.bool pv)-> ∃x,bm .eql (.str v) (.str wPermit)=some x/\kv x:=λh=>⟨_,by show some (AV.bool (v==wPermit))=_;rw[<-hpv],h⟩
     rw[<-hpv];cases o
     ·rw[Aa (by simp)]
      simp only;refine gvC (F:=j8) ?_
      repeat' ((conv=>whnf);first|refine zv ?_|refine aq ?_|apply ae<;>intro h)
      refine ap ?_;(conv=>whnf);refine Go.AM.finC ?_;rfl
     ·rw[Ac rfl]
      have ht:=sJ ⟨pv,q,a,b⟩ ⟨ho,hlo.1,hlo.2⟩;unfold txR at ht;simp only
      by_cases hc:gn ⟨pv,q,a,b⟩=0
      ·rw[Ac hc] at ht
       by_cases hx:rtext ⟨pv,q,a,b⟩=s
       ·rw[Ac ⟨hc,hx⟩]
        rw[hx] at ht;refine gvC (F:=j8) ?_
        repeat' ((conv=>whnf);first|refine zv ?_|refine zNeT ?_|refine aq ?_|apply ae<;>intro h)
        refine ap ?_;(conv=>whnf);refine Go.AM.finC ?_;rfl
       ·rw[Aa (λh=>hx h.2)]
        generalize rtext ⟨pv,q,a,b⟩=t at*;refine gvC (F:=j8) ?_
        repeat' ((conv=>whnf);first|refine zv ?_|refine zNeF hx ?_|refine aq ?_|apply ae<;>intro h)
        refine ap ?_;(conv=>whnf);refine Go.AM.finC ?_;rfl
      ·rw[Aa hc] at ht
       rw[Aa (λh=>hc h.1)]
       generalize gn ⟨pv,q,a,b⟩=k at*;refine gvC (F:=j8) ?_
       repeat' ((conv=>whnf);first|refine zv ?_|refine aq ?_|apply ae<;>intro h)
       refine ap ?_;(conv=>whnf);refine Go.AM.finC ?_;rfl
    ·rw[Aa e0]
     refine gvB (F:=j8) ?_;refine ap ?_;(conv=>whnf);refine Go.AM.finC ?_;rfl
   |v::p::l::w::r,hlen,hw=>
    have hll:((v::p::l::w::r).map encS).length=r.length+4:=by simp
    have hpl:ab ((v::p::l::w::r).map encS)=true:=Ii _;generalize (v::p::l::w::r).map encS=es at*;have hpu:(AV.tup [AV.sl 1 es,AV.int .i64 0]).pure=true:=by simp[AV.pure,aM,hpl]
    simp only[plW];refine gvC (F:=j8) ?_
    repeat' ((conv=>whnf);first|refine zx hw ?_ (by rfl) hpu|refine aq ?_|apply ae<;>intro h)
    refine ap ?_;(conv=>whnf);refine Go.AM.finC ?_;rfl
theorem parse_gives234 (s:B5)(hs:s.length<2^40):ag G 234 [.str s] [] (pfR (psR s)):=by
 have ha:=p6 s hs;rcases CG s with e|⟨x,hx,es,hl,ea⟩
 ·rw[show psR s=(⟨0,0⟩,2) from by unfold psR;rw[e,Ac (.inl (by decide))]]
  rw[e] at ha;refine gvB (F:=sx) ?_;refine ap ?_;(conv=>whnf);refine Go.AM.finC ?_;rfl
 ·have hg: ∀c:UInt8,s[((dots x).length:Int).toNat]? =some c->s[(dots x).length]? =some c:=λc h=>h
  unfold psR;rw[ea] at ha⊢;simp only[Int.toNat_natCast]
  by_cases hal:(dots x).length<s.length
  ·obtain ⟨b,hsb⟩: ∃b,s[(dots x).length]? =some b:=⟨s[(dots x).length],AF hal⟩
   have hb:s[((dots x).length:Int).toNat]? =some b:=hsb
   by_cases hz:b=47
   ·subst hz
    rw[Aa (by rintro (h|h|h);omega;omega;exact h hsb)]
    have hn:=lQ s ((dots x).length+1) 32 ((dots x).length+1) (by omega) hs (by omega) (by omega)
    rcases mF (s:=s) (a:=(dots x).length+1) (most:=32) with q|⟨n,hk,q,hd,h1,hl2⟩
    ·rw[q] at hn⊢
     rw[Ac (by simp only;omega)]
     generalize (dots x).length=d at*;refine gvC (F:=sx) ?_
     repeat' (first|refine bp ?_|apply ae<;>intro h)
     refine ap ?_;(conv=>whnf);refine Go.AM.finC ?_;rfl
    ·rw[q] at hn⊢
     simp only;generalize (dots x).length=d at*;generalize (am (n:Int)).length=d2 at*
     by_cases hto:d+1+d2=s.length
     ·rw[Aa (by omega),psV]
      have vv:=eC ⟨(x:Int),(n:Int)⟩ (TW hx (by omega) (by omega))
      cases hvp:bu ⟨(x:Int),(n:Int)⟩
      ·rw[hvp] at vv
       rw[Aa (by simp)]
       refine gvC (F:=sx) ?_
       repeat' (first|refine bp ?_|apply ae<;>intro h)
       refine ap ?_;(conv=>whnf);refine Go.AM.finC ?_;rfl
      ·rw[hvp] at vv
       rw[Ac rfl];refine gvC (F:=sx) ?_
       repeat' (first|refine bp ?_|apply ae<;>intro h)
       refine ap ?_;(conv=>whnf);refine Go.AM.finC ?_;rfl
     ·rw[Ac (by omega)]
      refine gvC (F:=sx) ?_
      repeat' (first|refine bp ?_|apply ae<;>intro h)
      refine ap ?_;(conv=>whnf);refine Go.AM.finC ?_;rfl
   ·have hz2: ¬(b.toNat:Int)=47:=by
     intro e;apply hz;apply A5.1
     show b.toNat=47
     omega
    rw[Ac (.inr (.inr (by rw[hsb];simpa using hz)))]
    generalize (dots x).length=d at*;refine gvC (F:=sx) ?_
    repeat' (first|refine bp ?_|apply ae<;>intro h)
    refine ap ?_;(conv=>whnf);refine Go.AM.finC ?_;rfl
  ·rw[Ac (.inr (.inl (by omega)))]
   generalize (dots x).length=d at*;refine gvB (F:=sx) ?_;refine ap ?_;(conv=>whnf);refine Go.AM.finC ?_;rfl
def prR6 (x:PRule×Int):Ret:=⟨.tup [.agg x.1.enc,.int .i64 x.2],[]⟩
section
variable {kv:AV->Prop}
end
def rcA (v:Bool)(p:Pfx)(mn mx:Int):B7:=[.bool v,.int .u32 p.addr,.int .i64 p.len,.int .i64 mn,.int .i64 mx]
theorem qN (s:B5)(v:Bool)(p:Pfx)(hp:p.ok)(mn:Int)(hm:0<=mn/\mn<=32)(R:Ret)(g2 g4:Nat)(X:Ds)(go: ∀(T:TV) (H:az) (c:Nat) (mx:Int),X=none->Ev G ⟨[.inLoop na,.inBlock 3,.code (.seq (.region oL false) .ret)],⟨(2,.ref 66 g2 0)::(4,.ref 68 g4 0)::(0,.str s)::T,(66,some (g2,.cells (rcA false ⟨0,0⟩ 0 0)))::(68,some (g4,.cells (rcA v p (mn+1) mx)))::H,c⟩,[.cell 2 (some 5),.t 3],0⟩ R)(hR: ∀m,X=some m->R=prR6 (⟨v,p,mn,m⟩,0)):
  ∀(f:Nat)(mx:Int)(T:TV)(H:az)(c:Nat)(hf:32-mx<f)(hx:mn<=mx/\mx<=33)(e:X=qd s v p mn f mx),
  Ev G ⟨U5,⟨(2,.ref 66 g2 0)::(4,.ref 68 g4 0)::(0,.str s)::T,(66,some (g2,.cells (rcA false ⟨0,0⟩ 0 0)))::(68,some (g4,.cells (rcA v p mn mx)))::H,c⟩,[.cell 2 (some 5),.t 3],0⟩ R
 |0,mx,T,H,c,hf,hx,e=>by
  refine evA ?_;refine au [2,4,0] [66,68] ?_;exact go _ _ _ mx e
 |f+1,mx,T,H,c,hf,hx,e=>by
  rw[qd] at e
  by_cases h1:32<mx
  ·rw[Ac h1] at e
   refine evA ?_;refine au [2,4,0] [66,68] ?_;exact go _ _ _ mx e
  ·rw[Aa h1] at e
   have ht:=DZ ⟨v,p,mn,mx⟩ ⟨hp,by unfold okI;simp only;omega,by unfold okI;simp only;omega⟩
   unfold txR at ht
   by_cases hc:gn ⟨v,p,mn,mx⟩=0
   ·rw[Ac hc] at ht
    by_cases hx2:rtext ⟨v,p,mn,mx⟩=s
    ·rw[Ac ⟨hc,hx2⟩] at e
     rw[hx2] at ht;rw[hR mx e];refine evl ?_
     repeat' (first|refine bp ?_|apply ae<;>intro h)
     refine ap ?_;(conv=>whnf);refine Go.AM.finC ?_;rfl
    ·rw[Aa (λh=>hx2 h.2)] at e
     generalize rtext ⟨v,p,mn,mx⟩=t at*;refine evl ?_
     repeat' (first|refine bp ?_|apply ae<;>intro h)
     refine au [2,4,0] [66,68] ?_;exact qN s v p hp mn hm R g2 g4 X go hR f (mx+1) _ _ _ (by omega) (by omega) e
   ·rw[Aa hc] at ht
    rw[Aa (λh=>hc h.1)] at e
    generalize gn ⟨v,p,mn,mx⟩=k at*;refine evA ?_;refine au [2,4,0] [66,68] ?_;exact qN s v p hp mn hm R g2 g4 X go hR f (mx+1) _ _ _ (by omega) (by omega) e
section
variable (s:B5)(v:Bool)
def outO (p:Pfx):Option (Int×Int)->PRule×Int
 |some (a,m)=>(⟨v,p,a,m⟩,0)
 |none=>(oe,2)
theorem wh (s:B5)(v:Bool)(p:Pfx)(hp:p.ok)(g2 g4:Nat):
  ∀(f:Nat)(mn mx:Int)(T:TV)(H:az)(c:Nat)(hf:32-mn<f)(hx:0<=mn/\mn<=33),
  Ev G ⟨UZ,⟨(2,.ref 66 g2 0)::(4,.ref 68 g4 0)::(0,.str s)::T,(66,some (g2,.cells (rcA false ⟨0,0⟩ 0 0)))::(68,some (g4,.cells (rcA v p mn mx)))::H,c⟩,[.cell 2 (some 5),.t 3],0⟩ (prR6 (outO v p (og s v p f mn)))
 |0,mn,mx,T,H,c,hf,hx=>by
  refine evA ?_;refine ap ?_;(conv=>whnf);refine Go.AM.finC ?_;rfl
 |f+1,mn,mx,T,H,c,hf,hx=>by
  rw[og]
  by_cases h1:32<mn
  ·rw[Ac h1]
   refine evA ?_;refine ap ?_;(conv=>whnf);refine Go.AM.finC ?_;rfl
  ·rw[Aa h1]
   refine evA ?_;refine au [2,4,0] [66,68] ?_;refine qN s v p hp mn (by omega) _ _ _ (qd s v p mn 40 mn) ?_ ?_ 40 mn _ _ _ (by omega) (by omega) rfl
   ·intro T H c mx e
    rw[e];exact wh s v p hp _ _ f (mn+1) mx _ _ _ (by omega) (by omega)
   ·intro m e
    rw[e];rfl
theorem ach (rest:B5):tP s v rest=if (psR (rest.takeWhile (· !=32))).2=0 then outO v (psR (rest.takeWhile (· !=32))).1 (og s v (psR (rest.takeWhile (· !=32))).1 40 (psR (rest.takeWhile (· !=32))).1.len) else (oe,2):=by
 unfold tP;split
 ·cases og s v (psR (rest.takeWhile (· !=32))).1 40 (psR (rest.takeWhile (· !=32))).1.len<;>rfl
 ·rfl
theorem Nt (rest done:B5)(hr:rest.length<2^40)(g2 g4:Nat)(n:Int)(hn:n=done.length)(ht:rest.takeWhile (· !=32)=done)(hp:List.take (n.toNat-0) (List.drop 0 rest)=done)(hnl:n<=rest.length)(T:TV)(H:az)(c:Nat):
  Ev G ⟨[.code (.seq (.region BM false) (.seq (.seq (.region BL false) (.cond (.t 56) (.seq (.region BJ false) .ret) .skip)) (.seq (.region BI false) (.seq (.seq (.region BH false) (.block 3 (.loop na))) (.seq (.region oL false) .ret)))))],⟨(6,.int .i64 n)::(2,.ref 66 g2 0)::(4,.ref 68 g4 0)::(0,.str s)::(5,.str rest)::T,(66,some (g2,.cells (rcA false ⟨0,0⟩ 0 0)))::(68,some (g4,.cells (rcA v ⟨0,0⟩ 0 0)))::H,c⟩,[.cell 2 (some 5),.t 3],0⟩ (prR6 (tP s v rest)):=by
 have hps:ag G 234 [.str (List.take (n.toNat-0) (List.drop 0 rest))] [] (pfR (psR done)):=by rw[hp];exact parse_gives234 done (by omega)
 have hok:=psR_ok (s:=done);rw[ach,ht];generalize psR done=pp at*;obtain ⟨q,e⟩:=pp;simp only at hok⊢
 by_cases e0:e=0
 ·subst e0
  rw[Ac rfl];obtain ⟨ho,hv⟩:=hok rfl;have hql:=lz hv;refine wk3 ?_
  repeat' (first|refine aW ?_|apply ae<;>intro h)
  refine au [2,4,0] [66,68] ?_;exact wh s v q ho _ _ 40 q.len 0 _ _ _ (by omega) (by omega)
 ·rw[Aa e0]
  refine wk3 ?_
  repeat' (first|refine aW ?_|apply ae<;>intro h)
  refine ap ?_;(conv=>whnf);refine Go.AM.finC ?_;rfl
theorem yg (s:B5)(v:Bool)(rest:B5)(hr:rest.length<2^40)(g2 g4:Nat):
  ∀(r done:B5)(T:TV)(H:az)(c:Nat)(n:Int)(e:rest=done++r)(hn:n=done.length)(hd:(32:UInt8)∉done),
  Ev G ⟨DE,⟨(6,.int .i64 n)::(2,.ref 66 g2 0)::(4,.ref 68 g4 0)::(0,.str s)::(5,.str rest)::T,(66,some (g2,.cells (rcA false ⟨0,0⟩ 0 0)))::(68,some (g4,.cells (rcA v ⟨0,0⟩ 0 0)))::H,c⟩,[.cell 2 (some 5),.t 3],0⟩ (prR6 (tP s v rest))
 | [],done,T,H,c,n,e,hn,hdn=>by
  have hd:=md0 e;have e2:rest=done:=by simpa using e
  refine iM (eu 1 300 _ _ _ _ ?_)
  repeat' (first|refine aW ?_|apply ae<;>intro h)
  refine au [6,2,4,0,5] [66,68] ?_;exact Nt s v rest done hr g2 g4 n hn (by rw[e2];exact tv hdn) (by rw[e2,hn];simp) (by omega) _ _ _
 |x::r,done,T,H,c,n,e,hn,hdn=>by
  have hd:=md e;have hb:=idx_at e hn
  by_cases hx:x=32
  ·subst hx
   refine iM (eu 1 300 _ _ _ _ ?_)
   repeat' (first|refine bp ?_|apply ae<;>intro h)
   refine au [6,2,4,0,5] [66,68] ?_;exact Nt s v rest done hr g2 g4 n hn (by rw[e];exact (ya hdn).1) (by rw[e,hn];simp) (by omega) _ _ _
  ·have hx2: ¬(x.toNat:Int)=32:=by
    intro q;apply hx;apply A5.1
    show x.toNat=32
    omega
   refine evl ?_
   repeat' (first|refine bp ?_|apply ae<;>intro h)
   refine au [6,2,4,0,5] [66,68] ?_;exact yg s v rest hr g2 g4 r (done++[x]) _ _ _ (n+1) (by simp[e]) (by simp[hn]) (by simp;exact ⟨hdn,λq=>hx q.symm⟩)
theorem OZ (rest rest2:B5)(hr:rest.length<2^40)(h2:rest2=rest)(g2 g4:Nat)(T:TV)(H:az)(c:Nat):
  Ev G ⟨DE,⟨(6,.int .i64 0)::(2,.ref 66 g2 0)::(4,.ref 68 g4 0)::(0,.str s)::(5,.str rest2)::T,(66,some (g2,.cells (rcA false ⟨0,0⟩ 0 0)))::(68,some (g4,.cells (rcA v ⟨0,0⟩ 0 0)))::H,c⟩,[.cell 2 (some 5),.t 3],0⟩ (prR6 (tP s v rest)):=by
 subst h2;exact yg s v rest2 hr g2 g4 rest2 [] _ _ _ 0 rfl rfl (by simp)
theorem parse_gives349 (hs:s.length<2^40):ag G 349 [.str s] [] (prR6 (refP s)):=by
 unfold refP vz;have d7:List.take (s.length-7) (List.drop 7 s)=s.drop 7:=List.take_of_length_le (by simp)
 have d5:List.take (s.length-5) (List.drop 5 s)=s.drop 5:=List.take_of_length_le (by simp)
 by_cases l7:7<s.length
 ·by_cases t7:s.take 7=wPermit++[32]
  ·rw[Ac ⟨l7,t7⟩]
   simp only;refine gvC (F:=uA) ?_
   repeat' (first|refine bp ?_|apply ae<;>intro h)
   refine au [6,2,4,0,5] [66,68] ?_;exact OZ s true (s.drop 7) _ (by simp;omega) (by first|exact d7|rfl) _ _ _ _ _
  ·rw[Aa (λh=>t7 h.2)]
   by_cases t5:s.take 5=wDeny++[32]
   ·rw[Ac ⟨by omega,t5⟩]
    simp only;refine gvC (F:=uA) ?_
    repeat' (first|refine bp ?_|apply ae<;>intro h)
    refine au [6,2,4,0,5] [66,68] ?_;exact OZ s false (s.drop 5) _ (by simp;omega) (by first|exact d5|rfl) _ _ _ _ _
   ·rw[Aa (λh=>t5 h.2)]
    simp only;refine gvC (F:=uA) ?_
    repeat' (first|refine bp ?_|apply ae<;>intro h)
    refine ap ?_;(conv=>whnf);refine Go.AM.finC ?_;rfl
 ·rw[Aa (λh=>l7 h.1)]
  by_cases l5:5<s.length
  ·by_cases t5:s.take 5=wDeny++[32]
   ·rw[Ac ⟨l5,t5⟩]
    simp only;refine gvC (F:=uA) ?_
    repeat' (first|refine bp ?_|apply ae<;>intro h)
    refine au [6,2,4,0,5] [66,68] ?_;exact OZ s false (s.drop 5) _ (by simp;omega) (by first|exact d5|rfl) _ _ _ _ _
   ·rw[Aa (λh=>t5 h.2)]
    simp only;refine gvC (F:=uA) ?_
    repeat' (first|refine bp ?_|apply ae<;>intro h)
    refine ap ?_;(conv=>whnf);refine Go.AM.finC ?_;rfl
  ·rw[Aa (λh=>l5 h.1)]
   simp only;refine gvB (F:=uA) ?_;refine ap ?_;(conv=>whnf);refine Go.AM.finC ?_;rfl
end
end Go.AM.IR.J
