/- What functions of this program give. -/
import Derived.Test.YtomphmeopjpejaaGreatDoorDataB
set_option linter.unusedSectionVars false
set_option linter.unusedVariables false
set_option linter.unusedSimpArgs false
set_option maxHeartbeats 4000000
set_option maxRecDepth 20000
namespace Go.AM.IR
section
variable (x n:Nat)
def fT:Nat:=x/ 2^ (32-n)*2^ (32-n)
def jX (n:Nat):Nat:=4294967296-2^ (32-n)
theorem sS (x n j:Nat)(hn:n<=32):(fT x n).testBit j=(decide (32-n<=j)&&x.testBit j):=by
 unfold fT;rw[Nat.testBit_mul_two_pow]
 by_cases h:32-n<=j
 ·simp only[h,decide_true,BY]
  rw[Nat.testBit_div_two_pow];congr 1;omega
 ·simp[h]
theorem YV (n:Nat)(hn:n<=32):jX n=(2^n-1)*2^ (32-n):=by
 unfold jX;rw[Nat.sub_mul,<-Nat.pow_add,show n+(32-n)=32 by omega];omega
theorem U7 (n j:Nat)(hn:n<=32):(jX n).testBit j=(decide (32-n<=j)&&decide (j<32)):=by
 rw[YV n hn,Nat.testBit_mul_two_pow,Nat.testBit_two_pow_sub_one]
 by_cases h:32-n<=j
 ·simp only[h,decide_true,BY]
  congr 1;simp;omega
 ·simp[h]
theorem abx (hx:x<4294967296)(hn:n<=32):x&&&jX n=fT x n:=by
 apply Nat.eq_of_testBit_eq;intro j;rw[Nat.testBit_and,sS x n j hn,U7 n j hn]
 by_cases hj:j<32
 ·simp[hj,Bool.and_comm]
 ·have:x.testBit j=false:=Nat.testBit_lt_two_pow (B7 hx (by rw[show 4294967296=2^32 from rfl];exact Nat.pow_le_pow_right (by omega) (by omega)))
  simp[this]
theorem we:fT x n<=x:=Nat.div_mul_le_self _ _
theorem RC (hn:n<32):fT x n|||(x/ 2^ (31-n) % 2*2^ (31-n))=fT x (n+1):=by
 apply Nat.eq_of_testBit_eq;intro j;rw[Nat.testBit_or,sS x n j (by omega),sS x (n+1) j (by omega),Nat.testBit_mul_two_pow]
 have e1: ∀q:Nat,(x/ 2^ (31-n) % 2).testBit q=(decide (q<1)&&(x/ 2^ (31-n)).testBit q):=λq=>by
  have:=Nat.testBit_mod_two_pow (x/ 2^ (31-n)) 1 q;simpa using this
 rw[e1,Nat.testBit_div_two_pow]
 by_cases h1:32-n<=j
 ·have h2:32- (n+1)<=j:=by omega
  have h3: ¬(j- (31-n)<1):=by omega
  simp[h1,h2,h3];intro _;omega
 ·by_cases h2:j=31-n
  ·subst h2
   have h3:32- (n+1)<=31-n:=by omega
   simp[h1,h3]
  ·have h3: ¬32- (n+1)<=j:=by omega
   have h4: ¬31-n<=j:=by omega
   simp[h1,h3,h4]
end
theorem RB (x:Nat)(hx:x<4294967296):fT x 0=0:=by
 unfold fT;rw[Nat.div_eq_of_lt (by simpa using hx),Nat.zero_mul]
def cj (n:Int):Nat:=if n<=0 then 0 else if n<=32 then n.toNat else 32
theorem tQ (n:Int):cj n<=32:=by
 unfold cj
 repeat' split
 all_goals omega
section
variable {k:AV->Prop}
theorem ug (r:Nat)(hr:r<4294967296):IntKind.wrap .u32 (r:Int)=(r:Int):=by
 simp[IntKind.wrap,IntKind.signed,IntKind.bits];omega
theorem uy (a:Nat)(ha:a<4294967296):(BitVec.ofInt 32 (a:Int)).toNat=a:=by
 rw[BitVec.toNat_ofInt];omega
section
variable (a b:Nat)(ha:a<4294967296)(hb:b<4294967296)
include ha hb
theorem qB:intBits .and .u32 (a:Int) (b:Int)=((a&&&b:Nat):Int):=by
 have hl:a&&&b<4294967296:=Co Nat.and_le_left ha;show IntKind.wrap .u32 (((BitVec.ofInt 32 (a:Int)&&&BitVec.ofInt 32 (b:Int)).toNat:Nat):Int)=_
 rw[BitVec.toNat_and,uy a ha,uy b hb];exact ug _ hl
theorem IZ:intBits .or .u32 (a:Int) (b:Int)=((a|||b:Nat):Int):=by
 have hl:a|||b<4294967296:=Nat.or_lt_two_pow (n:=32) ha hb;show IntKind.wrap .u32 (((BitVec.ofInt 32 (a:Int)|||BitVec.ofInt 32 (b:Int)).toNat:Nat):Int)=_
 rw[BitVec.toNat_or,uy a ha,uy b hb];exact ug _ hl
end
theorem ad3 {a b:Nat}(h:k (.int .u32 ((a&&&b:Nat):Int)))(ha:a<4294967296:=by omega)(hb:b<4294967296:=by omega): ∃v,bp .and (.int .u32 (a:Int)) (.int .u32 (b:Int))=some v/\k v:=⟨_,by show some (AV.int .u32 (intBits .and .u32 _ _))=_;rw[qB a b ha hb],h⟩
theorem agf {a b:Nat}(h:k (.int .u32 ((a|||b:Nat):Int)))(ha:a<4294967296)(hb:b<4294967296): ∃v,bp .or (.int .u32 (a:Int)) (.int .u32 (b:Int))=some v/\k v:=⟨_,by show some (AV.int .u32 (intBits .or .u32 _ _))=_;rw[IZ a b ha hb],h⟩
theorem agm {n:Nat}{j:Int}(h:k (.int .u32 ((jX n:Nat):Int)))(hj:j=32- (n:Int))(hn:n<=32): ∃v,bp .shl (.int .u32 4294967295) (.int .i64 j)=some v/\k v:=by
 refine ⟨_,?_,h⟩;show (if j<0 then none else some (AV.int .u32 (IntKind.wrap .u32 (4294967295*2^ (min j.toNat 32)))))=_
 rw[Ac (by omega),show min j.toNat 32=32-n by omega]
 have h1:(2:Nat)^ (32-n)<=2^32:=Nat.pow_le_pow_right (by omega) (by omega)
 have h2:0<(2:Nat)^ (32-n):=Nat.pow_pos (by omega)
 have e:(4294967295*2^ (32-n):Int)=((jX n:Nat):Int)+4294967296* ((2^ (32-n)-1:Nat):Int):=by
  unfold jX;have:((2^ (32-n):Nat):Int)=(2:Int)^ (32-n):=by simp
  rw[<-this];omega
 congr 2
 rw[e];have h3:jX n<4294967296:=by unfold jX;omega
 simp[IntKind.wrap,IntKind.signed,IntKind.bits];omega
theorem ad0 {x:Nat}{j:Int}(h:k (.int .u32 ((x/ 2^j.toNat:Nat):Int)))(h0:0<=j)(h1:j<=32): ∃v,bp .shr (.int .u32 (x:Int)) (.int .u64 j)=some v/\k v:=by
 refine ⟨_,?_,h⟩;show (if j<0 then none else some (AV.int .u32 ((x:Int).fdiv (2^ (min j.toNat 32)))))=_
 rw[Ac (by omega),show min j.toNat 32=j.toNat by omega]
 congr 2
 rw[Int.fdiv_eq_ediv_of_nonneg _ (by exact Int.le_of_lt (Int.pow_pos (by omega)))]
 simp
theorem age {b m:Nat}{j:Int}(h:k (.int .u32 ((b*2^m:Nat):Int)))(hj:j=m)(hm:m<32)(hb:b<2): ∃v,bp .shl (.int .u32 (b:Int)) (.int .u64 j)=some v/\k v:=by
 refine ⟨_,?_,h⟩;show (if j<0 then none else some (AV.int .u32 (IntKind.wrap .u32 ((b:Int)*2^ (min j.toNat 32)))))=_
 rw[Ac (by omega),show min j.toNat 32=m by omega]
 have h1:(2:Nat)^m<=2^31:=Nat.pow_le_pow_right (by omega) (by omega)
 have e:((b:Int)*2^m:Int)=((b*2^m:Nat):Int):=by simp
 rw[e]
 have h3:b*2^m<4294967296:=by
  have:b*2^m<=1*2^m:=A8 _ (by omega)
  omega
 congr 2
 simp only[IntKind.wrap,IntKind.signed,IntKind.bits];simp;omega
theorem ago {x:Nat}(hx:x<4294967296)(h:k (.int .u32 ((x % 2:Nat):Int))): ∃v,bp .and (.int .u32 (x:Int)) (.int .u32 1)=some v/\k v:=
 ⟨_,by
  show some (AV.int .u32 (intBits .and .u32 (x:Int) ((1:Nat):Int)))=_
  rw[qB x 1 hx (by omega),Nat.and_one_is_mod],h⟩
end
section
variable (x:Nat)(n:Int)
theorem BL:ab G 186 [.int .i64 n,.int .i64 32] [] ⟨.int .i64 (cj n:Nat),[]⟩:=by
 by_cases h0:n<=0
 ·rw[show cj n=0 from by simp[cj,h0]]
  by_cases h1:n=0
  ·subst h1
   exact gvA (F:=Bm)
  ·have h2:n<0:=by omega
   refine gvB (F:=Bm) ?_;refine au ?_;first|rfl|(simp[h2])
 ·by_cases h1:n<=32
  ·rw[show ((cj n:Nat):Int)=n from by simp[cj,h0,h1];omega]
   exact gvA (F:=Bm)
  ·rw[show cj n=32 from by simp[cj,h0,h1]]
   exact gvA (F:=Bm)
theorem Jq:ab G 184 [.int .i64 n,.int .i64 32] [] ⟨.int .i64 (cj n:Nat),[]⟩:=by
 by_cases h0:n<=0
 ·rw[show cj n=0 from by simp[cj,h0]]
  by_cases h1:n=0
  ·subst h1
   exact gvA (F:=Bn)
  ·have h2:n<0:=by omega
   refine gvB (F:=Bn) ?_;refine au ?_;first|rfl|(simp[h2])
 ·by_cases h1:n<=32
  ·rw[show ((cj n:Nat):Int)=n from by simp[cj,h0,h1];omega]
   exact gvA (F:=Bn)
  ·rw[show cj n=32 from by simp[cj,h0,h1]]
   exact gvA (F:=Bn)
theorem EW:ab G 183 [.int .i64 n] [] ⟨.int .u32 (jX (cj n):Nat),[]⟩:=by
 have hc:=BL n;have hl:=tQ n;generalize cj n=c at*;refine gvC (F:=aa0) ?_
 repeat' ((conv=>whnf);first|refine agm (n:=c) ?_ (by omega) (by omega)|refine ay ?_|apply ae<;>intro h)
 refine au ?_;rfl
theorem Fc (hx:x<4294967296):ab G 181 [.int .u32 (x:Int),.int .i64 n] [] ⟨.int .u32 (fT x (cj n):Nat),[]⟩:=by
 have hm:=EW n;have hl:=tQ n;rw[<-abx x (cj n) hx hl];have hb:jX (cj n)<4294967296:=by unfold jX;have:=Nat.pow_pos (n:=32-cj n) (show 0<2 by omega);omega
 generalize jX (cj n)=mk at*;refine gvC (F:=aa2) ?_
 repeat' ((conv=>whnf);first|refine ad3 ?_ hx hb|refine ay ?_|apply ae<;>intro h)
 refine au ?_;rfl
theorem Oc (x i:Nat)(hx:x<4294967296)(hi:i<32):ab G 185 [.int .u32 (x:Int),.int .i64 (i:Int)] [] ⟨.int .i64 (x/ 2^ (31-i) % 2:Nat),[]⟩:=by
 have he:(31- (i:Int)).toNat=31-i:=by omega
 have hd:x/ 2^ (31-i)<4294967296:=Co (Nat.div_le_self _ _) hx;have hm:x/ 2^ (31-i) % 2<2:=Nat.mod_lt _ (by omega)
 rw[<-he] at hd hm⊢;refine gvC (F:=aaZ) ?_
 repeat' ((conv=>whnf);first|refine ad0 ?_ (by omega) (by omega)|refine ago hd ?_|refine ay ?_|apply ae<;>intro h)
 refine au ?_;rfl
theorem sR (x c:Nat)(hx:x<4294967296)(hc:c<=32): ∀(d i:Nat)(T:TV)(H:aq)(ct:Nat)(hd:d+i=c),
  Ev G ⟨aa1,⟨(9,.int .i64 (i:Int))::(0,.int .u32 (x:Int))::(5,.int .u32 (fT x i:Nat))::(8,.int .i64 (c:Int))::T,H,ct⟩,[.t 4],0⟩ ⟨.int .u32 (fT x c:Nat),[]⟩
 |0,i,T,H,ct,hd=>by
  obtain rfl:i=c:=by omega
  refine evA ?_;refine au ?_;rfl
 |d+1,i,T,H,ct,hd=>by
  have ha:=Oc x i hx (by omega)
  have hb:x/ 2^ (31-i) % 2<2:=Nat.mod_lt _ (by omega)
  have hk:=RC x i (by omega)
  have hl:=we x i
  have hs:x/ 2^ (31-i) % 2*2^ (31-i)<4294967296:=by
   have h1:(2:Nat)^ (31-i)<=2^31:=Nat.pow_le_pow_right (by omega) (by omega)
   have h2:=A8 (2^ (31-i)) (show x/ 2^ (31-i) % 2<=1 by omega)
   omega
  generalize x/ 2^ (31-i) % 2=b at*;generalize hki:fT x i=ki at*;refine evl ?_
  repeat' ((conv=>whnf);first|refine age (m:=31-i) ?_ (by omega) (by omega) hb|refine agf ?_ (by omega) hs|refine ay ?_|apply ae<;>intro h)
  rw[hk];refine ag [9,0,5,8] [] ?_;exact sR x c hx hc d (i+1) _ _ _ (by omega)
theorem EZ (hx:x<4294967296):ab G 182 [.int .u32 (x:Int),.int .i64 n] [] ⟨.int .u32 (fT x (cj n):Nat),[]⟩:=by
 have hm:=Jq n;have hl:=tQ n;have h0:=RB x hx;generalize cj n=c at*;refine gvB (F:=SU) ?_;refine ag [9,0,5,8] [] ?_;have:=sR x c hx hl c 0;rw[h0] at this;exact this _ _ _ rfl
end
def bj (p:Pfx):Bool:=decide (0<=p.len/\p.len<=32/\(fT p.addr.toNat p.len.toNat:Int)=p.addr)
theorem gV (p:Pfx)(h:p.ok):ab G 178 [.agg p.enc] [] ⟨.bool (bj p),[]⟩:=by
 obtain ⟨a,n⟩:=p;obtain ⟨x,rfl⟩: ∃x:Nat,a=x:=⟨a.toNat,by have:=h.addr;unfold okU at this;simp only at this;omega⟩
 have hx:x<4294967296:=by have:=h.addr;unfold okU at this;simp only at this;omega
 have hk:=Fc x n hx;have hkl:=we x (cj n)
 by_cases hn:0<=n/\n<=32
 ·obtain ⟨n0,n1⟩:=hn
  have hc:cj n=n.toNat:=by unfold cj;repeat' split<;>omega
  rw[hc] at hk hkl
  by_cases hq:fT x n.toNat=x
  ·rw[show bj ⟨x,n⟩=true from by simp[bj,n0,n1,hq]]
   rw[hq] at hk;refine gvB (F:=Bq) ?_;refine au ?_;simp
  ·rw[show bj ⟨x,n⟩=false from by simp only[bj,AR];intro hh;exact hq (by have:=hh.2.2;simp only[Int.toNat_natCast] at this;omega)]
   have hq2: ¬((fT x n.toNat:Nat):Int)=(x:Int):=by omega
   generalize fT x n.toNat=kq at*;refine gvB (F:=Bq) ?_;refine au ?_;simp[hq2]
 ·rw[show bj ⟨x,n⟩=false from by simp[bj];omega]
  by_cases n0:0<=n
  ·have n1: ¬n<=32:=by omega
   exact gvA (F:=Bq)
  ·exact gvA (F:=Bq)
theorem dk (p:Pfx)(h:p.ok):ab G 179 [.agg p.enc] [] ⟨.bool (bj p),[]⟩:=by
 obtain ⟨a,n⟩:=p;obtain ⟨x,rfl⟩: ∃x:Nat,a=x:=⟨a.toNat,by have:=h.addr;unfold okU at this;simp only at this;omega⟩
 have hx:x<4294967296:=by have:=h.addr;unfold okU at this;simp only at this;omega
 have hk:=EZ x n hx;have hkl:=we x (cj n)
 by_cases hn:0<=n/\n<=32
 ·obtain ⟨n0,n1⟩:=hn
  have hc:cj n=n.toNat:=by unfold cj;repeat' split<;>omega
  rw[hc] at hk hkl
  by_cases hq:fT x n.toNat=x
  ·rw[show bj ⟨x,n⟩=true from by simp[bj,n0,n1,hq]]
   rw[hq] at hk;refine gvB (F:=Bp) ?_;refine au ?_;simp
  ·rw[show bj ⟨x,n⟩=false from by simp only[bj,AR];intro hh;exact hq (by have:=hh.2.2;simp only[Int.toNat_natCast] at this;omega)]
   have hq2: ¬((fT x n.toNat:Nat):Int)=(x:Int):=by omega
   generalize fT x n.toNat=kq at*;refine gvB (F:=Bp) ?_;refine au ?_;simp[hq2]
 ·rw[show bj ⟨x,n⟩=false from by simp[bj];omega]
  by_cases n0:0<=n
  ·have n1: ¬n<=32:=by omega
   exact gvA (F:=Bp)
  ·exact gvA (F:=Bp)
end Go.AM.IR
namespace Go.AM.IR.J
theorem nat_of {a:Int}(h:okU a):a=(a.toNat:Nat)/\a.toNat<4294967296:=by unfold okU at h;omega
theorem validP_len {p:Pfx}(h:bj p=true):0<=p.len/\p.len<=32:=by
 unfold bj at h;rw[AO] at h;exact ⟨h.1,h.2.1⟩
theorem Qe (p:Pfx):bj p=true↔0<=p.len/\p.len<=32/\(fT p.addr.toNat p.len.toNat:Int)=p.addr:=by unfold bj;rw[AO]
section
variable {k:Eff->Prop} {x y:Opd} {g key:Nat} {hg:Nat->C0}
end
open Go Go.AM
def dig (b:UInt8):Bool:=decide (48<=b.toNat)&&decide (b.toNat<=57)
def dval (b:UInt8):Nat:=b.toNat-48
def chk (n:Nat):Bool:=(ah n).all dig&&(decide (1<=(ah n).length)&&(decide ((ah n).length<=3)&&((ah n).length==1||(ah n).head? !=some 48)))&&(Lib.atoiAll (ah n)== .ok n)&&((ah n).foldl (λa b=>a*10+dval b) 0==n)
theorem chk_all:(List.range 256).all chk=true:=by decide+kernel
section
variable {n:Nat}(h:n<256)
include h
theorem Li:chk n=true:=List.all_eq_true.1 chk_all n (List.mem_range.2 h)
theorem Jy: ∀b∈ah n,dig b=true:=by
 have:=Li h;simp only[chk,Av] at this;exact λb hb=>List.all_eq_true.1 this.1.1.1 b hb
theorem itoa_len:1<=(ah n).length/\(ah n).length<=3:=by
 have:=Li h;simp only[chk,Av,AO] at this;exact ⟨this.1.1.2.1,this.1.1.2.2.1⟩
theorem WY:Lib.atoiAll (ah n)= .ok (n:Int):=by
 have:=Li h;simp only[chk,Av,beq_iff_eq] at this;exact this.1.2
end
theorem afK {b:UInt8}(h:dig b=true): ∃d,d<10/\b=UInt8.ofNat (48+d)/\dval b=d:=by
 unfold dig at h;simp only[Av,AO] at h
 refine ⟨dval b,by unfold dval;omega,?_,rfl⟩
 unfold dval;rw[show 48+(b.toNat-48)=b.toNat by omega];simp
theorem pq (c:UInt8): ∀(a r:CF),c∉a->Lib.index (a++c::r) [c]=a.length
 | [],r,_=>by simp[Lib.index]
 |x::a,r,h=>by
  have hx:x≠c:=λe=>h (by simp[e])
  have ih:=pq c a r (λq=>h (by simp[q]))
  rw[B4,Lib.index,ih];have h1:([c].isPrefixOf (x::(a++c::r)))=false:=by simp[List.isPrefixOf];exact λe=>hx e.symm
  rw[h1];have h2:(((a.length:Nat):Int)== -1)=false:=by rw[beq_eq_false_iff_ne];omega
  simp[h2]
theorem nI (c:UInt8): ∀(a:CF),c∉a->Lib.index a [c]= -1
 | [],_=>by simp[Lib.index]
 |x::a,h=>by
  have hx:x≠c:=λe=>h (by simp[e])
  have ih:=nI c a (λq=>h (by simp[q]))
  rw[Lib.index,ih];have h1:([c].isPrefixOf (x::a))=false:=by simp[List.isPrefixOf];exact λe=>hx e.symm
  rw[h1];rfl
theorem sep_cases (c:UInt8): ∀s:CF,c∉s∨ ∃a r,c∉a/\s=a++c::r
 | []=>.inl (by simp)
 |x::s=>by
  by_cases hx:x=c
  ·exact .inr ⟨[],s,by simp,by simp[hx]⟩
  ·rcases sep_cases c s with h|⟨a,r,h1,rfl⟩
   ·exact .inl (by simp;exact ⟨λe=>hx e.symm,h⟩)
   ·exact .inr ⟨x::a,r,by simp;exact ⟨λe=>hx e.symm,h1⟩,rfl⟩
section
variable (c:UInt8)(s:CF)
theorem BJ (a r:CF)(h:c∉a):Lib.cut (a++c::r) [c]=(a,r,true):=by
 unfold Lib.cut;rw[pq c a r h,Ad (by omega)]
 simp
theorem abc (h:c∉s):Lib.cut s [c]=(s,[],false):=by
 unfold Lib.cut;rw[nI c s h,Ac (by omega)]
theorem split_none (h:c∉s):Lib.split s [c]= [s]:=by
 unfold Lib.split;rw[Lib.count_miss (nI c s h)];rfl
theorem split_hit (a r:CF)(h:c∉a):Lib.split (a++c::r) [c]=a::Lib.split r [c]:=by
 unfold Lib.split;have hi:=pq c a r h;rw[Lib.count_hit (by simp) hi,Nat.add_comm 1,Lib.splitK,hi]
 have h2:(((a.length:Nat):Int)== -1)=false:=by rw[beq_eq_false_iff_ne];omega
 simp[h2]
def ym (c:UInt8):C5->CF
 | []=>[]
 | [x]=>x
 |x::y::r=>x++c::ym c (y::r)
theorem split_ne:Lib.split s [c]≠ []:=by
 rcases sep_cases c s with h|⟨a,r,h,rfl⟩
 ·rw[split_none c s h];simp
 ·rw[split_hit c a r h];simp
end
theorem nH (c:UInt8): ∀(n:Nat)(s:CF),s.length<=n->ym c (Lib.split s [c])=s
 |n,s,hn=>by
  rcases sep_cases c s with h|⟨a,r,h,rfl⟩
  ·rw[split_none c s h];rfl
  ·rw[split_hit c a r h]
   cases n with
   |zero=>simp at hn
   |succ n=>
    have ih:=nH c n r (by simp at hn;omega)
    cases hs:Lib.split r [c] with
    |nil=>exact absurd hs (split_ne c r)
    |cons y t=>rw[hs] at ih;simp only[ym,ih]
theorem Vc (x y z w:CF):Lib.join [x,y,z,w] [46]=x++46::(y++46::(z++46::w)):=by
 simp[Lib.join,List.intercalate]
end Go.AM.IR.J
namespace Go.AM.IR.J
theorem itoa_gives246 {n:Int}(h0: -9223372036854775808<=n)(h1:n<=9223372036854775807):ab G 246 [.int .i64 n] [] ⟨.str (ah n),[]⟩:=by
 show uw _ _=_
 exact Ad ⟨h0,h1⟩
def dots (x:Nat):CF:=ah (x/ 16777216:Nat)++46::(ah (x/ 65536 % 256:Nat)++46::(ah (x/ 256 % 256:Nat)++46::ah (x % 256:Nat)))
section
variable {k:AV->Prop} {q:IntKind}
theorem zShrC (m:Nat){x:Nat}{j:Int}(h:k (.int .u32 ((x/ m:Nat):Int)))(hm:m=2^j.toNat)(h0:0<=j)(h1:j<=32): ∃v,bp .shr (.int .u32 (x:Int)) (.int q j)=some v/\k v:=by
 subst hm;refine ⟨_,?_,h⟩;show (if j<0 then none else some (AV.int .u32 ((x:Int).fdiv (2^ (min j.toNat 32)))))=_
 rw[Ac (by omega),show min j.toNat 32=j.toNat by omega]
 congr 2
 rw[Int.fdiv_eq_ediv_of_nonneg _ (by exact Int.le_of_lt (Int.pow_pos (by omega)))]
 simp
theorem zAnd255 {x:Nat}(h:k (.int .u32 ((x % 256:Nat):Int)))(hx:x<4294967296): ∃v,bp .and (.int .u32 (x:Int)) (.int .u32 255)=some v/\k v:=
 ⟨_,by
  show some (AV.int .u32 (intBits .and .u32 (x:Int) ((255:Nat):Int)))=_
  rw[qB x 255 hx (by omega),show (255:Nat)=2^8-1 from rfl,Nat.and_two_pow_sub_one_eq_mod],h⟩
end
theorem join_gives247 (a b c d:CF)(h:a.length<=3/\b.length<=3/\c.length<=3/\d.length<=3):ab G 247 [.sl 1 [[.str a],[.str b],[.str c],[.str d]],.str [46]] [] ⟨.str (a++46::(b++46::(c++46::d))),[]⟩:=by
 have hj:=Vc a b c d;show uv [.sl 1 [[.str a],[.str b],[.str c],[.str d]],.str [46]] []=_
 show (if [a,b,c,d].length<=140737488355328/\(Lib.join [a,b,c,d] [46]).length<=140737488355328 then some (⟨.str (Lib.join [a,b,c,d] [46]),[]⟩:Ret) else none)=_
 rw[hj,Ad];simp;omega
section
variable {k:Eff->Prop} {x y:Opd} {g key:Nat} {hg:Nat->C0}
theorem Ue {kv:AV->Prop}{b:UInt8}(h:kv (.int .u8 (dval b:Nat)))(hb:48<=b.toNat): ∃v,bp .sub (.int .u8 (b.toNat:Int)) (.int .u8 48)=some v/\kv v:=by
 refine ⟨_,?_,h⟩;have hl:=b.toNat_lt;show some (AV.int .u8 (IntKind.wrap .u8 ((b.toNat:Int)-48)))=_
 unfold dval;rw[qk (by omega) (by omega),show (b.toNat:Int)-48=((b.toNat-48:Nat):Int) by omega]
end
theorem zSlarr {k:Eff->Prop}{x:Opd}{g key kk gk n:Nat}{cs:CL}{hg:Nat->C0}(h:k {res:=.vs key g n,wr:=[(key,some (g,.vec 1 (cs.map λc=>[c]))),(kk,some (g,.vec 1 []))],rd:=[kk]})(hk:hg kk=some (gk,.cells cs):=by rfl)(hn:cs.length=n:=by rfl)(hne:kk≠key:=by decide): ∃e,aX (.slarr n 1 x none none none) g key [.ref kk gk 0] hg=some e/\k e:=by
 refine ⟨_,?_,h⟩;simp[aX,ql,hk,hn,hne]
section
variable (x:Nat)(t3 t2 t1 t0 R:CF)(hx:x<4294967296)(n3:ab G 246 [.int .i64 (x/ 16777216 % 256:Nat)] [] ⟨.str t3,[]⟩)(n2:ab G 246 [.int .i64 (x/ 65536 % 256:Nat)] [] ⟨.str t2,[]⟩)(n1:ab G 246 [.int .i64 (x/ 256 % 256:Nat)] [] ⟨.str t1,[]⟩)(n0:ab G 246 [.int .i64 (x/ 1 % 256:Nat)] [] ⟨.str t0,[]⟩)(ej:ab G 247 [.sl 1 [[.str t3],[.str t2],[.str t1],[.str t0]],.str [46]] [] ⟨.str R,[]⟩)(T:TV)(H:aq)(c g:Nat)
include hx n3 n2 n1 n0 ej
theorem addr_loop4:
  Ev G ⟨iM,⟨(5,.int .i64 4)::(3,.ref 67 g 0)::(0,.int .u32 (x:Int))::T,(67,some (g,.cells [.str t3,.str t2,.str t1,.str t0]))::H,c⟩,[.t 2],0⟩ ⟨.str R,[]⟩:=by
 refine evl ?_
 repeat' ((conv=>whnf);first|refine zSlarr ?_|refine ay ?_|refine kZ [(83,_,_)] ⟨rfl,pz trivial⟩ (ej) ?_|apply ae<;>intro h)
 refine au ?_;rfl
theorem addr_loop3:
  Ev G ⟨iM,⟨(5,.int .i64 3)::(3,.ref 67 g 0)::(0,.int .u32 (x:Int))::T,(67,some (g,.cells [.str t3,.str t2,.str t1,.str []]))::H,c⟩,[.t 2],0⟩ ⟨.str R,[]⟩:=by
 refine evl ?_
 repeat' ((conv=>whnf);first|refine zShrC 1 ?_ (by rfl) (by omega) (by omega)|refine zAnd255 ?_ (by omega)|refine ay ?_|apply ae<;>intro h)
 refine ag [5,3,0] [67] ?_;exact addr_loop4 x t3 t2 t1 t0 R hx n3 n2 n1 n0 ej _ _ _ _
theorem addr_loop2:
  Ev G ⟨iM,⟨(5,.int .i64 2)::(3,.ref 67 g 0)::(0,.int .u32 (x:Int))::T,(67,some (g,.cells [.str t3,.str t2,.str [],.str []]))::H,c⟩,[.t 2],0⟩ ⟨.str R,[]⟩:=by
 refine evl ?_
 repeat' ((conv=>whnf);first|refine zShrC 256 ?_ (by rfl) (by omega) (by omega)|refine zAnd255 ?_ (by omega)|refine ay ?_|apply ae<;>intro h)
 refine ag [5,3,0] [67] ?_;exact addr_loop3 x t3 t2 t1 t0 R hx n3 n2 n1 n0 ej _ _ _ _
theorem addr_loop1:
  Ev G ⟨iM,⟨(5,.int .i64 1)::(3,.ref 67 g 0)::(0,.int .u32 (x:Int))::T,(67,some (g,.cells [.str t3,.str [],.str [],.str []]))::H,c⟩,[.t 2],0⟩ ⟨.str R,[]⟩:=by
 refine evl ?_
 repeat' ((conv=>whnf);first|refine zShrC 65536 ?_ (by rfl) (by omega) (by omega)|refine zAnd255 ?_ (by omega)|refine ay ?_|apply ae<;>intro h)
 refine ag [5,3,0] [67] ?_;exact addr_loop2 x t3 t2 t1 t0 R hx n3 n2 n1 n0 ej _ _ _ _
theorem addr_loop0:
  Ev G ⟨iM,⟨(5,.int .i64 0)::(3,.ref 67 g 0)::(0,.int .u32 (x:Int))::T,(67,some (g,.cells [.str [],.str [],.str [],.str []]))::H,c⟩,[.t 2],0⟩ ⟨.str R,[]⟩:=by
 refine evl ?_
 repeat' ((conv=>whnf);first|refine zShrC 16777216 ?_ (by rfl) (by omega) (by omega)|refine zAnd255 ?_ (by omega)|refine ay ?_|apply ae<;>intro h)
 refine ag [5,3,0] [67] ?_;exact addr_loop1 x t3 t2 t1 t0 R hx n3 n2 n1 n0 ej _ _ _ _
end
theorem addr_gives227 (x:Nat)(hx:x<4294967296):ab G 227 [.int .u32 (x:Int)] [] ⟨.str (dots x),[]⟩:=by
 have n3:=itoa_gives246 (n:=(x/ 16777216:Nat)) (by omega) (by omega)
 have n2:=itoa_gives246 (n:=(x/ 65536 % 256:Nat)) (by omega) (by omega)
 have n1:=itoa_gives246 (n:=(x/ 256 % 256:Nat)) (by omega) (by omega)
 have n0:=itoa_gives246 (n:=(x % 256:Nat)) (by omega) (by omega)
 have l3:=itoa_len (n:=x/ 16777216) (by omega)
 have l2:=itoa_len (n:=x/ 65536 % 256) (by omega)
 have l1:=itoa_len (n:=x/ 256 % 256) (by omega)
 have l0:=itoa_len (n:=x % 256) (by omega)
 have ej:=join_gives247 _ _ _ _ ⟨l3.2,l2.2,l1.2,l0.2⟩;have n3:ab G 246 [.int .i64 (x/ 16777216 % 256:Nat)] [] ⟨.str (ah (x/ 16777216:Nat)),[]⟩:=by rw[show x/ 16777216 % 256=x/ 16777216 by omega];exact n3
 have n0:ab G 246 [.int .i64 (x/ 1 % 256:Nat)] [] ⟨.str (ah (x % 256:Nat)),[]⟩:=by rw[Nat.div_one];exact n0
 refine gvB (F:=J5) ?_;refine ag [5,3,0] [67] ?_;exact addr_loop0 x _ _ _ _ _ hx n3 n2 n1 n0 ej _ _ _ _
section
variable {kv:AV->Prop} {a b:Int}
end
def okA (p:Int×Int):Ret:=⟨.tup [.int .u32 p.1,.int .i64 p.2],[]⟩
section
variable (most:Int)(s:CF)
def sE:Int:=match Lib.atoiAll s with
 | .ok v=>v
 | .range=>Lib.atoiSat s
 |_=>0
def mf:Bool:=match Lib.atoiAll s with
 | .ok v=>decide (0<=v)&&(decide (v<=most)&&(ah v==s))
 |_=>false
theorem qr {k:Nat}{most:Int}(hk:k<256)(hm:(k:Int)<=most):mf most (ah k)=true/\sE (ah k)=k:=by
 unfold mf sE;rw[WY hk];simp;omega
theorem ra {most:Int}{s:CF}(h:mf most s=true): ∃k:Nat,(k:Int)<=most/\s=ah k/\sE s=k:=by
 unfold mf at h;unfold sE;cases hr:Lib.atoiAll s
 ·rename_i v
  rw[hr] at h;simp at h;exact ⟨v.toNat,by omega,by rw[Cb h.1];exact h.2.2.symm,by simp;omega⟩
 ·rw[hr] at h;cases h
 ·rw[hr] at h;cases h
def paL:C5->Nat->Int×Int
 | [],a=>((a:Int),0)
 |w::r,a=>if mf 255 w=true then paL r (a*256+(sE w).toNat) else (0,2)
def paP:Int×Int:=if (Lib.split s [46]).length=4 then paL (Lib.split s [46]) 0 else (0,2)
theorem jV {k:Nat}(hk:k<256)(c:UInt8)(hc:dig c=false):c∉ah k:=λh=>by
 have:=Jy hk c h;rw[hc] at this;cases this
theorem paP_hit {x:Nat}(hx:x<4294967296):paP (dots x)=((x:Int),0):=by
 have e:Lib.split (dots x) [46]= [ah (x/ 16777216:Nat),ah (x/ 65536 % 256:Nat),ah (x/ 256 % 256:Nat),ah (x % 256:Nat)]:=by
  unfold dots;rw[split_hit 46 _ _ (jV (by omega) _ rfl),split_hit 46 _ _ (jV (by omega) _ rfl),split_hit 46 _ _ (jV (by omega) _ rfl),split_none 46 _ (jV (by omega) _ rfl)]
 unfold paP;rw[e,Ad (show [ah (x/ 16777216:Nat),ah (x/ 65536 % 256:Nat),ah (x/ 256 % 256:Nat),ah (x % 256:Nat)].length=4 from rfl)]
 have q3:=qr (k:=x/ 16777216) (most:=255) (by omega) (by omega)
 have q2:=qr (k:=x/ 65536 % 256) (most:=255) (by omega) (by omega)
 have q1:=qr (k:=x/ 256 % 256) (most:=255) (by omega) (by omega)
 have q0:=qr (k:=x % 256) (most:=255) (by omega) (by omega)
 rw[paL,Ad q3.1,paL,Ad q2.1,paL,Ad q1.1,paL,Ad q0.1,paL,q3.2,q2.2,q1.2,q0.2];simp only[Int.toNat_natCast];refine Prod.ext ?_ rfl;simp only;omega
theorem OT: ∀(l:C5)(a:Nat),paL l a=(0,2)∨ ∃ks:CT,(∀k∈ks,k<256)/\l=ks.map (λk:Nat=>ah (k:Int))/\paL l a=(((ks.foldl (λa k=>a*256+k) a:Nat):Int),0)
 | [],a=>.inr ⟨[],by simp,rfl,rfl⟩
 |w::r,a=>by
  by_cases h:mf 255 w=true
  ·obtain ⟨k,hk,e,hv⟩:=ra (most:=255) h
   rw[paL,Ad h,hv,Int.toNat_natCast];rcases OT r (a*256+k) with q|⟨ks,h1,h2,h3⟩
   ·exact .inl q
   ·exact .inr ⟨k::ks,by intro j hj;rcases AL.1 hj with rfl|hj;omega;exact h1 j hj,by rw[h2,e];rfl,by rw[h3];rfl⟩
  ·left;rw[paL,Ac h]
theorem OQ:paP s=(0,2)∨ ∃x:Nat,x<4294967296/\s=dots x/\paP s=((x:Int),0):=by
 by_cases hl:(Lib.split s [46]).length=4
 ·unfold paP
  rw[Ad hl];rcases OT (Lib.split s [46]) 0 with q|⟨ks,h1,h2,h3⟩
  ·exact .inl q
  ·right
   rw[h3];have hj:=nH 46 s.length s (Be _);rw[h2] at hl hj
   match ks,h1,hl,hj with
   | [k0,k1,k2,k3],h1,_,hj=>
    have b0:=h1 k0 (by simp)
    have b1:=h1 k1 (by simp)
    have b2:=h1 k2 (by simp)
    have b3:=h1 k3 (by simp)
    have hx:(((0*256+k0)*256+k1)*256+k2)*256+k3<4294967296:=by omega
    refine ⟨_,hx,?_,rfl⟩;rw[<-hj];unfold dots
    rw[show ((((0*256+k0)*256+k1)*256+k2)*256+k3)/ 16777216=k0 by omega,show ((((0*256+k0)*256+k1)*256+k2)*256+k3)/ 65536 % 256=k1 by omega,
     show ((((0*256+k0)*256+k1)*256+k2)*256+k3)/ 256 % 256=k2 by omega,show ((((0*256+k0)*256+k1)*256+k2)*256+k3) % 256=k3 by omega]
    rfl
   | [],_,hl,_=>simp at hl
   | [_],_,hl,_=>simp at hl
   | [_,_],_,hl,_=>simp at hl
   | [_,_,_],_,hl,_=>simp at hl
   |_::_::_::_::_::_,_,hl,_=>simp at hl
 ·left;unfold paP;rw[Ac hl]
def psV (x:Nat)(n:Int):Pfx×Int:=if bj ⟨(x:Int),n⟩=true then (⟨(x:Int),n⟩,0) else (⟨0,0⟩,1)
def psP:Pfx×Int:=
 if (Lib.cut s [47]).2.2=false∨ ¬(paP (Lib.cut s [47]).1).2=0∨mf 32 (Lib.cut s [47]).2.1=false then (⟨0,0⟩,2)
 else psV (paP (Lib.cut s [47]).1).1.toNat (sE (Lib.cut s [47]).2.1)
theorem UR {x:Nat}(hx:x<4294967296):(47:UInt8)∉dots x:=by
 unfold dots;have h3:=jV (k:=x/ 16777216) (by omega) 47 rfl
 have h2:=jV (k:=x/ 65536 % 256) (by omega) 47 rfl
 have h1:=jV (k:=x/ 256 % 256) (by omega) 47 rfl
 have h0:=jV (k:=x % 256) (by omega) 47 rfl
 simp only[B5,AL,not_or];exact ⟨h3,by decide,h2,by decide,h1,by decide,h0⟩
def ptext (x n:Nat):CF:=dots x++47::ah n
theorem OE {x n:Nat}(hx:x<4294967296)(hn:n<=32):psP (ptext x n)=psV x n:=by
 unfold psP ptext;have q:=qr (k:=n) (most:=32) (by omega) (by omega)
 rw[BJ 47 _ _ (UR hx),Ac]
 ·simp only
  rw[paP_hit hx,q.2];simp
 ·simp only
  rw[paP_hit hx]
  rintro (e|e|e)
  ·cases e
  ·exact e rfl
  ·rw[q.1] at e;cases e
theorem acK:psP s=(⟨0,0⟩,2)∨ ∃x n:Nat,x<4294967296/\n<=32/\s=ptext x n/\psP s=psV x n:=by
 rcases sep_cases 47 s with h|⟨a,r,h,e⟩
 ·left;unfold psP;rw[abc 47 s h,Ad (.inl rfl)]
 ·rcases OQ a with q|⟨x,hx,ea,q⟩
  ·left;unfold psP;rw[e,BJ 47 a r h,Ad (.inr (.inl (by simp only;rw[q];decide)))]
  ·cases hb:mf 32 r
   ·left;unfold psP;rw[e,BJ 47 a r h,Ad (.inr (.inr hb))]
   ·obtain ⟨n,hn,er,hv⟩:=ra (most:=32) hb
    right
    refine ⟨x,n,hx,by omega,by rw[e,ea,er];rfl,?_⟩
    rw[e,ea,er];exact OE hx (by omega)
end
def errT:Nat:=273
section
variable {k:Eff->Prop} {x y:Opd} {g key:Nat} {hg:Nat->C0} {ka kb:IntKind} {a b:Int} {kv:AV->Prop}
end
section
variable {kv:AV->Prop}
theorem Xd {a b:CF}(h:kv (.bool (a==b))): ∃v,bp .eql (.str a) (.str b)=some v/\kv v:=⟨_,rfl,h⟩
end
theorem dots_len {x:Nat}(hx:x<4294967296):(dots x).length<=15:=by
 have l3:=itoa_len (n:=x/ 16777216) (by omega)
 have l2:=itoa_len (n:=x/ 65536 % 256) (by omega)
 have l1:=itoa_len (n:=x/ 256 % 256) (by omega)
 have l0:=itoa_len (n:=x % 256) (by omega)
 unfold dots;simp only[Ar,As];omega
theorem FD (s:CF)(hs:s.length<2^40):ab G 263 [.str s] [] (FU errT s):=by
 show xX errT [.str s] []=_
 exact Ad (by omega)
theorem pg (s:CF)(most:Int)(hs:s.length<2^40):ab G 250 [.str s,.int .i64 most] [] ⟨.tup [.int .i64 (sE s),.bool (mf most s)],[]⟩:=by
 have ha:=FD s hs;unfold FU at ha;unfold sE mf;cases hr:Lib.atoiAll s
 ·rename_i v
  rw[hr] at ha;simp only at ha⊢;obtain ⟨b0,b1⟩:=Lib.atoiAll_bounds hr;have hi:=itoa_gives246 b0 b1;generalize ah v=t at*
  by_cases h0:0<=v
  ·by_cases h1:v<=most
   ·refine gvC (F:=wO) ?_
    repeat' ((conv=>whnf);first|refine Xd ?_|refine ay ?_|apply ae<;>intro h)
    refine au ?_;simp[h0,h1]
   ·refine gvC (F:=wO) ?_
    repeat' ((conv=>whnf);first|refine Xd ?_|refine ay ?_|apply ae<;>intro h)
    refine au ?_;simp[h0,h1]
  ·refine gvC (F:=wO) ?_
   repeat' ((conv=>whnf);first|refine Xd ?_|refine ay ?_|apply ae<;>intro h)
   refine au ?_;simp[h0]
 ·rw[hr] at ha
  simp only at ha⊢;exact gvA (F:=wO)
 ·rw[hr] at ha
  simp only at ha⊢;exact gvA (F:=wO)
theorem text_gives229 (p:Pfx)(h:p.ok):ab G 229 [.agg p.enc] [] ⟨.str (if bj p=true then ptext p.addr.toNat p.len.toNat else []),[]⟩:=by
 obtain ⟨e,hx⟩:=nat_of h.addr;have hv:=gV p h;have ha:=addr_gives227 p.addr.toNat hx;have hd:=dots_len hx;rw[<-e] at ha;cases hvp:bj p
 ·rw[hvp] at hv
  rw[Ac (by simp)]
  exact gvA (F:=Bj)
 ·rw[hvp] at hv
  obtain ⟨n0,n1⟩:=validP_len hvp;have hi:=itoa_gives246 (n:=p.len) (by omega) (by omega)
  have hil:=itoa_len (n:=p.len.toNat) (by omega)
  rw[Cb n0] at hil;rw[Ad rfl,ptext,Cb n0];generalize ah p.len=t at*;generalize dots p.addr.toNat=d at*;refine gvC (F:=Bj) ?_
  repeat' (first|refine bz ?_|apply ae<;>intro h)
  refine au ?_;simp
theorem pvalid (p:Pfx)(h:p.ok)(v:bj p=true):psP (ptext p.addr.toNat p.len.toNat)=(p,0):=by
 obtain ⟨e,hx⟩:=nat_of h.addr;obtain ⟨n0,n1⟩:=validP_len v;rw[OE hx (by omega),psV,<-e,Cb n0,Ad v]
theorem ptext_len {x n:Nat}(hx:x<4294967296)(hn:n<=32):(ptext x n).length<=19:=by
 have:=dots_len hx;have:=itoa_len (n:=n) (by omega)
 unfold ptext;simp only[Ar,As];omega
structure PRule where
 permit:Bool
 pfx:Pfx
 min:Int
 max:Int
 deriving DecidableEq
def PRule.enc (r:PRule):List AV:=[.bool r.permit,.int .u32 r.pfx.addr,.int .i64 r.pfx.len,.int .i64 r.min,.int .i64 r.max]
structure PRule.ok (r:PRule):Prop where
 pfx:r.pfx.ok
 min:okI r.min
 max:okI r.max
def kU (r:PRule):Int:=if bj r.pfx=true then (if r.min<r.pfx.len∨r.max<r.min∨r.max>32 then 5 else 0) else 1
theorem KW {r:PRule}(h:kU r=0):bj r.pfx=true/\r.pfx.len<=r.min/\r.min<=r.max/\r.max<=32/\0<=r.pfx.len:=by
 unfold kU at h;split at h
 ·rename_i v
  obtain ⟨a,b⟩:=(Qe r.pfx).1 v;split at h
  ·cases h
  ·exact ⟨v,by omega,by omega,by omega,a⟩
 ·cases h
def wPermit:List UInt8:=[112,101,114,109,105,116]
def wDeny:List UInt8:=[100,101,110,121]
def lq (b:Bool):List UInt8:=bif b then wPermit else wDeny
def rng (a b:Int):List UInt8:=ah a++45::ah b
def rtail (r:PRule):List UInt8:=if r.min≠r.pfx.len∨r.max≠r.pfx.len then 32::rng r.min r.max else []
def rtext (r:PRule):List UInt8:=lq r.permit++32::(ptext r.pfx.addr.toNat r.pfx.len.toNat++rtail r)
def abF:PRule:=⟨false,⟨0,0⟩,0,0⟩
section
variable (most:Int)(s:List UInt8)
def canon:Bool:=match s with
 | []=>false
 |b::r=> !(decide (r≠ [])&&decide (b=48))&&(b::r).all dig
def foldN:List UInt8->Nat->Option Nat
 | [],n=>some n
 |b::r,n=>if n>(9223372036854775807-dval b)/ 10 then none else foldN r (10*n+dval b)
def fNum:Int×Int:=if canon s=true then (match foldN s 0 with
 |none=>(0,5)
 |some n=>if (n:Int)>most then (0,5) else ((n:Int),0)) else (0,2)
def chkF (n:Nat):Bool:=canon (ah n)&&(foldN (ah n) 0==some n)
theorem abq:(List.range 256).all chkF=true:=by decide+kernel
theorem JK {k:Nat}{most:Int}(hk:k<256)(hm:(k:Int)<=most):fNum most (ah k)=((k:Int),0):=by
 have:=List.all_eq_true.1 abq k (List.mem_range.2 hk);simp only[chkF,Av,beq_iff_eq] at this;unfold fNum;rw[Ad this.1,this.2];exact Ac (by omega)
def lenS:Int×Int×Bool:=
 if 45∈s then ((fNum 32 (s.takeWhile (· !=45))).1,(fNum 32 ((s.dropWhile (· !=45)).drop 1)).1,(fNum 32 (s.takeWhile (· !=45))).2==0&&(fNum 32 ((s.dropWhile (· !=45)).drop 1)).2==0)
 else (0,0,false)
theorem Qh {c:UInt8}: ∀{a r:List UInt8},c∉a->(a++c::r).takeWhile (· !=c)=a/\(a++c::r).dropWhile (· !=c)=c::r
 | [],r,_=>by simp
 |x::a,r,h=>by
  have hx:(x !=c)=true:=by simp;exact λe=>h (by simp[e])
  have ih:=Qh (c:=c) (a:=a) (r:=r) (λq=>h (by simp[q]))
  simp only[B4,List.takeWhile_cons,List.dropWhile_cons,hx,if_true,ih.1,ih.2,and_self]
theorem YY {a b:Nat}(ha:a<=32)(hb:b<=32):lenS (rng a b)=((a:Int),(b:Int),true):=by
 have hn:=jV (k:=a) (by omega) 45 rfl
 obtain ⟨e1,e2⟩:=Qh (r:=ah (b:Int)) hn;unfold lenS rng;rw[Ad (by simp),e1,e2,JK (by omega) (by omega),List.drop_one,List.tail_cons,JK (by omega) (by omega)];rfl
def wordsS:Option (List (List UInt8)):=if s= [] then some [] else if 10∈s then none else if []∈Lib.split s [32] then none else some (Lib.split s [32])
def plW (ws:List (List UInt8)):Option PRule:=match ws with
 | [v,p]=>if (psP p).2=0 then some ⟨v==wPermit,(psP p).1,(psP p).1.len,(psP p).1.len⟩ else none
 | [v,p,l]=>if (psP p).2=0 then (if (lenS l).2.2=true then some ⟨v==wPermit,(psP p).1,(lenS l).1,(lenS l).2.1⟩ else none) else none
 |_=>none
def plP:PRule×Int:=match (wordsS s).bind plW with
 |some r=>if kU r=0/\rtext r=s then (r,0) else (abF,2)
 |none=>(abF,2)
end
theorem psP_ok {s:List UInt8}(h:(psP s).2=0):(psP s).1.ok:=by
 rcases acK s with e|⟨x,n,hx,hn,_,e⟩
 ·rw[e] at h;cases h
 ·rw[e] at h⊢
  unfold psV at h⊢;split at h
  ·rename_i v
   rw[Ad v];exact ⟨by unfold okU;simp only;omega,by unfold okI;simp only;omega⟩
  ·cases h
def low (b:UInt8):Bool:=b !=32&&b !=10
theorem adj {b:UInt8}(h:dig b=true):low b=true:=by
 obtain ⟨d,hd,rfl,_⟩:=afK h;have: ∀d,d<10->low (UInt8.ofNat (48+d))=true:=by decide
 exact this d hd
theorem kL {k:Nat}(h:k<256):(ah k).all low=true:=List.all_eq_true.2 λb hb=>adj (Jy h b hb)
theorem low_dots {x:Nat}(hx:x<4294967296):(dots x).all low=true:=by
 unfold dots;simp only[List.all_append,Cc,kL (show x/ 16777216<256 by omega),kL (show x/ 65536 % 256<256 by omega),kL (show x/ 256 % 256<256 by omega),kL (show x % 256<256 by omega)]
 decide
theorem low_ptext {x n:Nat}(hx:x<4294967296)(hn:n<=32):(ptext x n).all low=true:=by
 unfold ptext;simp only[List.all_append,Cc,low_dots hx,kL (show n<256 by omega)]
 decide
theorem adi {a b:Nat}(ha:a<=32)(hb:b<=32):(rng a b).all low=true:=by
 unfold rng;simp only[List.all_append,Cc,kL (show a<256 by omega),kL (show b<256 by omega)]
 decide
theorem rh (b:Bool):(lq b).all low=true:=by cases b<;>decide
theorem low_not {s:List UInt8}(h:s.all low=true):(32:UInt8)∉s/\(10:UInt8)∉s:=by
 refine ⟨λq=>?_,λq=>?_⟩
 ·have:=List.all_eq_true.1 h _ q;simp[low] at this
 ·have:=List.all_eq_true.1 h _ q;simp[low] at this
theorem uM (b:Bool):(lq b==wPermit)=b:=by cases b<;>decide
theorem Oe (b:Bool):lq b≠ []:=by cases b<;>decide
theorem ptext_ne (x n:Nat):ptext x n≠ []:=by unfold ptext;simp
theorem aef (a b:Int):rng a b≠ []:=by unfold rng;simp
theorem plP_hit {r:PRule}(hr:r.pfx.ok)(h:kU r=0):plP (rtext r)=(r,0):=by
 obtain ⟨v,m1,m2,m3,m0⟩:=KW h;obtain ⟨pe,hx⟩:=nat_of hr.addr;have hp:=low_ptext (n:=r.pfx.len.toNat) hx (by omega)
 have hv:=pvalid r.pfx hr v;have hne:=ptext_ne r.pfx.addr.toNat r.pfx.len.toNat;obtain ⟨perm,pf,mn,mx⟩:=r;simp only at*;obtain ⟨a,rfl⟩: ∃a:Nat,mn=a:=⟨mn.toNat,by omega⟩
 obtain ⟨b,rfl⟩: ∃b:Nat,mx=b:=⟨mx.toNat,by omega⟩
 have hl:=adi (a:=a) (b:=b) (by omega) (by omega)
 have hw:(wordsS (rtext ⟨perm,pf,a,b⟩)).bind plW=some ⟨perm,pf,a,b⟩:=by
  unfold rtext rtail;simp only
  by_cases hc:(a:Int)≠pf.len∨(b:Int)≠pf.len
  ·rw[Ad hc]
   have e:Lib.split (lq perm++32::(ptext pf.addr.toNat pf.len.toNat++32::rng a b)) [32]= [lq perm,ptext pf.addr.toNat pf.len.toNat,rng a b]:=by
    rw[split_hit 32 _ _ (low_not (rh perm)).1,split_hit 32 _ _ (low_not hp).1,split_none 32 _ (low_not hl).1]
   unfold wordsS;rw[Ac (by simp),Ac,e,Ac]
   ·simp only[Option.bind_some,plW,hv,if_true,YY (show a<=32 by omega) (show b<=32 by omega),uM]
   ·simp only[AL,not_or]
    exact ⟨λq=>Oe _ q.symm,λq=>hne q.symm,λq=>aef _ _ q.symm,by simp⟩
   ·simp only[B5,AL,not_or]
    exact ⟨(low_not (rh perm)).2,by decide,(low_not hp).2,by decide,(low_not hl).2⟩
  ·rw[Ac hc,BD]
   have e:Lib.split (lq perm++32::ptext pf.addr.toNat pf.len.toNat) [32]= [lq perm,ptext pf.addr.toNat pf.len.toNat]:=by
    rw[split_hit 32 _ _ (low_not (rh perm)).1,split_none 32 _ (low_not hp).1]
   have ea:(a:Int)=pf.len:=by omega
   have eb:(b:Int)=pf.len:=by omega
   unfold wordsS;rw[Ac (by simp),Ac,e,Ac]
   ·simp only[Option.bind_some,plW,hv,if_true,uM,ea,eb]
   ·simp only[AL,not_or]
    exact ⟨λq=>Oe _ q.symm,λq=>hne q.symm,by simp⟩
   ·simp only[B5,AL,not_or]
    exact ⟨(low_not (rh perm)).2,by decide,(low_not hp).2⟩
 unfold plP;rw[hw];exact Ad ⟨h,rfl⟩
theorem Lc (r:PRule)(h:r.ok):ab G 325 [.agg r.enc] [] ⟨.int .i64 (kU r),[]⟩:=by
 have hv:=gV r.pfx h.pfx;unfold kU;cases hvp:bj r.pfx
 ·rw[hvp] at hv
  rw[Ac (by simp)]
  exact gvA (F:=qb)
 ·rw[hvp] at hv
  rw[Ad rfl]
  by_cases h1:r.min<r.pfx.len
  ·rw[Ad (.inl h1)]
   exact gvA (F:=qb)
  ·by_cases h2:r.max<r.min
   ·rw[Ad (.inr (.inl h2))]
    exact gvA (F:=qb)
   ·by_cases h3:r.max>32
    ·rw[Ad (.inr (.inr h3))]
     exact gvA (F:=qb)
    ·rw[Ac (by omega)]
     exact gvA (F:=qb)
def rtOk (s:CF)(r:PRule):Prop:=kU r=0/\rtext r=s
instance (s:CF) (r:PRule):Decidable (rtOk s r):=by unfold rtOk;infer_instance
theorem shl8 {x:Nat}(hx:x<16777216){kv:AV->Prop}(h:kv (.int .u32 ((x*256:Nat):Int))): ∃v,bp .shl (.int .u32 (x:Int)) (.int .u64 8)=some v/\kv v:=by
 refine ⟨_,?_,h⟩;show some (AV.int .u32 (IntKind.wrap .u32 ((x:Int)*2^ (min (8:Int).toNat 32))))=_
 rw[show (x:Int)*2^ (min (8:Int).toNat 32)=((x*256:Nat):Int) from by simp[show min (8:Int).toNat 32=8 from rfl],ug _ (by omega)]
theorem or8 {x n:Nat}(hx:x<16777216)(hn:n<256){kv:AV->Prop}(h:kv (.int .u32 ((x*256+n:Nat):Int))): ∃v,bp .or (.int .u32 ((x*256:Nat):Int)) (.int .u32 (n:Int))=some v/\kv v:=by
 refine ⟨_,?_,h⟩;show some (AV.int .u32 (intBits .or .u32 _ _))=_
 rw[IZ _ _ (by omega) (by omega),aeq hn]
abbrev Bs:=CF
def encS (w:CF):CL:=[.str w]
theorem xW (l:List Bs)(h4:l.length=4)(hw: ∀w∈l,w.length<2^40)(hl:l.length<2^40)(ln:Int)(hln:ln=l.length): ∀(rest done:List Bs)(a:Nat)(T:TV)(H:aq)(c:Nat)(n:Int)(e:l=done++rest)(hn:n=done.length)(ha:a<256^done.length),Ev G ⟨Wm,⟨(15,.sl 1 (l.map encS))::(16,.int .i64 ln)::(17,.int .i64 n)::(5,.int .u32 (a:Int))::T,H,c⟩,[.t 2,.t 3],0⟩ (okA (paL rest a))
 | [],done,a,T,H,c,n,e,hn,ha=>by
  have hd:=md0 e;have hll:=ml l encS;refine evA ?_;refine au ?_;rfl
 |x::r,done,a,T,H,c,n,e,hn,ha=>by
  have hd:=md e;have hll:=ml l encS;have hx:=mx encS e hn;have ha4:a<16777216:=B7 ha (AN (Nat.pow_le_pow_right (by omega) (show done.length<=3 by omega)) (by omega))
  have hn:=pg x 255 (hw x (by simp[e]))
  by_cases hb:mf 255 x=true
  ·obtain ⟨k,hk,ek,hv⟩:=ra hb
   rw[hb,hv] at hn;rw[paL,Ad hb,hv,Int.toNat_natCast];refine evl ?_
   repeat' ((conv=>whnf);first|refine shl8 ha4 ?_|refine or8 ha4 (by omega) ?_|refine ay ?_|apply ae<;>intro h)
   refine ag [15,16,17,5] [] ?_;exact xW l h4 hw hl ln hln r (done++[x]) (a*256+k) _ _ _ (n+1) (by simp[e]) (by simp[hn]<;>omega) (by rw[Ar,List.length_singleton,Nat.pow_succ];omega)
  ·have hb2:mf 255 x=false:=by simpa using hb
   rw[hb2] at hn;rw[paL,Ac hb];refine evA ?_;refine au ?_;rfl
theorem zr (s:CF)(hs:s.length<4294967281):ab G 249 [.str s,.str [46]] [] ⟨.sl 1 ((Lib.split s [46]).map encS),[]⟩:=by
 show qq [.str s,.str [46]] []=_
 exact Ad ⟨hs,by simp⟩
theorem dec_gives337 {n:Nat}(h:n<256):ab G 337 [.int .i64 (n:Int)] [] ⟨.str (ah n),[]⟩:=by
 have hi:=itoa_gives246 (n:=(n:Int)) (by omega) (by omega)
 generalize ah (n:Int)=t at*;exact gvA (F:=f337)
theorem idx_at {s done rest:CF}{x:UInt8}{n:Int}(e:s=done++x::rest)(hn:n=done.length):s[n.toNat]? =some x:=by
 rw[e,hn];simp
theorem nr (s:CF)(hs:s.length<2^40): ∀(rest done:CF)(T:TV)(H:aq)(c:Nat)(n:Int)(e:s=done++rest)(hn:n=done.length),
  Ev G ⟨JZ,⟨(18,.int .i64 n)::(0,.str s)::(17,.int .i64 s.length)::T,H,c⟩,[.t 2],0⟩ ⟨.bool (rest.all dig),[]⟩
 | [],done,T,H,c,n,e,hn=>by
  have hd:=md0 e;refine evA ?_;refine au ?_;rfl
 |x::rest,done,T,H,c,n,e,hn=>by
  have hd:=md e;have hb:=idx_at e hn;rw[Cc]
  by_cases h1:48<=x.toNat
  ·by_cases h2:x.toNat<=57
   ·rw[show dig x=true from by simp[dig,h1,h2],BY]
    refine evl ?_
    repeat' (first|refine bz ?_|apply ae<;>intro h)
    refine ag [18,0,17] [] ?_;exact nr s hs rest (done++[x]) _ _ _ (n+1) (by simp[e]) (by simp[hn])
   ·rw[show dig x=false from by simp[dig,h2],BS]
    refine evl ?_
    repeat' (first|refine bz ?_|apply ae<;>intro h)
    refine au ?_;rfl
  ·rw[show dig x=false from by simp[dig,h1],BS]
   refine evl ?_
   repeat' (first|refine bz ?_|apply ae<;>intro h)
   refine au ?_;rfl
theorem BP (s:CF)(hs:s.length<2^40):ab G 347 [.str s] [] ⟨.bool (canon s),[]⟩:=by
 cases s with
 |nil=>
  have z: ∀{kv:AV->Prop},kv (.bool true)-> ∃v,bp .eql (.str []) (.str [])=some v/\kv v:=λh=>⟨_,rfl,h⟩
  refine gvC (F:=oG) ?_
  repeat' ((conv=>whnf);first|refine z ?_|refine ay ?_|apply ae<;>intro h)
  refine au ?_;rfl
 |cons b r=>
  have z: ∀{kv:AV->Prop},kv (.bool false)-> ∃v,bp .eql (.str (b::r)) (.str [])=some v/\kv v:=λh=>⟨_,rfl,h⟩
  have hb:(b::r)[(0:Int).toNat]? =some b:=rfl;have hl:(b::r).length=r.length+1:=rfl;cases r with
  |nil=>
   rw[show canon [b]= [b].all dig from by simp[canon]]
   refine gvC (F:=oG) ?_
   repeat' ((conv=>whnf);first|refine z ?_|refine ay ?_|apply ae<;>intro h)
   refine ag [18,0,17] [] ?_;exact nr [b] hs [b] [] _ _ _ 0 rfl rfl
  |cons d q=>
   have hl2:(b::d::q).length=q.length+2:=rfl
   by_cases hz:b=48
   ·subst hz
    rw[show canon (48::d::q)=false from by simp[canon]]
    refine gvC (F:=oG) ?_
    repeat' ((conv=>whnf);first|refine z ?_|refine zIstr (b:=48) ?_ hb (by omega)|refine ay ?_|apply ae<;>intro h)
    refine au ?_;rfl
   ·have hz2: ¬(b.toNat:Int)=48:=by
     intro e;apply hz;apply A9.1
     show b.toNat=48
     omega
    rw[show canon (b::d::q)=(b::d::q).all dig from by simp[canon,hz]]
    refine gvC (F:=oG) ?_
    repeat' ((conv=>whnf);first|refine z ?_|refine zIstr (b:=b) ?_ hb (by omega)|refine ay ?_|apply ae<;>intro h)
    refine ag [18,0,17] [] ?_;exact nr (b::d::q) hs (b::d::q) [] _ _ _ 0 rfl rfl
def nfR (p:Int×Int):Ret:=⟨.tup [.int .i64 p.1,.int .i64 p.2],[]⟩
def YM (most:Int)(o:C8):Int×Int:=match o with
 |none=>(0,5)
 |some n=>if (n:Int)>most then (0,5) else ((n:Int),0)
theorem vg (s:CF)(hs:s.length<2^40)(most:Int): ∀(rest done:CF)(a:Nat)(T:TV)(H:aq)(c:Nat)(n A:Int)(e:s=done++rest)(hn:n=done.length)(hA:A=a)(ha:a<=9223372036854775807)(hd:rest.all dig=true),
  Ev G ⟨DB,⟨(14,.int .i64 n)::(6,.int .i64 A)::(0,.str s)::(1,.int .i64 most)::(13,.int .i64 s.length)::T,H,c⟩,[.t 4,.t 5],0⟩ (nfR (YM most (foldN rest a)))
 | [],done,a,T,H,c,n,A,e,hn,hA,ha,hd=>by
  have hd:=md0 e;rw[foldN,YM]
  by_cases hm:(a:Int)>most
  ·rw[Ad hm]
   refine evA ?_;refine au ?_;rfl
  ·rw[Ac hm]
   refine evA ?_;refine au ?_;rw[hA];rfl
 |x::rest,done,a,T,H,c,n,A,e,hn,hA,ha,hdg=>by
  have hd:=md e;have hb:=idx_at e hn;simp only[Cc,Av] at hdg;obtain ⟨h1,h2⟩:48<=x.toNat/\x.toNat<=57:=by have:=hdg.1;simpa[dig] using this
  have hv:dval x<10:=by unfold dval;omega
  rw[foldN]
  by_cases ho:a>(9223372036854775807-dval x)/ 10
  ·rw[Ad ho,YM]
   have ho2:A>(9223372036854775807- ((dval x:Nat):Int))/ 10:=by omega
   refine evl ?_
   repeat' ((conv=>whnf);first|refine zIstr ?_ hb (by omega)|refine Ue ?_ h1|refine ay ?_|apply ae<;>intro h)
   refine au ?_;rfl
  ·rw[Ac ho]
   have ho2: ¬A>(9223372036854775807- ((dval x:Nat):Int))/ 10:=by omega
   refine evl ?_
   repeat' ((conv=>whnf);first|refine zIstr ?_ hb (by omega)|refine Ue ?_ h1|refine ay ?_|apply ae<;>intro h)
   refine ag [14,6,0,1,13] [] ?_;exact vg s hs most rest (done++[x]) (10*a+dval x) _ _ _ (n+1) (10*A+(dval x:Nat)) (by simp[e]) (by simp[hn]) (by omega) (by omega) hdg.2
theorem num_gives346 (s:CF)(hs:s.length<2^40)(most:Int):ab G 346 [.str s,.int .i64 most] [] (nfR (fNum most s)):=by
 have hc:=BP s hs;unfold fNum;cases hq:canon s
 ·rw[hq] at hc
  rw[Ac (by simp)]
  exact gvA (F:=wM)
 ·rw[hq] at hc
  rw[Ad rfl]
  have hd:s.all dig=true:=by
   unfold canon at hq;split at hq
   ·cases hq
   ·simp only[Av] at hq;exact hq.2
  refine gvB (F:=wM) ?_;refine ag [14,6,0,1,13] [] ?_;exact vg s hs most s [] 0 _ _ _ 0 0 rfl rfl rfl (by omega) hd
def lnR (p:Int×Int×Bool):Ret:=⟨.tup [.int .i64 p.1,.int .i64 p.2.1,.bool p.2.2],[]⟩
theorem vj (s:List UInt8)(hs:s.length<2^40): ∀(rest done:List UInt8)(T:TV)(H:aq)(c:Nat)(n:Int)(e:s=done++rest)(hn:n=done.length)(hd:(45:UInt8)∉done),
  Ev G ⟨aaX,⟨(0,.str s)::(12,.int .i64 n)::(11,.int .i64 s.length)::T,H,c⟩,[.t 2,.t 3,.t 4],0⟩ (lnR (lenS s))
 | [],done,T,H,c,n,e,hn,hdn=>by
  have hd:=md0 e;rw[show lenS s=(0,0,false) from Ac (by rw[e];simpa using hdn)]
  refine evA ?_;refine au ?_;rfl
 |x::rest,done,T,H,c,n,e,hn,hdn=>by
  have hd:=md e;have hb:=idx_at e hn
  by_cases hx:x=45
  ·subst hx
   obtain ⟨e1,e2⟩:=Qh (r:=rest) hdn
   have hlen:lenS s=((fNum 32 done).1,(fNum 32 rest).1,(fNum 32 done).2==0&&(fNum 32 rest).2==0):=by
    unfold lenS;rw[Ad (by rw[e];simp),e,e1,e2];rfl
   rw[hlen];have n1: ∀m,List.take m (List.drop 0 s)=done->ab G 346 [.str (List.take m (List.drop 0 s)),.int .i64 32] [] (nfR (fNum 32 done)):=λm ht=>by rw[ht];exact num_gives346 done (by omega) 32
   have n2: ∀m k,List.take m (List.drop k s)=rest->ab G 346 [.str (List.take m (List.drop k s)),.int .i64 32] [] (nfR (fNum 32 rest)):=λm k ht=>by rw[ht];exact num_gives346 rest (by omega) 32
   generalize fNum 32 done=F1 at*;generalize fNum 32 rest=F2 at*;obtain ⟨a,p⟩:=F1;obtain ⟨b,q⟩:=F2;have s1:List.take (n.toNat-0) (List.drop 0 s)=done:=by simp[e,hn]
   have s2:List.take (s.length- (n+1).toNat) (List.drop (n+1).toNat s)=rest:=by
    have:(n+1).toNat=done.length+1:=by omega
    rw[this,e,List.take_of_length_le (by simp<;>omega)];simp
   by_cases hp:p=0
   ·refine evl ?_
    repeat' ((conv=>whnf);first|refine zIstr (b:=45) ?_ hb (by omega)|refine kV (n1 _ s1) ?_|refine kV (n2 _ _ s2) ?_|refine ay ?_|apply ae<;>intro h)
    refine au ?_;simp[hp,lnR]
   ·refine evl ?_
    repeat' ((conv=>whnf);first|refine zIstr (b:=45) ?_ hb (by omega)|refine kV (n1 _ s1) ?_|refine kV (n2 _ _ s2) ?_|refine ay ?_|apply ae<;>intro h)
    refine au ?_;simp[hp,lnR]
  ·have hx2: ¬(x.toNat:Int)=45:=by
    intro q;apply hx;apply A9.1
    show x.toNat=45
    omega
   refine evl ?_
   repeat' (first|refine bz ?_|apply ae<;>intro h)
   refine ag [0,12,11] [] ?_;exact vj s hs rest (done++[x]) _ _ _ (n+1) (by simp[e]) (by simp[hn]) (by simp;exact ⟨hdn,λq=>hx q.symm⟩)
section
variable (s:List UInt8)
theorem Ju (hs:s.length<2^40):ab G 340 [.str s] [] (lnR (lenS s)):=by
 refine gvB (F:=SK) ?_;refine ag [0,12,11] [] ?_;exact vj s hs s [] _ _ _ 0 rfl rfl (by simp)
def wrR:Ret:=match wordsS s with
 |none=>⟨.tup [.con (.slice none 0 0),.int .i64 2],[]⟩
 |some ws=>if s= [] then ⟨.tup [.con (.slice none 0 0),.int .i64 0],[]⟩ else ⟨.tup [.sl 1 (ws.map encS),.int .i64 0],[]⟩
theorem uL (hs:s.length<4294967281):ab G 345 [.str s,.str [10]] [] ⟨.bool (decide ((10:UInt8)∈s)),[]⟩:=by
 have e:Lib.contains s [10]=decide ((10:UInt8)∈s):=by
  unfold Lib.contains;rcases sep_cases 10 s with h|⟨a,r,h,rfl⟩
  ·rw[nI 10 s h];simp[h]
  ·rw[pq 10 a r h];simp
 rw[<-e];show nd [.str s,.str [10]] []=_
 exact Ad hs
theorem D8 (hs:s.length<4294967281):ab G 249 [.str s,.str [32]] [] ⟨.sl 1 ((Lib.split s [32]).map encS),[]⟩:=by
 show qq [.str s,.str [32]] []=_
 exact Ad ⟨hs,by simp⟩
theorem WB (w:Bs):aP (encS w)=true:=rfl
@[simp] theorem Ii (l:List Bs):aa (l.map encS)=true:=mH WB l
theorem rH (l:List Bs)(hl:l.length<2^40)(ln:Int)(hln:ln=l.length): ∀(rest done:List Bs)(T:TV)(H:aq)(c:Nat)(n:Int)(e:l=done++rest)(hn:n=done.length),Ev G ⟨Wl,⟨(13,.sl 1 (l.map encS))::(14,.int .i64 ln)::(15,.int .i64 n)::(4,.sl 1 (l.map encS))::T,H,c⟩,[.t 2,.t 3],0⟩ (bif rest.any (λw=>w== []) then ⟨.tup [.con (.slice none 0 0),.int .i64 2],[]⟩ else ⟨.tup [.sl 1 (l.map encS),.int .i64 0],[]⟩)
 | [],done,  T,H,c,n,e,hn=>by
  have hd:=md0 e;have hll:=ml l encS;have hpu:(AV.tup [.sl 1 (l.map encS),.int .i64 0]).pure=true:=by simp[AV.pure,aP]
  refine evA ?_
  first|refine Wu (And.intro hpu ?_)|refine Pc (And.intro hpu ?_)
  rfl
 |x::r,done,  T,H,c,n,e,hn=>by
  have hd:=md e;have hll:=ml l encS;have hx:=mx encS e hn;rw[List.any_cons]
  by_cases hz:x= []
  ·subst hz
   refine evl ?_
   repeat' (first|refine bz ?_|apply ae<;>intro h)
   refine au ?_;rfl
  ·have hz2:(x==([]:List UInt8))=false:=by simpa using hz
   have zf: ∀{kv:AV->Prop},kv (.bool false)-> ∃v,bp .eql (.str x) (.str [])=some v/\kv v:=λh=>⟨_,by show some (AV.bool (x== []))=_;rw[hz2],h⟩
   rw[hz2,Bool.false_or];refine evl ?_
   repeat' ((conv=>whnf);first|refine zf ?_|refine ay ?_|apply ae<;>intro h)
   refine ag [13,14,15,4] [] ?_;exact rH l  hl ln hln r (done++[x])  _ _ _ (n+1) (by simp[e]) (by simp[hn]<;>omega)
theorem words_gives339 (hs:s.length<4294967281):ab G 339 [.str s] [] (wrR s):=by
 unfold wrR wordsS
 by_cases h0:s= []
 ·subst h0
  rw[Ad rfl];refine gvC (F:=Bh) ?_
  repeat' (first|refine bz ?_|apply ae<;>intro h)
  refine au ?_;rfl
 ·have hz2:(s==([]:List UInt8))=false:=by simpa using h0
  have zf: ∀{kv:AV->Prop},kv (.bool false)-> ∃v,bp .eql (.str s) (.str [])=some v/\kv v:=λh=>⟨_,by show some (AV.bool (s== []))=_;rw[hz2],h⟩
  have hc:=uL s hs;rw[Ac h0]
  by_cases h1:(10:UInt8)∈s
  ·rw[Ad h1]
   rw[Al h1] at hc;refine gvC (F:=Bh) ?_
   repeat' ((conv=>whnf);first|refine zf ?_|refine ay ?_|apply ae<;>intro h)
   refine au ?_;rfl
  ·rw[Ac h1]
   rw[An h1] at hc;have hp:=D8 s hs
   have hln:(Lib.split s [32]).length<2^40:=by
    have:=Lib.count_le s [32]
    have h2:(Lib.split s [32]).length<=Lib.count s [32]+1:=by
     have:=Lib.splitB_length_le ⟨[32].toArray⟩ 0 (Lib.count s [32]) ⟨s.toArray⟩;have e:=congrArg List.length (Lib.splitB_data ⟨[32].toArray⟩ 0 (Lib.count s [32]) ⟨s.toArray⟩);have e2:(Lib.splitB ⟨[32].toArray⟩ 0 (Lib.count s [32]) ⟨s.toArray⟩).length=(Lib.splitK [32] 0 (Lib.count s [32]) s).length:=by simpa using e
     unfold Lib.split;omega
    omega
   have hm:([]∈Lib.split s [32])↔ (Lib.split s [32]).any (λw=>w== [])=true:=by simp
   generalize Lib.split s [32]=l at*;have hpu:(AV.sl 1 (l.map encS)).pure=true:=by simp[AV.pure]
   have key:=rH l hln ((l.map encS).length:Int) (by simp) l []
   have hr:(match (if []∈l then none else some l) with
    |none=>(⟨.tup [.con (.slice none 0 0),.int .i64 2],[]⟩:Ret)
    |some ws=>if s= [] then ⟨.tup [.con (.slice none 0 0),.int .i64 0],[]⟩ else ⟨.tup [.sl 1 (ws.map encS),.int .i64 0],[]⟩)=(bif l.any (λw=>w== []) then ⟨.tup [.con (.slice none 0 0),.int .i64 2],[]⟩ else ⟨.tup [.sl 1 (l.map encS),.int .i64 0],[]⟩):=by
    by_cases hq: []∈l
    ·rw[Ad hq,hm.1 hq];rfl
    ·rw[Ac hq]
     have:l.any (λw=>w== [])=false:=by rw[Bool.eq_false_iff];exact λq=>hq (hm.2 q)
     rw[this];simp only[Ac h0];rfl
   rw[hr];refine gvC (F:=Bh) ?_
   repeat' ((conv=>whnf);first|refine zf ?_|refine yV hp ?_ (by rfl) hpu|refine ay ?_|apply ae<;>intro h)
   refine ag [13,14,15,4] [] ?_;exact key _ _ _ 0 rfl rfl
end
def txR (r:PRule):Ret:=if kU r=0 then ⟨.tup [.str (rtext r),.int .i64 0],[]⟩ else ⟨.tup [.str [],.int .i64 (kU r)],[]⟩
theorem nat32 {x:Int}(h0:0<=x)(h1:x<=32): ∃k:Nat,x=k/\k<=32:=⟨x.toNat,by omega,by omega⟩
theorem text_gives332 (r:PRule)(h:r.ok):ab G 332 [.agg r.enc] [] (txR r):=by
 have hc:=Lc r h;unfold txR
 by_cases h0:kU r=0
 ·rw[h0] at hc
  obtain ⟨v,m1,m2,m3,m0⟩:=KW h0;rw[Ad h0];have ht:=text_gives229 r.pfx h.pfx;rw[Ad v] at ht;obtain ⟨_,hx⟩:=nat_of h.pfx.addr;have hl:=ptext_len (n:=r.pfx.len.toNat) hx (by omega)
  obtain ⟨a,ea,ha⟩:=nat32 (x:=r.min) (by omega) (by omega)
  obtain ⟨b,eb,hb⟩:=nat32 (x:=r.max) (by omega) (by omega)
  have d1:=dec_gives337 (n:=a) (by omega)
  have d2:=dec_gives337 (n:=b) (by omega)
  have l1:=itoa_len (n:=a) (by omega)
  have l2:=itoa_len (n:=b) (by omega)
  clear h h0 v hx m0 m1 m2 m3;unfold rtext rtail rng;obtain ⟨p,⟨x,n⟩,mn,mx⟩:=r;simp only at*;subst ea eb;generalize ptext x.toNat n.toNat=t at*;generalize ah (a:Int)=ta at*;generalize ah (b:Int)=tb at*
  by_cases e1:(a:Int)=n
  ·by_cases e2:(b:Int)=n
   ·cases p
    ·refine gvC (F:=oH) ?_
     repeat' (first|refine bz ?_|apply ae<;>intro h)
     refine au ?_;simp[lq,wDeny,e1,e2]
    ·refine gvC (F:=oH) ?_
     repeat' (first|refine bz ?_|apply ae<;>intro h)
     refine au ?_;simp[lq,wPermit,e1,e2]
   ·cases p
    ·refine gvC (F:=oH) ?_
     repeat' (first|refine bz ?_|apply ae<;>intro h)
     refine au ?_;simp[lq,wDeny,e2]
    ·refine gvC (F:=oH) ?_
     repeat' (first|refine bz ?_|apply ae<;>intro h)
     refine au ?_;simp[lq,wPermit,e2]
  ·cases p
   ·refine gvC (F:=oH) ?_
    repeat' (first|refine bz ?_|apply ae<;>intro h)
    refine au ?_;simp[lq,wDeny,e1]
   ·refine gvC (F:=oH) ?_
    repeat' (first|refine bz ?_|apply ae<;>intro h)
    refine au ?_;simp[lq,wPermit,e1]
 ·rw[Ac h0]
  generalize kU r=k at*;exact gvA (F:=oH)
theorem sV (c:UInt8): ∀(l:C5)(w:CF),w∈l->w.length<=(ym c l).length
 | [],_,h=>by simp at h
 | [x], w, h => by obtain rfl:w=x:=by simpa using h
                   exact Be _
 |x::y::r,w,h=>by
  simp only[ym,Ar,As];rcases AL.1 h with rfl|h
  ·omega
  ·have:=sV c (y::r) w h;omega
section
variable (s:CF)
theorem Ur (w:CF)(h:w∈Lib.split s [46]):w.length<=s.length:=by
 have:=sV 46 _ w h;rwa [nH 46 s.length s (Be _)] at this
theorem pad_gives231 (hs:s.length<4294967281):ab G 231 [.str s] [] (okA (paP s)):=by
 have hp:=zr s hs;have hw: ∀w∈Lib.split s [46],w.length<2^40:=λw h=>by have:=Ur s w h;omega
 unfold paP;generalize Lib.split s [46]=l at*;have hll:=ml l encS;have hpu:(AV.sl 1 (l.map encS)).pure=true:=mH (λ_=>rfl) l
 by_cases h4:l.length=4
 ·rw[Ad h4]
  refine gvC (F:=J4) ?_
  repeat' ((conv=>whnf);first|refine yV hp ?_ (by rfl) hpu|refine ay ?_|apply ae<;>intro h)
  refine ag [15,16,17,5] [] ?_;exact xW l h4 hw (by omega) _ (by simp) l [] 0 _ _ _ 0 rfl rfl (by simp)
 ·rw[Ac h4]
  refine gvC (F:=J4) ?_
  repeat' ((conv=>whnf);first|refine yV hp ?_ (by rfl) hpu|refine ay ?_|apply ae<;>intro h)
  refine au ?_;rfl
def pfR (x:Pfx×Int):Ret:=⟨.tup [.agg x.1.enc,.int .i64 x.2],[]⟩
theorem KD (hs:s.length<4294967281):ab G 252 [.str s,.str [47]] [] ⟨.tup [.str (Lib.cut s [47]).1,.str (Lib.cut s [47]).2.1,.bool (Lib.cut s [47]).2.2],[]⟩:=by
 show IY [.str s,.str [47]] []=_
 exact Ad hs
theorem adH:(Lib.cut s [47]).1.length<=s.length/\(Lib.cut s [47]).2.1.length<=s.length:=by
 unfold Lib.cut;split
 ·simp;omega
 ·simp
theorem aem {x:Nat}{n:Int}(hx:x<4294967296)(h0:0<=n)(h1:n<=32):Pfx.ok ⟨(x:Int),n⟩:=⟨by unfold okU;simp only;omega,by unfold okI;simp only;omega⟩
theorem parse_gives233 (hs:s.length<4294967281):ab G 233 [.str s] [] (pfR (psP s)):=by
 have hc:=KD s hs;obtain ⟨hl1,hl2⟩:=adH s;unfold psP;generalize Lib.cut s [47]=q at*;obtain ⟨l,r,f⟩:=q;simp only at hc hl1 hl2⊢;have hp:=pad_gives231 l (by omega)
 have hn:=pg r 32 (by omega)
 rcases OQ l with ea|⟨x,hx,_,ea⟩
 ·rw[ea] at hp⊢
  rw[Ad (.inr (.inl (by simp only;decide)))]
  cases f
  ·refine gvB (F:=tv) ?_
   refine au ?_;(conv=>whnf);refine Go.AM.finC ?_;rfl
  ·refine gvB (F:=tv) ?_
   refine au ?_;(conv=>whnf);refine Go.AM.finC ?_;rfl
 ·rw[ea] at hp⊢
  cases f
  ·rw[Ad (.inl rfl)]
   refine gvB (F:=tv) ?_;refine au ?_;(conv=>whnf);refine Go.AM.finC ?_;rfl
  ·cases hb:mf 32 r
   ·rw[hb] at hn
    rw[Ad (.inr (.inr rfl))];refine gvB (F:=tv) ?_;refine au ?_;(conv=>whnf);refine Go.AM.finC ?_;rfl
   ·rw[hb] at hn
    obtain ⟨k,hk,_,hv⟩:=ra hb;rw[hv] at hn⊢;rw[Ac (by simp),psV,Int.toNat_natCast]
    have vv:=gV ⟨(x:Int),(k:Int)⟩ (aem hx (by omega) hk)
    cases hvp:bj ⟨(x:Int),(k:Int)⟩
    ·rw[hvp] at vv
     rw[Ac (by simp)]
     refine gvB (F:=tv) ?_;refine au ?_;(conv=>whnf);refine Go.AM.finC ?_;rfl
    ·rw[hvp] at vv
     rw[Ad rfl];refine gvB (F:=tv) ?_;refine au ?_;(conv=>whnf);refine Go.AM.finC ?_;rfl
def prR5 (x:PRule×Int):Ret:=⟨.tup [.agg x.1.enc,.int .i64 x.2],[]⟩
theorem Na (w:CF)(h:w∈Lib.split s [32]):w.length<=s.length:=by
 have:=sV 32 _ w h;rwa [nH 32 s.length s (Be _)] at this
theorem Uf {s:CF}{ws:C5}(h:wordsS s=some ws): ∀w∈ws,w.length<=s.length:=by
 intro w hw;unfold wordsS at h;split at h
 ·obtain rfl:=Ai h
  simp at hw
 ·split at h
  ·cases h
  ·split at h
   ·cases h
   ·obtain rfl:=Ai h
    exact Na s w hw
theorem fNum_ok (most:Int)(s:CF)(h0:0<=most):0<=(fNum most s).1/\(fNum most s).1<=most:=by
 unfold fNum;split
 ·split
  ·exact ⟨Int.le_refl _,h0⟩
  ·split
   ·exact ⟨Int.le_refl _,h0⟩
   ·rename_i h;exact ⟨by simp only;omega,by simp only;omega⟩
 ·exact ⟨Int.le_refl _,h0⟩
theorem adk:okI (lenS s).1/\okI (lenS s).2.1:=by
 unfold lenS;split
 ·have h1:=fNum_ok 32 (s.takeWhile (· !=45)) (by omega)
  have h2:=fNum_ok 32 ((s.dropWhile (· !=45)).drop 1) (by omega)
  unfold okI;simp only;omega
 ·unfold okI;simp only;omega
end
section
variable {kv:AV->Prop}
theorem zNeT {a:CF}(h:kv (.bool false)): ∃v,bp .neq (.str a) (.str a)=some v/\kv v:=⟨.bool false,by show some (AV.bool (a !=a))=_;simp,h⟩
theorem zNeF {a b:CF}(n:a≠b)(h:kv (.bool true)): ∃v,bp .neq (.str a) (.str b)=some v/\kv v:=⟨.bool true,by show some (AV.bool (a !=b))=_;simp[n],h⟩
end
theorem parse_gives334 (s:CF)(hs:s.length<4294967281):ab G 334 [.str s] [] (prR5 (plP s)):=by
 have hw:=words_gives339 s hs;unfold wrR at hw;unfold plP;cases hq:wordsS s with
 |none=>
  rw[hq] at hw;simp only[Option.bind_none] at hw⊢;refine gvB (F:=j7) ?_;refine au ?_;(conv=>whnf);refine Go.AM.finC ?_;rfl
 |some ws=>
  rw[hq] at hw;have hlen:=Uf hq;simp only[Option.bind_some] at hw⊢
  by_cases hn:s= []
  ·rw[Ad hn] at hw
   have:ws= []:=by rw[hn] at hq;simpa[wordsS] using hq.symm
   subst this;refine gvB (F:=j7) ?_;refine au ?_;(conv=>whnf);refine Go.AM.finC ?_;rfl
  ·rw[Ac hn] at hw
   match ws,hlen,hw with
   | [],hlen,hw=>
    refine gvB (F:=j7) ?_;refine au ?_;(conv=>whnf);refine Go.AM.finC ?_;rfl
   | [v],hlen,hw=>
    refine gvB (F:=j7) ?_;refine au ?_;(conv=>whnf);refine Go.AM.finC ?_;rfl
   | [v,p],hlen,hw=>
    have hp:=parse_gives233 p (by have:=hlen p (by simp);omega)
    have hok:=psP_ok (s:=p);unfold plW;rcases hpp:psP p with ⟨q,e⟩
    rw[hpp] at hp hok;simp only[hpp] at hok⊢
    by_cases e0:e=0
    ·subst e0
     rw[Ad rfl];have ho:=hok rfl;obtain ⟨pv,hpv⟩: ∃b,b=(v==wPermit):=⟨_,rfl⟩
     have zv: ∀{kv:AV->Prop},kv (.bool pv)-> ∃x,bp .eql (.str v) (.str wPermit)=some x/\kv x:=λh=>⟨_,by show some (AV.bool (v==wPermit))=_;rw[<-hpv],h⟩
     rw[<-hpv];have ht:=text_gives332 ⟨pv,q,q.len,q.len⟩ ⟨ho,ho.len,ho.len⟩;unfold txR at ht;simp only
     by_cases hc:kU ⟨pv,q,q.len,q.len⟩=0
     ·rw[Ad hc] at ht
      by_cases hx:rtext ⟨pv,q,q.len,q.len⟩=s
      ·rw[Ad ⟨hc,hx⟩]
       rw[hx] at ht;refine gvC (F:=j7) ?_
       repeat' ((conv=>whnf);first|refine zv ?_|refine zNeT ?_|refine ay ?_|apply ae<;>intro h)
       refine au ?_;(conv=>whnf);refine Go.AM.finC ?_;rfl
      ·rw[Ac (λh=>hx h.2)]
       generalize rtext ⟨pv,q,q.len,q.len⟩=t at*;refine gvC (F:=j7) ?_
       repeat' ((conv=>whnf);first|refine zv ?_|refine zNeF hx ?_|refine ay ?_|apply ae<;>intro h)
       refine au ?_;(conv=>whnf);refine Go.AM.finC ?_;rfl
     ·rw[Ac hc] at ht
      rw[Ac (λh=>hc h.1)]
      generalize kU ⟨pv,q,q.len,q.len⟩=k at*;refine gvC (F:=j7) ?_
      repeat' ((conv=>whnf);first|refine zv ?_|refine ay ?_|apply ae<;>intro h)
      refine au ?_;(conv=>whnf);refine Go.AM.finC ?_;rfl
    ·rw[Ac e0]
     refine gvB (F:=j7) ?_;refine au ?_;(conv=>whnf);refine Go.AM.finC ?_;rfl
   | [v,p,l],hlen,hw=>
    have hp:=parse_gives233 p (by have:=hlen p (by simp);omega)
    have hl:=Ju l (by have:=hlen l (by simp);omega)
    have hok:=psP_ok (s:=p);have hlo:=adk l;unfold plW;unfold lnR at hl;rcases hpp:psP p with ⟨q,e⟩
    rcases hll:lenS l with ⟨a,b,o⟩
    rw[hpp] at hp hok;rw[hll] at hlo hl;simp only[hpp,hll] at hok hlo hl⊢
    by_cases e0:e=0
    ·subst e0
     rw[Ad rfl];have ho:=hok rfl;obtain ⟨pv,hpv⟩: ∃b,b=(v==wPermit):=⟨_,rfl⟩
     have zv: ∀{kv:AV->Prop},kv (.bool pv)-> ∃x,bp .eql (.str v) (.str wPermit)=some x/\kv x:=λh=>⟨_,by show some (AV.bool (v==wPermit))=_;rw[<-hpv],h⟩
     rw[<-hpv];cases o
     ·rw[Ac (by simp)]
      simp only;refine gvC (F:=j7) ?_
      repeat' ((conv=>whnf);first|refine zv ?_|refine ay ?_|apply ae<;>intro h)
      refine au ?_;(conv=>whnf);refine Go.AM.finC ?_;rfl
     ·rw[Ad rfl]
      have ht:=text_gives332 ⟨pv,q,a,b⟩ ⟨ho,hlo.1,hlo.2⟩;unfold txR at ht;simp only
      by_cases hc:kU ⟨pv,q,a,b⟩=0
      ·rw[Ad hc] at ht
       by_cases hx:rtext ⟨pv,q,a,b⟩=s
       ·rw[Ad ⟨hc,hx⟩]
        rw[hx] at ht;refine gvC (F:=j7) ?_
        repeat' ((conv=>whnf);first|refine zv ?_|refine zNeT ?_|refine ay ?_|apply ae<;>intro h)
        refine au ?_;(conv=>whnf);refine Go.AM.finC ?_;rfl
       ·rw[Ac (λh=>hx h.2)]
        generalize rtext ⟨pv,q,a,b⟩=t at*;refine gvC (F:=j7) ?_
        repeat' ((conv=>whnf);first|refine zv ?_|refine zNeF hx ?_|refine ay ?_|apply ae<;>intro h)
        refine au ?_;(conv=>whnf);refine Go.AM.finC ?_;rfl
      ·rw[Ac hc] at ht
       rw[Ac (λh=>hc h.1)]
       generalize kU ⟨pv,q,a,b⟩=k at*;refine gvC (F:=j7) ?_
       repeat' ((conv=>whnf);first|refine zv ?_|refine ay ?_|apply ae<;>intro h)
       refine au ?_;(conv=>whnf);refine Go.AM.finC ?_;rfl
    ·rw[Ac e0]
     refine gvB (F:=j7) ?_;refine au ?_;(conv=>whnf);refine Go.AM.finC ?_;rfl
   |v::p::l::w::r,hlen,hw=>
    have hll:((v::p::l::w::r).map encS).length=r.length+4:=by simp
    have hpl:aa ((v::p::l::w::r).map encS)=true:=Ii _;generalize (v::p::l::w::r).map encS=es at*;have hpu:(AV.tup [AV.sl 1 es,AV.int .i64 0]).pure=true:=by simp[AV.pure,aP,hpl]
    simp only[plW];refine gvC (F:=j7) ?_
    repeat' ((conv=>whnf);first|refine yV hw ?_ (by rfl) hpu|refine ay ?_|apply ae<;>intro h)
    refine au ?_;(conv=>whnf);refine Go.AM.finC ?_;rfl
section
variable {kv:AV->Prop}
end
end Go.AM.IR.J
