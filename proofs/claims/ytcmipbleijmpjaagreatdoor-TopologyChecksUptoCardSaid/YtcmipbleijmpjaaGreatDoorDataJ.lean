/- What the functions of this program give, on the abstract machine. -/
import Derived.Test.YtcmipbleijmpjaaGreatDoorDataB
import Derived.Test.YtcmipbleijmpjaaGreatDoorDataA
import Derived.Test.YtcmipbleijmpjaaGreatDoorMachineC
import Derived.Test.YtcmipbleijmpjaaGreatDoorDataI
import Derived.Test.YtcmipbleijmpjaaGreatDoorDataG
set_option linter.unusedVariables false
set_option linter.unusedSimpArgs false
set_option maxHeartbeats 4000000
set_option maxRecDepth 20000
namespace Go.AM.IR
def bu (x n:Nat):Nat:=x/ 2^ (32-n)*2^ (32-n)
def jc (n:Nat):Nat:=4294967296-2^ (32-n)
theorem rU (x n j:Nat) (hn:n≤32):(bu x n).testBit j=(decide (32-n≤j)&&x.testBit j):=by
 unfold bu
 rw[Nat.testBit_mul_two_pow]
 by_cases h:32-n≤j
 ·simp only[h,decide_true,Bool.true_and]
  rw[Nat.testBit_div_two_pow];congr 1;omega
 ·simp[h]
theorem WB (n:Nat) (hn:n≤32):jc n=(2^n-1)*2^ (32-n):=by
 unfold jc
 rw[Nat.sub_mul,←Nat.pow_add,show n+(32-n)=32 by omega];omega
theorem Sv (n j:Nat) (hn:n≤32):(jc n).testBit j=(decide (32-n≤j)&&decide (j<32)):=by
 rw[WB n hn,Nat.testBit_mul_two_pow,Nat.testBit_two_pow_sub_one]
 by_cases h:32-n≤j
 ·simp only[h,decide_true,Bool.true_and]
  congr 1;simp;omega
 ·simp[h]
theorem Zw (x n:Nat) (hx:x<4294967296) (hn:n≤32):x&&&jc n=bu x n:=by
 apply Nat.eq_of_testBit_eq
 intro j
 rw[Nat.testBit_and,rU x n j hn,Sv n j hn]
 by_cases hj:j<32
 ·simp[hj,Bool.and_comm]
 ·have:x.testBit j=false:=Nat.testBit_lt_two_pow (Nat.lt_of_lt_of_le hx (by rw[show 4294967296=2^32 from rfl];exact Nat.pow_le_pow_right (by omega) (by omega)))
  simp[this]
theorem uy (x n:Nat):bu x n≤x:=Nat.div_mul_le_self _ _
theorem QM (x n:Nat) (hn:n<32):bu x n|||(x/ 2^ (31-n) % 2*2^ (31-n))=bu x (n+1):=by
 apply Nat.eq_of_testBit_eq
 intro j
 rw[Nat.testBit_or,rU x n j (by omega),rU x (n+1) j (by omega),Nat.testBit_mul_two_pow]
 have e1: ∀q:Nat,(x/ 2^ (31-n) % 2).testBit q=(decide (q<1)&&(x/ 2^ (31-n)).testBit q):=fun q=>by
  have:=Nat.testBit_mod_two_pow (x/ 2^ (31-n)) 1 q
  simpa using this
 rw[e1,Nat.testBit_div_two_pow]
 by_cases h1:32-n≤j
 ·have h2:32- (n+1)≤j:=by omega
  have h3: ¬(j- (31-n)<1):=by omega
  simp[h1,h2,h3];intro _;omega
 ·by_cases h2:j=31-n
  ·subst h2
   have h3:32- (n+1)≤31-n:=by omega
   simp[h1,h3]
  ·have h3: ¬32- (n+1)≤j:=by omega
   have h4: ¬31-n≤j:=by omega
   simp[h1,h3,h4]
theorem QL (x:Nat) (hx:x<4294967296):bu x 0=0:=by
 unfold bu;rw[Nat.div_eq_of_lt (by simpa using hx),Nat.zero_mul]
def bI (n:Int):Nat:=if n≤0 then 0 else if n≤32 then n.toNat else 32
theorem su (n:Int):bI n≤32:=by
 unfold bI
 repeat' split
 all_goals omega
section
variable {k:AV→Prop}
theorem sK (r:Nat) (hr:r<4294967296):IntKind.wrap .u32 (r:Int)=(r:Int):=by
 simp[IntKind.wrap,IntKind.signed,IntKind.bits];omega
theorem s5 (a:Nat) (ha:a<4294967296):(BitVec.ofInt 32 (a:Int)).toNat=a:=by
 rw[BitVec.toNat_ofInt];omega
theorem Pw (a b:Nat) (ha:a<4294967296) (hb:b<4294967296):intBits .and .u32 (a:Int) (b:Int)=((a&&&b:Nat):Int):=by
 have hl:a&&&b<4294967296:=Nat.lt_of_le_of_lt Nat.and_le_left ha
 show IntKind.wrap .u32 (((BitVec.ofInt 32 (a:Int)&&&BitVec.ofInt 32 (b:Int)).toNat:Nat):Int)=_
 rw[BitVec.toNat_and,s5 a ha,s5 b hb];exact sK _ hl
theorem abR (a b:Nat) (ha:a<4294967296) (hb:b<4294967296):intBits .or .u32 (a:Int) (b:Int)=((a|||b:Nat):Int):=by
 have hl:a|||b<4294967296:=Nat.or_lt_two_pow (n:=32) ha hb
 show IntKind.wrap .u32 (((BitVec.ofInt 32 (a:Int)|||BitVec.ofInt 32 (b:Int)).toNat:Nat):Int)=_
 rw[BitVec.toNat_or,s5 a ha,s5 b hb];exact sK _ hl
theorem vZ {a b:Nat} (h:k (.int .u32 ((a&&&b:Nat):Int))) (ha:a<4294967296:=by omega) (hb:b<4294967296:=by omega): ∃v,bv .and (.int .u32 (a:Int)) (.int .u32 (b:Int))=some v∧k v:=⟨_,by show some (AV.int .u32 (intBits .and .u32 _ _))=_;rw[Pw a b ha hb],h⟩
theorem adL {a b:Nat} (h:k (.int .u32 ((a|||b:Nat):Int))) (ha:a<4294967296) (hb:b<4294967296): ∃v,bv .or (.int .u32 (a:Int)) (.int .u32 (b:Int))=some v∧k v:=⟨_,by show some (AV.int .u32 (intBits .or .u32 _ _))=_;rw[abR a b ha hb],h⟩
theorem adM {n:Nat} {j:Int} (h:k (.int .u32 ((jc n:Nat):Int))) (hj:j=32- (n:Int)) (hn:n≤32): ∃v,bv .shl (.int .u32 4294967295) (.int .i64 j)=some v∧k v:=by
 refine ⟨_,?_,h⟩
 show (if j<0 then none else some (AV.int .u32 (IntKind.wrap .u32 (4294967295*2^ (min j.toNat 32)))))=_
 rw[if_neg (by omega),show min j.toNat 32=32-n by omega]
 have h1:(2:Nat)^ (32-n)≤2^32:=Nat.pow_le_pow_right (by omega) (by omega)
 have h2:0<(2:Nat)^ (32-n):=Nat.pow_pos (by omega)
 have e:(4294967295*2^ (32-n):Int)=((jc n:Nat):Int)+4294967296* ((2^ (32-n)-1:Nat):Int):=by
  unfold jc
  have:((2^ (32-n):Nat):Int)=(2:Int)^ (32-n):=by simp
  rw[←this];omega
 congr 2
 rw[e]
 have h3:jc n<4294967296:=by unfold jc;omega
 simp[IntKind.wrap,IntKind.signed,IntKind.bits];omega
theorem abb {x:Nat} {j:Int} (h:k (.int .u32 ((x/ 2^j.toNat:Nat):Int))) (h0:0≤j) (h1:j≤32): ∃v,bv .shr (.int .u32 (x:Int)) (.int .u64 j)=some v∧k v:=by
 refine ⟨_,?_,h⟩
 show (if j<0 then none else some (AV.int .u32 ((x:Int).fdiv (2^ (min j.toNat 32)))))=_
 rw[if_neg (by omega),show min j.toNat 32=j.toNat by omega]
 congr 2
 rw[Int.fdiv_eq_ediv_of_nonneg _ (by exact Int.le_of_lt (Int.pow_pos (by omega)))]
 simp
theorem adI {b m:Nat} {j:Int} (h:k (.int .u32 ((b*2^m:Nat):Int))) (hj:j=m) (hm:m<32) (hb:b<2): ∃v,bv .shl (.int .u32 (b:Int)) (.int .u64 j)=some v∧k v:=by
 refine ⟨_,?_,h⟩
 show (if j<0 then none else some (AV.int .u32 (IntKind.wrap .u32 ((b:Int)*2^ (min j.toNat 32)))))=_
 rw[if_neg (by omega),show min j.toNat 32=m by omega]
 have h1:(2:Nat)^m≤2^31:=Nat.pow_le_pow_right (by omega) (by omega)
 have e:((b:Int)*2^m:Int)=((b*2^m:Nat):Int):=by simp
 rw[e]
 have h3:b*2^m<4294967296:=by
  have:b*2^m≤1*2^m:=Nat.mul_le_mul_right _ (by omega)
  omega
 congr 2
 simp only[IntKind.wrap,IntKind.signed,IntKind.bits];simp;omega
theorem adN {x:Nat} (hx:x<4294967296) (h:k (.int .u32 ((x % 2:Nat):Int))): ∃v,bv .and (.int .u32 (x:Int)) (.int .u32 1)=some v∧k v:=
 ⟨_,by
  show some (AV.int .u32 (intBits .and .u32 (x:Int) ((1:Nat):Int)))=_
  rw[Pw x 1 hx (by omega),Nat.and_one_is_mod],h⟩
end
end Go.AM.IR
namespace Go.AM.IR
theorem zO (n:Int):aq G 186 [.int .i64 n,.int .i64 32] [] ⟨.int .i64 (bI n:Nat),[]⟩:=by
 by_cases h0:n≤0
 ·rw[show bI n=0 from by simp[bI,h0]]
  by_cases h1:n=0
  ·subst h1
   exact gvA (F:=zn)
  ·have h2:n<0:=by omega
   refine ab (F:=zn) rfl rfl (am 300 _ _ _ _ ?_)
   repeat' (first|refine ae ?_|(refine aa ?_ ?_<;>intro h))
   refine ag ?_;first|rfl|(simp[h2])
 ·by_cases h1:n≤32
  ·rw[show ((bI n:Nat):Int)=n from by simp[bI,h0,h1];omega]
   exact gvA (F:=zn)
  ·rw[show bI n=32 from by simp[bI,h0,h1]]
   exact gvA (F:=zn)
theorem GY (n:Int):aq G 184 [.int .i64 n,.int .i64 32] [] ⟨.int .i64 (bI n:Nat),[]⟩:=by
 by_cases h0:n≤0
 ·rw[show bI n=0 from by simp[bI,h0]]
  by_cases h1:n=0
  ·subst h1
   exact gvA (F:=zo)
  ·have h2:n<0:=by omega
   refine ab (F:=zo) rfl rfl (am 300 _ _ _ _ ?_)
   repeat' (first|refine ae ?_|(refine aa ?_ ?_<;>intro h))
   refine ag ?_;first|rfl|(simp[h2])
 ·by_cases h1:n≤32
  ·rw[show ((bI n:Nat):Int)=n from by simp[bI,h0,h1];omega]
   exact gvA (F:=zo)
  ·rw[show bI n=32 from by simp[bI,h0,h1]]
   exact gvA (F:=zo)
theorem Dx (n:Int):aq G 183 [.int .i64 n] [] ⟨.int .u32 (jc (bI n):Nat),[]⟩:=by
 have hc:=zO n
 have hl:=su n
 generalize bI n=c at*
 refine ab (F:=YY) rfl rfl (am 300 _ _ _ _ ?_)
 repeat' ((conv=>whnf);first|refine adM (n:=c) ?_ (by omega) (by omega)|refine ay ?_|(refine aa ?_ ?_<;>intro h))
 refine ag ?_;rfl
theorem qW (x:Nat) (n:Int) (hx:x<4294967296):aq G 181 [.int .u32 (x:Int),.int .i64 n] [] ⟨.int .u32 (bu x (bI n):Nat),[]⟩:=by
 have hm:=Dx n
 have hl:=su n
 rw[←Zw x (bI n) hx hl]
 have hb:jc (bI n)<4294967296:=by unfold jc;have:=Nat.pow_pos (n:=32-bI n) (show 0<2 by omega);omega
 generalize jc (bI n)=mk at*
 refine ab (F:=Y6) rfl rfl (am 300 _ _ _ _ ?_)
 repeat' ((conv=>whnf);first|refine vZ ?_ hx hb|refine ay ?_|(refine aa ?_ ?_<;>intro h))
 refine ag ?_;rfl
theorem Nr (x i:Nat) (hx:x<4294967296) (hi:i<32):aq G 185 [.int .u32 (x:Int),.int .i64 (i:Int)] [] ⟨.int .i64 (x/ 2^ (31-i) % 2:Nat),[]⟩:=by
 have he:(31- (i:Int)).toNat=31-i:=by omega
 have hd:x/ 2^ (31-i)<4294967296:=Nat.lt_of_le_of_lt (Nat.div_le_self _ _) hx
 have hm:x/ 2^ (31-i) % 2<2:=Nat.mod_lt _ (by omega)
 rw[←he] at hd hm⊢
 refine ab (F:=YX) rfl rfl (am 300 _ _ _ _ ?_)
 repeat' ((conv=>whnf);first|refine abb ?_ (by omega) (by omega)|refine adN hd ?_|refine ay ?_|(refine aa ?_ ?_<;>intro h))
 refine ag ?_;rfl
theorem rT (x c:Nat) (hx:x<4294967296) (hc:c≤32): ∀(d i:Nat) (T:List (Nat×AV)) (H:ax) (ct:Nat) (hd:d+i=c),
  Ev G ⟨YZ,⟨(9,.int .i64 (i:Int))::(0,.int .u32 (x:Int))::(5,.int .u32 (bu x i:Nat))::(8,.int .i64 (c:Int))::T,H,ct⟩,[.t 4],0⟩ ⟨.int .u32 (bu x c:Nat),[]⟩
 |0,i,T,H,ct,hd=>by
  obtain rfl:i=c:=by omega
  refine evl ?_
  repeat' (first|refine ae ?_|(refine aa ?_ ?_<;>intro h))
  refine ag ?_;rfl
 |d+1,i,T,H,ct,hd=>by
  have ha:=Nr x i hx (by omega)
  have hb:x/ 2^ (31-i) % 2<2:=Nat.mod_lt _ (by omega)
  have hk:=QM x i (by omega)
  have hl:=uy x i
  have hs:x/ 2^ (31-i) % 2*2^ (31-i)<4294967296:=by
   have h1:(2:Nat)^ (31-i)≤2^31:=Nat.pow_le_pow_right (by omega) (by omega)
   have h2:=Nat.mul_le_mul_right (2^ (31-i)) (show x/ 2^ (31-i) % 2≤1 by omega)
   omega
  generalize x/ 2^ (31-i) % 2=b at*
  generalize hki:bu x i=ki at*
  refine evl ?_
  repeat' ((conv=>whnf);first|refine adI (m:=31-i) ?_ (by omega) (by omega) hb|refine adL ?_ (by omega) hs|refine ay ?_|(refine aa ?_ ?_<;>intro h))
  rw[hk]
  refine ah [9,0,5,8] [] ?_
  exact rT x c hx hc d (i+1) _ _ _ (by omega)
theorem DC (x:Nat) (n:Int) (hx:x<4294967296):aq G 182 [.int .u32 (x:Int),.int .i64 n] [] ⟨.int .u32 (bu x (bI n):Nat),[]⟩:=by
 have hm:=GY n
 have hl:=su n
 have h0:=QL x hx
 generalize bI n=c at*
 refine ab (F:=Y5) rfl rfl (am 300 _ _ _ _ ?_)
 repeat' (first|refine ae ?_|(refine aa ?_ ?_<;>intro h))
 refine ah [9,0,5,8] [] ?_
 have:=rT x c hx hl c 0
 rw[h0] at this
 exact this _ _ _ rfl
def ba (p:Pfx):Bool:=decide (0≤p.len∧p.len≤32∧(bu p.addr.toNat p.len.toNat:Int)=p.addr)
theorem eW (p:Pfx) (h:p.ok):aq G 178 [.agg p.enc] [] ⟨.bool (ba p),[]⟩:=by
 obtain ⟨a,n⟩:=p
 obtain ⟨x,rfl⟩: ∃x:Nat,a=x:=⟨a.toNat,by have:=h.addr;unfold okU at this;simp only at this;omega⟩
 have hx:x<4294967296:=by have:=h.addr;unfold okU at this;simp only at this;omega
 have hk:=qW x n hx
 have hkl:=uy x (bI n)
 by_cases hn:0≤n∧n≤32
 ·obtain ⟨n0,n1⟩:=hn
  have hc:bI n=n.toNat:=by unfold bI;repeat' split<;>omega
  rw[hc] at hk hkl
  by_cases hq:bu x n.toNat=x
  ·rw[show ba ⟨x,n⟩=true from by simp[ba,n0,n1,hq]]
   rw[hq] at hk
   refine ab (F:=zq) rfl rfl (am 300 _ _ _ _ ?_)
   repeat' (first|refine ae ?_|(refine aa ?_ ?_<;>intro h))
   refine ag ?_;simp
  ·rw[show ba ⟨x,n⟩=false from by simp only[ba,decide_eq_false_iff_not];intro hh;exact hq (by have:=hh.2.2;simp only[Int.toNat_natCast] at this;omega)]
   have hq2: ¬((bu x n.toNat:Nat):Int)=(x:Int):=by omega
   generalize bu x n.toNat=kq at*
   refine ab (F:=zq) rfl rfl (am 300 _ _ _ _ ?_)
   repeat' (first|refine ae ?_|(refine aa ?_ ?_<;>intro h))
   refine ag ?_;simp[hq2]
 ·rw[show ba ⟨x,n⟩=false from by simp[ba];omega]
  by_cases n0:0≤n
  ·have n1: ¬n≤32:=by omega
   exact gvA (F:=zq)
  ·exact gvA (F:=zq)
end Go.AM.IR
namespace Go.AM.IR
theorem cr (p:Pfx) (h:p.ok):aq G 179 [.agg p.enc] [] ⟨.bool (ba p),[]⟩:=by
 obtain ⟨a,n⟩:=p
 obtain ⟨x,rfl⟩: ∃x:Nat,a=x:=⟨a.toNat,by have:=h.addr;unfold okU at this;simp only at this;omega⟩
 have hx:x<4294967296:=by have:=h.addr;unfold okU at this;simp only at this;omega
 have hk:=DC x n hx
 have hkl:=uy x (bI n)
 by_cases hn:0≤n∧n≤32
 ·obtain ⟨n0,n1⟩:=hn
  have hc:bI n=n.toNat:=by unfold bI;repeat' split<;>omega
  rw[hc] at hk hkl
  by_cases hq:bu x n.toNat=x
  ·rw[show ba ⟨x,n⟩=true from by simp[ba,n0,n1,hq]]
   rw[hq] at hk
   refine ab (F:=zp) rfl rfl (am 300 _ _ _ _ ?_)
   repeat' (first|refine ae ?_|(refine aa ?_ ?_<;>intro h))
   refine ag ?_;simp
  ·rw[show ba ⟨x,n⟩=false from by simp only[ba,decide_eq_false_iff_not];intro hh;exact hq (by have:=hh.2.2;simp only[Int.toNat_natCast] at this;omega)]
   have hq2: ¬((bu x n.toNat:Nat):Int)=(x:Int):=by omega
   generalize bu x n.toNat=kq at*
   refine ab (F:=zp) rfl rfl (am 300 _ _ _ _ ?_)
   repeat' (first|refine ae ?_|(refine aa ?_ ?_<;>intro h))
   refine ag ?_;simp[hq2]
 ·rw[show ba ⟨x,n⟩=false from by simp[ba];omega]
  by_cases n0:0≤n
  ·have n1: ¬n≤32:=by omega
   exact gvA (F:=zp)
  ·exact gvA (F:=zp)
def cU (p q:Pfx):Int:=if p.addr<q.addr∨(p.addr=q.addr∧p.len<q.len) then-1 else if p=q then 0 else 1
end Go.AM.IR
namespace Go.AM.IR
section
variable {kv:AV→Prop}
theorem eU {a b:List UInt8} (n:a=b) (h:kv (.bool false)): ∃v,bv .neq (.str a) (.str b)=some v∧kv v:=⟨.bool false,by show some (AV.bool (!(a==b)))=_;simp[n],h⟩
theorem EW {a b:List UInt8} (n: ¬a=b) (h:kv (.bool true)): ∃v,bv .neq (.str a) (.str b)=some v∧kv v:=⟨.bool true,by show some (AV.bool (!(a==b)))=_;simp[n],h⟩
end
def qr (s:PSet) (m:Mat):Int:=if m.n≠0 then 1 else if m.pfx.addr≠0 then 1 else if m.pfx.len≠0 then 1 else if lZ s.prefixes m.name=none then 6 else if ba m.pfx=false then 1 else 0
theorem ad5 (s:PSet) (hs:s.prefixes.length<2^40∧s.paths.length<2^40∧s.comms.length<2^40) (m:Mat) (hp:m.pfx.ok) (hk:m.kind=1):aq G 574 [.agg s.enc,.agg m.enc] [] ⟨.int .i64 (qr s m),[]⟩:=by
 have h0:=eo m.kind
 rw[hk] at h0
 have h1:aq G 179 [.agg [.int .u32 m.pfx.addr,.int .i64 m.pfx.len]] [] ⟨.bool (ba m.pfx),[]⟩:=cr m.pfx hp
 have h0:aq G 619 [.int .i64 m.kind] [] (eK 1):=by rw[hk];exact h0
 simp (decide:=true) only[eK,if_true,if_false,reduceIte] at h0
 have h2:=F5 s hs.1 m.name
 by_cases c0:m.n≠0
 ·rw[qr,if_pos c0]
  exact gvA (F:=bH)
 have d0:m.n=0:=Decidable.not_not.1 c0
 by_cases c1:m.pfx.addr≠0
 ·rw[qr,if_neg c0,if_pos c1]
  exact gvA (F:=bH)
 have d1:m.pfx.addr=0:=Decidable.not_not.1 c1
 by_cases c2:m.pfx.len≠0
 ·rw[qr,if_neg c0,if_neg c1,if_pos c2]
  exact gvA (F:=bH)
 have d2:m.pfx.len=0:=Decidable.not_not.1 c2
 rcases hf:lZ s.prefixes m.name with _|f
 ·rw[hf] at h2
  simp only[Qy] at h2
  rw[qr,if_neg c0,if_neg c1,if_neg c2,if_pos hf]
  exact gvA (F:=bH)
 rw[hf] at h2
 simp only[Qy] at h2
 have c3: ¬lZ s.prefixes m.name=none:=by rw[hf];simp
 rcases hv:ba m.pfx with _|_
 ·rw[hv] at h1
  rw[qr,if_neg c0,if_neg c1,if_neg c2,if_neg c3,if_pos hv]
  exact gvA (F:=bH)
 ·rw[hv] at h1
  rw[qr,if_neg c0,if_neg c1,if_neg c2,if_neg c3,if_neg (by rw[hv];simp)]
  exact gvA (F:=bH)
def qq (s:PSet) (m:Mat):Int:=if m.n≠0 then 1 else if m.pfx.addr≠0 then 1 else if m.pfx.len≠0 then 1 else if l6 s.paths m.name=none then 6 else if ba m.pfx=false then 1 else 0
theorem ad4 (s:PSet) (hs:s.prefixes.length<2^40∧s.paths.length<2^40∧s.comms.length<2^40) (m:Mat) (hp:m.pfx.ok) (hk:m.kind=2):aq G 574 [.agg s.enc,.agg m.enc] [] ⟨.int .i64 (qq s m),[]⟩:=by
 have h0:=eo m.kind
 rw[hk] at h0
 have h1:aq G 179 [.agg [.int .u32 m.pfx.addr,.int .i64 m.pfx.len]] [] ⟨.bool (ba m.pfx),[]⟩:=cr m.pfx hp
 have h0:aq G 619 [.int .i64 m.kind] [] (eK 2):=by rw[hk];exact h0
 simp (decide:=true) only[eK,if_true,if_false,reduceIte] at h0
 have h2:=F7 s hs.2.1 m.name
 by_cases c0:m.n≠0
 ·rw[qq,if_pos c0]
  exact gvA (F:=bH)
 have d0:m.n=0:=Decidable.not_not.1 c0
 by_cases c1:m.pfx.addr≠0
 ·rw[qq,if_neg c0,if_pos c1]
  exact gvA (F:=bH)
 have d1:m.pfx.addr=0:=Decidable.not_not.1 c1
 by_cases c2:m.pfx.len≠0
 ·rw[qq,if_neg c0,if_neg c1,if_pos c2]
  exact gvA (F:=bH)
 have d2:m.pfx.len=0:=Decidable.not_not.1 c2
 rcases hf:l6 s.paths m.name with _|f
 ·rw[hf] at h2
  simp only[QB] at h2
  rw[qq,if_neg c0,if_neg c1,if_neg c2,if_pos hf]
  exact gvA (F:=bH)
 rw[hf] at h2
 simp only[QB] at h2
 have c3: ¬l6 s.paths m.name=none:=by rw[hf];simp
 rcases hv:ba m.pfx with _|_
 ·rw[hv] at h1
  rw[qq,if_neg c0,if_neg c1,if_neg c2,if_neg c3,if_pos hv]
  exact gvA (F:=bH)
 ·rw[hv] at h1
  rw[qq,if_neg c0,if_neg c1,if_neg c2,if_neg c3,if_neg (by rw[hv];simp)]
  exact gvA (F:=bH)
def qp (s:PSet) (m:Mat):Int:=if m.n≠0 then 1 else if m.pfx.addr≠0 then 1 else if m.pfx.len≠0 then 1 else if me s.comms m.name=none then 6 else if ba m.pfx=false then 1 else 0
theorem ad3 (s:PSet) (hs:s.prefixes.length<2^40∧s.paths.length<2^40∧s.comms.length<2^40) (m:Mat) (hp:m.pfx.ok) (hk:m.kind=3):aq G 574 [.agg s.enc,.agg m.enc] [] ⟨.int .i64 (qp s m),[]⟩:=by
 have h0:=eo m.kind
 rw[hk] at h0
 have h1:aq G 179 [.agg [.int .u32 m.pfx.addr,.int .i64 m.pfx.len]] [] ⟨.bool (ba m.pfx),[]⟩:=cr m.pfx hp
 have h0:aq G 619 [.int .i64 m.kind] [] (eK 3):=by rw[hk];exact h0
 simp (decide:=true) only[eK,if_true,if_false,reduceIte] at h0
 have h2:=Kh s hs.2.2 m.name
 by_cases c0:m.n≠0
 ·rw[qp,if_pos c0]
  exact gvA (F:=bH)
 have d0:m.n=0:=Decidable.not_not.1 c0
 by_cases c1:m.pfx.addr≠0
 ·rw[qp,if_neg c0,if_pos c1]
  exact gvA (F:=bH)
 have d1:m.pfx.addr=0:=Decidable.not_not.1 c1
 by_cases c2:m.pfx.len≠0
 ·rw[qp,if_neg c0,if_neg c1,if_pos c2]
  exact gvA (F:=bH)
 have d2:m.pfx.len=0:=Decidable.not_not.1 c2
 rcases hf:me s.comms m.name with _|f
 ·rw[hf] at h2
  simp only[Rn] at h2
  rw[qp,if_neg c0,if_neg c1,if_neg c2,if_pos hf]
  exact gvA (F:=bH)
 rw[hf] at h2
 simp only[Rn] at h2
 have c3: ¬me s.comms m.name=none:=by rw[hf];simp
 rcases hv:ba m.pfx with _|_
 ·rw[hv] at h1
  rw[qp,if_neg c0,if_neg c1,if_neg c2,if_neg c3,if_pos hv]
  exact gvA (F:=bH)
 ·rw[hv] at h1
  rw[qp,if_neg c0,if_neg c1,if_neg c2,if_neg c3,if_neg (by rw[hv];simp)]
  exact gvA (F:=bH)
def oL (s:PSet) (m:Mat):Int:=if m.name≠ [] then 1 else if m.pfx.addr≠0 then 1 else if m.pfx.len≠0 then 1 else if m.n<1 then 5 else if 7<m.n then 5 else if ba m.pfx=false then 1 else 0
theorem ad2 (s:PSet) (hs:s.prefixes.length<2^40∧s.paths.length<2^40∧s.comms.length<2^40) (m:Mat) (hp:m.pfx.ok) (hk:m.kind=4):aq G 574 [.agg s.enc,.agg m.enc] [] ⟨.int .i64 (oL s m),[]⟩:=by
 have h0:=eo m.kind
 rw[hk] at h0
 have h1:aq G 179 [.agg [.int .u32 m.pfx.addr,.int .i64 m.pfx.len]] [] ⟨.bool (ba m.pfx),[]⟩:=cr m.pfx hp
 have h0:aq G 619 [.int .i64 m.kind] [] (eK 4):=by rw[hk];exact h0
 simp only[eK] at h0
 simp (decide:=true) only[eK,if_true,if_false,reduceIte] at h0
 by_cases c0:m.name≠ []
 ·rw[oL,if_pos c0]
  refine ab (F:=bH) rfl rfl (am 300 _ _ _ _ ?_)
  repeat' ((conv=>whnf);first|refine EW c0 ?_|refine ay ?_|(refine aa ?_ ?_<;>intro h))
  refine ag ?_;rfl
 have d0:m.name= []:=Decidable.not_not.1 c0
 by_cases c1:m.pfx.addr≠0
 ·rw[oL,if_neg c0,if_pos c1]
  refine ab (F:=bH) rfl rfl (am 300 _ _ _ _ ?_)
  repeat' ((conv=>whnf);first|refine eU d0 ?_|refine ay ?_|(refine aa ?_ ?_<;>intro h))
  refine ag ?_;rfl
 have d1:m.pfx.addr=0:=Decidable.not_not.1 c1
 by_cases c2:m.pfx.len≠0
 ·rw[oL,if_neg c0,if_neg c1,if_pos c2]
  refine ab (F:=bH) rfl rfl (am 300 _ _ _ _ ?_)
  repeat' ((conv=>whnf);first|refine eU d0 ?_|refine ay ?_|(refine aa ?_ ?_<;>intro h))
  refine ag ?_;rfl
 have d2:m.pfx.len=0:=Decidable.not_not.1 c2
 by_cases c3:m.n<1
 ·rw[oL,if_neg c0,if_neg c1,if_neg c2,if_pos c3]
  refine ab (F:=bH) rfl rfl (am 300 _ _ _ _ ?_)
  repeat' ((conv=>whnf);first|refine eU d0 ?_|refine ay ?_|(refine aa ?_ ?_<;>intro h))
  refine ag ?_;rfl
 by_cases c4:7<m.n
 ·rw[oL,if_neg c0,if_neg c1,if_neg c2,if_neg c3,if_pos c4]
  refine ab (F:=bH) rfl rfl (am 300 _ _ _ _ ?_)
  repeat' ((conv=>whnf);first|refine eU d0 ?_|refine ay ?_|(refine aa ?_ ?_<;>intro h))
  refine ag ?_;rfl
 rcases hv:ba m.pfx with _|_
 ·rw[hv] at h1
  rw[oL,if_neg c0,if_neg c1,if_neg c2,if_neg c3,if_neg c4,if_pos hv]
  refine ab (F:=bH) rfl rfl (am 300 _ _ _ _ ?_)
  repeat' ((conv=>whnf);first|refine eU d0 ?_|refine ay ?_|(refine aa ?_ ?_<;>intro h))
  refine ag ?_;rfl
 ·rw[hv] at h1
  rw[oL,if_neg c0,if_neg c1,if_neg c2,if_neg c3,if_neg c4,if_neg (by rw[hv];simp)]
  refine ab (F:=bH) rfl rfl (am 300 _ _ _ _ ?_)
  repeat' ((conv=>whnf);first|refine eU d0 ?_|refine ay ?_|(refine aa ?_ ?_<;>intro h))
  refine ag ?_;rfl
def oH (s:PSet) (m:Mat):Int:=if m.name≠ [] then 1 else if m.pfx.addr≠0 then 1 else if m.pfx.len≠0 then 1 else if m.n<0 then 5 else if 4294967295<m.n then 5 else if ba m.pfx=false then 1 else 0
theorem ad1 (s:PSet) (hs:s.prefixes.length<2^40∧s.paths.length<2^40∧s.comms.length<2^40) (m:Mat) (hp:m.pfx.ok) (hk:m.kind=5):aq G 574 [.agg s.enc,.agg m.enc] [] ⟨.int .i64 (oH s m),[]⟩:=by
 have h0:=eo m.kind
 rw[hk] at h0
 have h1:aq G 179 [.agg [.int .u32 m.pfx.addr,.int .i64 m.pfx.len]] [] ⟨.bool (ba m.pfx),[]⟩:=cr m.pfx hp
 have h0:aq G 619 [.int .i64 m.kind] [] (eK 5):=by rw[hk];exact h0
 simp only[eK] at h0
 simp (decide:=true) only[eK,if_true,if_false,reduceIte] at h0
 by_cases c0:m.name≠ []
 ·rw[oH,if_pos c0]
  refine ab (F:=bH) rfl rfl (am 300 _ _ _ _ ?_)
  repeat' ((conv=>whnf);first|refine EW c0 ?_|refine ay ?_|(refine aa ?_ ?_<;>intro h))
  refine ag ?_;rfl
 have d0:m.name= []:=Decidable.not_not.1 c0
 by_cases c1:m.pfx.addr≠0
 ·rw[oH,if_neg c0,if_pos c1]
  refine ab (F:=bH) rfl rfl (am 300 _ _ _ _ ?_)
  repeat' ((conv=>whnf);first|refine eU d0 ?_|refine ay ?_|(refine aa ?_ ?_<;>intro h))
  refine ag ?_;rfl
 have d1:m.pfx.addr=0:=Decidable.not_not.1 c1
 by_cases c2:m.pfx.len≠0
 ·rw[oH,if_neg c0,if_neg c1,if_pos c2]
  refine ab (F:=bH) rfl rfl (am 300 _ _ _ _ ?_)
  repeat' ((conv=>whnf);first|refine eU d0 ?_|refine ay ?_|(refine aa ?_ ?_<;>intro h))
  refine ag ?_;rfl
 have d2:m.pfx.len=0:=Decidable.not_not.1 c2
 by_cases c3:m.n<0
 ·rw[oH,if_neg c0,if_neg c1,if_neg c2,if_pos c3]
  refine ab (F:=bH) rfl rfl (am 300 _ _ _ _ ?_)
  repeat' ((conv=>whnf);first|refine eU d0 ?_|refine ay ?_|(refine aa ?_ ?_<;>intro h))
  refine ag ?_;rfl
 by_cases c4:4294967295<m.n
 ·rw[oH,if_neg c0,if_neg c1,if_neg c2,if_neg c3,if_pos c4]
  refine ab (F:=bH) rfl rfl (am 300 _ _ _ _ ?_)
  repeat' ((conv=>whnf);first|refine eU d0 ?_|refine ay ?_|(refine aa ?_ ?_<;>intro h))
  refine ag ?_;rfl
 rcases hv:ba m.pfx with _|_
 ·rw[hv] at h1
  rw[oH,if_neg c0,if_neg c1,if_neg c2,if_neg c3,if_neg c4,if_pos hv]
  refine ab (F:=bH) rfl rfl (am 300 _ _ _ _ ?_)
  repeat' ((conv=>whnf);first|refine eU d0 ?_|refine ay ?_|(refine aa ?_ ?_<;>intro h))
  refine ag ?_;rfl
 ·rw[hv] at h1
  rw[oH,if_neg c0,if_neg c1,if_neg c2,if_neg c3,if_neg c4,if_neg (by rw[hv];simp)]
  refine ab (F:=bH) rfl rfl (am 300 _ _ _ _ ?_)
  repeat' ((conv=>whnf);first|refine eU d0 ?_|refine ay ?_|(refine aa ?_ ?_<;>intro h))
  refine ag ?_;rfl
def oG (s:PSet) (m:Mat):Int:=if m.name≠ [] then 1 else if m.pfx.addr≠0 then 1 else if m.pfx.len≠0 then 1 else if m.n<0 then 5 else if 16777216<m.n then 5 else if ba m.pfx=false then 1 else 0
theorem ad0 (s:PSet) (hs:s.prefixes.length<2^40∧s.paths.length<2^40∧s.comms.length<2^40) (m:Mat) (hp:m.pfx.ok) (hk:m.kind=6):aq G 574 [.agg s.enc,.agg m.enc] [] ⟨.int .i64 (oG s m),[]⟩:=by
 have h0:=eo m.kind
 rw[hk] at h0
 have h1:aq G 179 [.agg [.int .u32 m.pfx.addr,.int .i64 m.pfx.len]] [] ⟨.bool (ba m.pfx),[]⟩:=cr m.pfx hp
 have h0:aq G 619 [.int .i64 m.kind] [] (eK 6):=by rw[hk];exact h0
 simp only[eK] at h0
 simp (decide:=true) only[eK,if_true,if_false,reduceIte] at h0
 by_cases c0:m.name≠ []
 ·rw[oG,if_pos c0]
  refine ab (F:=bH) rfl rfl (am 300 _ _ _ _ ?_)
  repeat' ((conv=>whnf);first|refine EW c0 ?_|refine ay ?_|(refine aa ?_ ?_<;>intro h))
  refine ag ?_;rfl
 have d0:m.name= []:=Decidable.not_not.1 c0
 by_cases c1:m.pfx.addr≠0
 ·rw[oG,if_neg c0,if_pos c1]
  refine ab (F:=bH) rfl rfl (am 300 _ _ _ _ ?_)
  repeat' ((conv=>whnf);first|refine eU d0 ?_|refine ay ?_|(refine aa ?_ ?_<;>intro h))
  refine ag ?_;rfl
 have d1:m.pfx.addr=0:=Decidable.not_not.1 c1
 by_cases c2:m.pfx.len≠0
 ·rw[oG,if_neg c0,if_neg c1,if_pos c2]
  refine ab (F:=bH) rfl rfl (am 300 _ _ _ _ ?_)
  repeat' ((conv=>whnf);first|refine eU d0 ?_|refine ay ?_|(refine aa ?_ ?_<;>intro h))
  refine ag ?_;rfl
 have d2:m.pfx.len=0:=Decidable.not_not.1 c2
 by_cases c3:m.n<0
 ·rw[oG,if_neg c0,if_neg c1,if_neg c2,if_pos c3]
  refine ab (F:=bH) rfl rfl (am 300 _ _ _ _ ?_)
  repeat' ((conv=>whnf);first|refine eU d0 ?_|refine ay ?_|(refine aa ?_ ?_<;>intro h))
  refine ag ?_;rfl
 by_cases c4:16777216<m.n
 ·rw[oG,if_neg c0,if_neg c1,if_neg c2,if_neg c3,if_pos c4]
  refine ab (F:=bH) rfl rfl (am 300 _ _ _ _ ?_)
  repeat' ((conv=>whnf);first|refine eU d0 ?_|refine ay ?_|(refine aa ?_ ?_<;>intro h))
  refine ag ?_;rfl
 rcases hv:ba m.pfx with _|_
 ·rw[hv] at h1
  rw[oG,if_neg c0,if_neg c1,if_neg c2,if_neg c3,if_neg c4,if_pos hv]
  refine ab (F:=bH) rfl rfl (am 300 _ _ _ _ ?_)
  repeat' ((conv=>whnf);first|refine eU d0 ?_|refine ay ?_|(refine aa ?_ ?_<;>intro h))
  refine ag ?_;rfl
 ·rw[hv] at h1
  rw[oG,if_neg c0,if_neg c1,if_neg c2,if_neg c3,if_neg c4,if_neg (by rw[hv];simp)]
  refine ab (F:=bH) rfl rfl (am 300 _ _ _ _ ?_)
  repeat' ((conv=>whnf);first|refine eU d0 ?_|refine ay ?_|(refine aa ?_ ?_<;>intro h))
  refine ag ?_;rfl
def uv (s:PSet) (m:Mat):Int:=if m.name≠ [] then 1 else if m.n≠0 then 1 else if ba m.pfx=false then 1 else 0
theorem adZ (s:PSet) (hs:s.prefixes.length<2^40∧s.paths.length<2^40∧s.comms.length<2^40) (m:Mat) (hp:m.pfx.ok) (hk:m.kind=7):aq G 574 [.agg s.enc,.agg m.enc] [] ⟨.int .i64 (uv s m),[]⟩:=by
 have h0:=eo m.kind
 rw[hk] at h0
 have h1:aq G 179 [.agg [.int .u32 m.pfx.addr,.int .i64 m.pfx.len]] [] ⟨.bool (ba m.pfx),[]⟩:=cr m.pfx hp
 have h0:aq G 619 [.int .i64 m.kind] [] (eK 7):=by rw[hk];exact h0
 simp (decide:=true) only[eK,if_true,if_false,reduceIte] at h0
 by_cases c0:m.name≠ []
 ·rw[uv,if_pos c0]
  refine ab (F:=bH) rfl rfl (am 300 _ _ _ _ ?_)
  repeat' ((conv=>whnf);first|refine EW c0 ?_|refine ay ?_|(refine aa ?_ ?_<;>intro h))
  refine ag ?_;rfl
 have d0:m.name= []:=Decidable.not_not.1 c0
 by_cases c1:m.n≠0
 ·rw[uv,if_neg c0,if_pos c1]
  refine ab (F:=bH) rfl rfl (am 300 _ _ _ _ ?_)
  repeat' ((conv=>whnf);first|refine eU d0 ?_|refine ay ?_|(refine aa ?_ ?_<;>intro h))
  refine ag ?_;rfl
 have d1:m.n=0:=Decidable.not_not.1 c1
 rcases hv:ba m.pfx with _|_
 ·rw[hv] at h1
  rw[uv,if_neg c0,if_neg c1,if_pos hv]
  refine ab (F:=bH) rfl rfl (am 300 _ _ _ _ ?_)
  repeat' ((conv=>whnf);first|refine eU d0 ?_|refine ay ?_|(refine aa ?_ ?_<;>intro h))
  refine ag ?_;rfl
 ·rw[hv] at h1
  rw[uv,if_neg c0,if_neg c1,if_neg (by rw[hv];simp)]
  refine ab (F:=bH) rfl rfl (am 300 _ _ _ _ ?_)
  repeat' ((conv=>whnf);first|refine eU d0 ?_|refine ay ?_|(refine aa ?_ ?_<;>intro h))
  refine ag ?_;rfl
def oE (s:PSet) (m:Mat):Int:=if m.name≠ [] then 1 else if m.pfx.addr≠0 then 1 else if m.pfx.len≠0 then 1 else if m.n<0 then 5 else if 2000<m.n then 5 else if ba m.pfx=false then 1 else 0
theorem adY (s:PSet) (hs:s.prefixes.length<2^40∧s.paths.length<2^40∧s.comms.length<2^40) (m:Mat) (hp:m.pfx.ok) (hk:m.kind=8):aq G 574 [.agg s.enc,.agg m.enc] [] ⟨.int .i64 (oE s m),[]⟩:=by
 have h0:=eo m.kind
 rw[hk] at h0
 have h1:aq G 179 [.agg [.int .u32 m.pfx.addr,.int .i64 m.pfx.len]] [] ⟨.bool (ba m.pfx),[]⟩:=cr m.pfx hp
 have h0:aq G 619 [.int .i64 m.kind] [] (eK 8):=by rw[hk];exact h0
 simp only[eK] at h0
 simp (decide:=true) only[eK,if_true,if_false,reduceIte] at h0
 by_cases c0:m.name≠ []
 ·rw[oE,if_pos c0]
  refine ab (F:=bH) rfl rfl (am 300 _ _ _ _ ?_)
  repeat' ((conv=>whnf);first|refine EW c0 ?_|refine ay ?_|(refine aa ?_ ?_<;>intro h))
  refine ag ?_;rfl
 have d0:m.name= []:=Decidable.not_not.1 c0
 by_cases c1:m.pfx.addr≠0
 ·rw[oE,if_neg c0,if_pos c1]
  refine ab (F:=bH) rfl rfl (am 300 _ _ _ _ ?_)
  repeat' ((conv=>whnf);first|refine eU d0 ?_|refine ay ?_|(refine aa ?_ ?_<;>intro h))
  refine ag ?_;rfl
 have d1:m.pfx.addr=0:=Decidable.not_not.1 c1
 by_cases c2:m.pfx.len≠0
 ·rw[oE,if_neg c0,if_neg c1,if_pos c2]
  refine ab (F:=bH) rfl rfl (am 300 _ _ _ _ ?_)
  repeat' ((conv=>whnf);first|refine eU d0 ?_|refine ay ?_|(refine aa ?_ ?_<;>intro h))
  refine ag ?_;rfl
 have d2:m.pfx.len=0:=Decidable.not_not.1 c2
 by_cases c3:m.n<0
 ·rw[oE,if_neg c0,if_neg c1,if_neg c2,if_pos c3]
  refine ab (F:=bH) rfl rfl (am 300 _ _ _ _ ?_)
  repeat' ((conv=>whnf);first|refine eU d0 ?_|refine ay ?_|(refine aa ?_ ?_<;>intro h))
  refine ag ?_;rfl
 by_cases c4:2000<m.n
 ·rw[oE,if_neg c0,if_neg c1,if_neg c2,if_neg c3,if_pos c4]
  refine ab (F:=bH) rfl rfl (am 300 _ _ _ _ ?_)
  repeat' ((conv=>whnf);first|refine eU d0 ?_|refine ay ?_|(refine aa ?_ ?_<;>intro h))
  refine ag ?_;rfl
 rcases hv:ba m.pfx with _|_
 ·rw[hv] at h1
  rw[oE,if_neg c0,if_neg c1,if_neg c2,if_neg c3,if_neg c4,if_pos hv]
  refine ab (F:=bH) rfl rfl (am 300 _ _ _ _ ?_)
  repeat' ((conv=>whnf);first|refine eU d0 ?_|refine ay ?_|(refine aa ?_ ?_<;>intro h))
  refine ag ?_;rfl
 ·rw[hv] at h1
  rw[oE,if_neg c0,if_neg c1,if_neg c2,if_neg c3,if_neg c4,if_neg (by rw[hv];simp)]
  refine ab (F:=bH) rfl rfl (am 300 _ _ _ _ ?_)
  repeat' ((conv=>whnf);first|refine eU d0 ?_|refine ay ?_|(refine aa ?_ ?_<;>intro h))
  refine ag ?_;rfl
end Go.AM.IR
namespace Go.AM.IR
def qn (s:PSet) (m:Mat):Int:=if m.kind<1 then 15 else if 8<m.kind then 15 else if m.kind=1 then qr s m else if m.kind=2 then qq s m else if m.kind=3 then qp s m else if m.kind=4 then oL s m else if m.kind=5 then oH s m else if m.kind=6 then oG s m else if m.kind=7 then uv s m else oE s m
theorem GJ (s:PSet) (hs:s.prefixes.length<2^40∧s.paths.length<2^40∧s.comms.length<2^40) (m:Mat) (hp:m.pfx.ok):aq G 574 [.agg s.enc,.agg m.enc] [] ⟨.int .i64 (qn s m),[]⟩:=by
 rw[qn]
 by_cases a:m.kind<1
 ·rw[if_pos a]
  exact gvA (F:=bH)
 rw[if_neg a]
 by_cases b:8<m.kind
 ·rw[if_pos b]
  exact gvA (F:=bH)
 rw[if_neg b]
 by_cases k1:m.kind=1
 ·rw[if_pos k1]
  exact ad5 s hs m hp k1
 rw[if_neg k1]
 by_cases k2:m.kind=2
 ·rw[if_pos k2]
  exact ad4 s hs m hp k2
 rw[if_neg k2]
 by_cases k3:m.kind=3
 ·rw[if_pos k3]
  exact ad3 s hs m hp k3
 rw[if_neg k3]
 by_cases k4:m.kind=4
 ·rw[if_pos k4]
  exact ad2 s hs m hp k4
 rw[if_neg k4]
 by_cases k5:m.kind=5
 ·rw[if_pos k5]
  exact ad1 s hs m hp k5
 rw[if_neg k5]
 by_cases k6:m.kind=6
 ·rw[if_pos k6]
  exact ad0 s hs m hp k6
 rw[if_neg k6]
 by_cases k7:m.kind=7
 ·rw[if_pos k7]
  exact adZ s hs m hp k7
 rw[if_neg k7]
 exact adY s hs m hp (by omega)
end Go.AM.IR
namespace Go.AM.IR
def pkE (c:PVC) (p:PeerC):Int:=if p.kind<1 then 15 else if 3<p.kind then 15 else if p.asn<1 then 5 else if 4294967295<p.asn then 5 else
 if p.kind=3∧ ¬p.asn=c.asn then 14 else if¬p.kind=3∧p.asn=c.asn then 14 else if p.asn=c.confed then 14 else if p.kind=2∧c.confed=0 then 14 else 0
theorem Mg (c:PVC) (p:PeerC):aq G 576 [.agg c.enc,.agg p.enc] [] ⟨.int .i64 (pkE c p),[]⟩:=by
 by_cases a1:p.kind<1
 ·rw[pkE,if_pos a1]
  exact gvA (F:=j9)
 by_cases a2:3<p.kind
 ·rw[pkE,if_neg a1,if_pos a2]
  exact gvA (F:=j9)
 by_cases a3:p.asn<1
 ·rw[pkE,if_neg a1,if_neg a2,if_pos a3]
  exact gvA (F:=j9)
 by_cases a4:4294967295<p.asn
 ·rw[pkE,if_neg a1,if_neg a2,if_neg a3,if_pos a4]
  exact gvA (F:=j9)
 rw[pkE,if_neg a1,if_neg a2,if_neg a3,if_neg a4]
 by_cases k:p.kind=3
 ·by_cases e:p.asn=c.asn
  ·rw[if_neg (by simp[e]),if_neg (by simp[k])]
   by_cases f:p.asn=c.confed
   ·rw[if_pos f]
    refine ab (F:=j9) rfl rfl (am 300 _ _ _ _ ?_)
    repeat' ((conv=>whnf);first|refine bp k ?_|refine bp e ?_|refine ay ?_|(refine aa ?_ ?_<;>intro h))
    refine ag ?_;rfl
   ·rw[if_neg f,if_neg (by omega)]
    refine ab (F:=j9) rfl rfl (am 300 _ _ _ _ ?_)
    repeat' ((conv=>whnf);first|refine bp k ?_|refine bp e ?_|refine ay ?_|(refine aa ?_ ?_<;>intro h))
    refine ag ?_;rfl
  ·rw[if_pos ⟨k,e⟩]
   refine ab (F:=j9) rfl rfl (am 300 _ _ _ _ ?_)
   repeat' ((conv=>whnf);first|refine bp k ?_|refine aY e ?_|refine ay ?_|(refine aa ?_ ?_<;>intro h))
   refine ag ?_;rfl
 ·by_cases e:p.asn=c.asn
  ·rw[if_neg (by simp[k]),if_pos ⟨k,e⟩]
   refine ab (F:=j9) rfl rfl (am 300 _ _ _ _ ?_)
   repeat' ((conv=>whnf);first|refine aY k ?_|refine bp e ?_|refine ay ?_|(refine aa ?_ ?_<;>intro h))
   refine ag ?_;rfl
  ·rw[if_neg (by simp[k]),if_neg (by simp[e])]
   by_cases f:p.asn=c.confed
   ·rw[if_pos f]
    refine ab (F:=j9) rfl rfl (am 300 _ _ _ _ ?_)
    repeat' ((conv=>whnf);first|refine aY k ?_|refine aY e ?_|refine ay ?_|(refine aa ?_ ?_<;>intro h))
    refine ag ?_;rfl
   ·rw[if_neg f]
    by_cases g:p.kind=2
    ·by_cases h:c.confed=0
     ·rw[if_pos ⟨g,h⟩]
      refine ab (F:=j9) rfl rfl (am 300 _ _ _ _ ?_)
      repeat' ((conv=>whnf);first|refine aY k ?_|refine aY e ?_|refine ay ?_|(refine aa ?_ ?_<;>intro h))
      refine ag ?_;rfl
     ·rw[if_neg (by simp[h])]
      refine ab (F:=j9) rfl rfl (am 300 _ _ _ _ ?_)
      repeat' ((conv=>whnf);first|refine aY k ?_|refine aY e ?_|refine ay ?_|(refine aa ?_ ?_<;>intro h))
      refine ag ?_;rfl
    ·rw[if_neg (by simp[g])]
     refine ab (F:=j9) rfl rfl (am 300 _ _ _ _ ?_)
     repeat' ((conv=>whnf);first|refine aY k ?_|refine aY e ?_|refine ay ?_|(refine aa ?_ ?_<;>intro h))
     refine ag ?_;rfl
end Go.AM.IR
namespace Go.AM.IR
theorem DA (a b:Pfx):aq G 570 [.agg a.enc,.agg b.enc] [] ⟨.bool (decide (a.addr<b.addr∨(a.addr=b.addr∧a.len<b.len))),[]⟩:=by
 by_cases h:a.addr<b.addr
 ·rw[decide_eq_true (.inl h)]
  refine ab (F:=zf) rfl rfl (am 300 _ _ _ _ ?_)
  repeat' (first|refine ae ?_|(refine aa ?_ ?_<;>intro h))
  refine ag ?_;simp[h]
 ·by_cases e:a.addr=b.addr
  ·by_cases l:a.len<b.len
   ·rw[decide_eq_true (.inr ⟨e,l⟩)]
    refine ab (F:=zf) rfl rfl (am 300 _ _ _ _ ?_)
    repeat' (first|refine ae ?_|(refine aa ?_ ?_<;>intro h))
    refine ag ?_;simp[l]
   ·rw[decide_eq_false (by omega)]
    refine ab (F:=zf) rfl rfl (am 300 _ _ _ _ ?_)
    repeat' (first|refine ae ?_|(refine aa ?_ ?_<;>intro h))
    refine ag ?_;simp[l]
  ·rw[decide_eq_false (by omega)]
   refine ab (F:=zf) rfl rfl (am 300 _ _ _ _ ?_)
   repeat' (first|refine ae ?_|(refine aa ?_ ?_<;>intro h))
   refine ag ?_;simp[e]
end Go.AM.IR
