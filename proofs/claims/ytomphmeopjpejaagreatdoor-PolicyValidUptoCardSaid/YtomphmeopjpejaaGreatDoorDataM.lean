/- What the functions of this program give, on the abstract machine. -/
import Derived.Test.YtomphmeopjpejaaGreatDoorDataK
import Derived.Test.YtomphmeopjpejaaGreatDoorDataL
set_option linter.unusedVariables false
set_option linter.unusedSimpArgs false
set_option maxHeartbeats 4000000
set_option maxRecDepth 20000
namespace Go.AM.IR
section
variable {kv:AV->Prop}
theorem yNeT {a b:List UInt8}(n:a=b)(h:kv (.bool false)): ∃v,bt .neq (.str a) (.str b)=some v/\kv v:=⟨.bool false,by show some (AV.bool (!(a==b)))=_;simp[n],h⟩
theorem yNeF {a b:List UInt8}(n: ¬a=b)(h:kv (.bool true)): ∃v,bt .neq (.str a) (.str b)=some v/\kv v:=⟨.bool true,by show some (AV.bool (!(a==b)))=_;simp[n],h⟩
theorem Kc {x:Nat}(hx:x<65536)(h:kv (.int .u32 ((x*65536:Nat):Int))): ∃v,bt .shl (.int .u32 (x:Int)) (.int .u64 16)=some v/\kv v:=by
 refine ⟨_,?_,h⟩;show some (AV.int .u32 (IntKind.wrap .u32 ((x:Int)*2^ (min (16:Int).toNat 32))))=_
 rw[show (x:Int)*2^ (min (16:Int).toNat 32)=((x*65536:Nat):Int) from by simp[show min (16:Int).toNat 32=16 from rfl],rT _ (by omega)]
theorem Ku {x n:Nat}(hx:x<65536)(hn:n<65536)(h:kv (.int .u32 ((x*65536+n:Nat):Int))): ∃v,bt .or (.int .u32 ((x*65536:Nat):Int)) (.int .u32 (n:Int))=some v/\kv v:=by
 refine ⟨_,?_,h⟩;show some (AV.int .u32 (intBits .or .u32 _ _))=_
 rw[NS _ _ (by omega) (by omega)]
 congr 2
 have:=Nat.shiftLeft_add_eq_or_of_lt (i:=16) (b:=n) (by omega) x
 rw[Nat.shiftLeft_eq] at this;rw[show x*65536=x*2^16 from rfl,<-this]
end
def cmN (s:List UInt8):Option Int:=if s=wC0 then some 4294901760 else if s=wC1 then some 4294967041 else if s=wC2 then some 4294967042 else if s=wC3 then some 4294967043 else none
def cmV (s a b:List UInt8):Option Int:=if (J.fNum 65535 a).2=0/\(J.fNum 65535 b).2=0/\mc ((J.fNum 65535 a).1.toNat*65536+(J.fNum 65535 b).1.toNat)=s then some (((J.fNum 65535 a).1.toNat*65536+(J.fNum 65535 b).1.toNat:Nat):Int) else none
def cmP (s:List UInt8):Option Int:=match cmN s with
 |some v=>some v
 |none=>match jA s with
  |none=>none
  |some (a,b)=>cmV s a b
def cmR:Option Int->Ret
 |some v=>⟨.tup [.int .u32 v,.int .i64 0],[]⟩
 |none=>⟨.tup [.int .u32 0,.int .i64 2],[]⟩
theorem Fy:ab G 628 [] [] ⟨.tup [.agg [.int .u32 4294901760,.int .u32 4294967041,.int .u32 4294967042,.int .u32 4294967043],.agg [.str [103,114,97,99,101,102,117,108,45,115,104,117,116,100,111,119,110],.str [110,111,45,101,120,112,111,114,116],.str [110,111,45,97,100,118,101,114,116,105,115,101],.str [110,111,45,101,120,112,111,114,116,45,99,111,110,102,101,100]]],[]⟩:=y6 1000 rfl rfl (by kernel_rfl)
theorem wl (s:List UInt8)(hs:s.length<2^30)(hN:cmN s=none): ∀(rest done:List UInt8)(T:TV)(H:ap)(c:Nat)(i:Int)(e:s=done++rest)(hi:i=done.length)(hd: ∀x∈done,x≠58),
  Ev G ⟨Oz,⟨(32,.int .i64 i)::(31,.int .i64 (s.length:Int))::(0,.str s)::T,H,c⟩,[.t 2,.t 3],0⟩ (cmR (cmP s))
 | [],done,T,H,c,i,e,hi,hd=>by
  have hl:=md0 e
  have hv:cmP s=none:=by
   unfold cmP;rw[hN,e];dsimp only
   rw[qf hd];rfl
  rw[hv];refine evA ?_;refine ax ?_;rfl
 |x::rest,done,T,H,c,i,e,hi,hd=>by
  have hl:=md e;have hb:s[i.toNat]? =some x:=by rw[e,hi];simp
  have hxl:=x.toNat_lt
  by_cases h:x=58
  ·subst h
   have hv:cmP s=cmV s done rest:=by
    unfold cmP;rw[hN];dsimp only
    have:jA s=some (done,rest):=by rw[e,qf hd];simp[jA]
    rw[this]
   rw[hv];have ta:List.take (i.toNat-0) (List.drop 0 s)=done:=by rw[e,hi];simp
   have tb:List.take (s.length- (i+1).toNat) (List.drop (i+1).toNat s)=rest:=by
    rw[hi,show ((done.length:Int)+1).toNat=done.length+1 from by omega,e,show done++58::rest=(done++[58])++rest from by simp]
    rw[show done.length+1=(done++[58]).length from by simp,List.drop_left,List.take_of_length_le (by simp;omega)]
   have h6:ab G 346 [.str (List.take (i.toNat-0) (List.drop 0 s)),.int .i64 65535] [] (J.nfR (J.fNum 65535 done)):=by rw[ta];exact J.num_gives346 done (by omega) 65535
   have h7:ab G 346 [.str (List.take (s.length- (i+1).toNat) (List.drop (i+1).toNat s)),.int .i64 65535] [] (J.nfR (J.fNum 65535 rest)):=by rw[tb];exact J.num_gives346 rest (by omega) 65535
   clear ta tb;have b1:=J.fNum_ok 65535 done (by decide)
   have b2:=J.fNum_ok 65535 rest (by decide)
   unfold J.nfR at h6 h7;unfold cmV;generalize J.fNum 65535 done=p at*;generalize J.fNum 65535 rest=q at*;obtain ⟨p1,p2⟩:=p;obtain ⟨q1,q2⟩:=q;dsimp only at*;obtain ⟨P,rfl⟩: ∃P:Nat,p1=P:=⟨p1.toNat,by omega⟩
   obtain ⟨Q,rfl⟩: ∃Q:Nat,q1=Q:=⟨q1.toNat,by omega⟩
   rw[Int.toNat_natCast,Int.toNat_natCast];have hP:P<65536:=by omega
   have hQ:Q<65536:=by omega
   have h8:=ry (P*65536+Q) (by omega)
   by_cases c1:p2=0
   case neg=>
    rw[Ac (λz=>c1 z.1)]
    refine evl ?_
    repeat' ((conv=>whnf);first|refine pd hb ?_|refine Kc hP ?_|refine Ku hP hQ ?_|refine aq ?_|(refine ae ?_ ?_<;>intro h))
    refine ax ?_;rfl
   subst c1
   by_cases c2:q2=0
   case neg=>
    rw[Ac (λz=>c2 z.2.1)]
    refine evl ?_
    repeat' ((conv=>whnf);first|refine pd hb ?_|refine Kc hP ?_|refine Ku hP hQ ?_|refine aq ?_|(refine ae ?_ ?_<;>intro h))
    refine ax ?_;rfl
   subst c2
   by_cases c3:mc (P*65536+Q)=s
   ·rw[Ad ⟨rfl,rfl,c3⟩]
    refine evl ?_
    repeat' ((conv=>whnf);first|refine yNeT c3 ?_|refine pd hb ?_|refine Kc hP ?_|refine Ku hP hQ ?_|refine aq ?_|(refine ae ?_ ?_<;>intro h))
    refine ax ?_;rfl
   ·rw[Ac (λz=>c3 z.2.2)]
    refine evl ?_
    repeat' ((conv=>whnf);first|refine yNeF c3 ?_|refine pd hb ?_|refine Kc hP ?_|refine Ku hP hQ ?_|refine aq ?_|(refine ae ?_ ?_<;>intro h))
    refine ax ?_;rfl
  ·have hne: ¬(x.toNat:Int)=58:=λq=>h (A8.1 (by simpa using (by omega:x.toNat=58)))
   have ih:=λT H c=>wl s hs hN rest (done++[x]) T H c (i+1) (by simp[e]) (by simp[hi]) (by
    intro y hy;rcases Cb.1 hy with hy|hy
    ·exact hd y hy
    ·rw[Cc.1 hy];exact h)
   refine evl ?_
   repeat' ((conv=>whnf);first|refine pd hb ?_|refine aq ?_|(refine ae ?_ ?_<;>intro h))
   refine au [32,31,0] [] ?_;exact ih _ _ _
theorem td (s:List UInt8)(hs:s.length<2^30):ab G 631 [.str s] [] (cmR (cmP s)):=by
 have hn:=Fy
 by_cases c0:s=wC0
 ·have hv:cmP s=some 4294901760:=by rw[c0];rfl
  rw[hv,c0];unfold wC0;refine gvB (F:=p6) ?_;refine evl ?_
  repeat' ((conv=>whnf);first|refine bf ?_|refine aq ?_|(refine ae ?_ ?_<;>intro h))
  refine ax ?_;rfl
 by_cases c1:s=wC1
 ·have hv:cmP s=some 4294967041:=by rw[c1];rfl
  rw[hv,c1];unfold wC1;refine gvB (F:=p6) ?_;refine evl ?_
  repeat' ((conv=>whnf);first|refine aQ (by decide) ?_|refine bf ?_|refine aq ?_|(refine ae ?_ ?_<;>intro h))
  refine evl ?_
  repeat' ((conv=>whnf);first|refine aQ (by decide) ?_|refine bf ?_|refine aq ?_|(refine ae ?_ ?_<;>intro h))
  refine ax ?_;rfl
 by_cases c2:s=wC2
 ·have hv:cmP s=some 4294967042:=by rw[c2];rfl
  rw[hv,c2];unfold wC2;refine gvB (F:=p6) ?_;refine evl ?_
  repeat' ((conv=>whnf);first|refine aQ (by decide) ?_|refine bf ?_|refine aq ?_|(refine ae ?_ ?_<;>intro h))
  refine evl ?_
  repeat' ((conv=>whnf);first|refine aQ (by decide) ?_|refine bf ?_|refine aq ?_|(refine ae ?_ ?_<;>intro h))
  refine evl ?_
  repeat' ((conv=>whnf);first|refine aQ (by decide) ?_|refine bf ?_|refine aq ?_|(refine ae ?_ ?_<;>intro h))
  refine ax ?_;rfl
 by_cases c3:s=wC3
 ·have hv:cmP s=some 4294967043:=by rw[c3];rfl
  rw[hv,c3];unfold wC3;refine gvB (F:=p6) ?_;refine evl ?_
  repeat' ((conv=>whnf);first|refine aQ (by decide) ?_|refine bf ?_|refine aq ?_|(refine ae ?_ ?_<;>intro h))
  refine evl ?_
  repeat' ((conv=>whnf);first|refine aQ (by decide) ?_|refine bf ?_|refine aq ?_|(refine ae ?_ ?_<;>intro h))
  refine evl ?_
  repeat' ((conv=>whnf);first|refine aQ (by decide) ?_|refine bf ?_|refine aq ?_|(refine ae ?_ ?_<;>intro h))
  refine evl ?_
  repeat' ((conv=>whnf);first|refine aQ (by decide) ?_|refine bf ?_|refine aq ?_|(refine ae ?_ ?_<;>intro h))
  refine ax ?_;rfl
 have hN:cmN s=none:=by unfold cmN;rw[Ac c0,Ac c1,Ac c2,Ac c3]
 have lp:=λT H c=>wl s hs hN s [] T H c 0 rfl rfl (by simp)
 unfold wC0 at c0;unfold wC1 at c1;unfold wC2 at c2;unfold wC3 at c3;refine gvB (F:=p6) ?_;refine evl ?_
 repeat' ((conv=>whnf);first|refine aQ c0 ?_|refine aQ c1 ?_|refine aQ c2 ?_|refine aQ c3 ?_|refine aq ?_|(refine ae ?_ ?_<;>intro h))
 refine evl ?_
 repeat' ((conv=>whnf);first|refine aQ c0 ?_|refine aQ c1 ?_|refine aQ c2 ?_|refine aQ c3 ?_|refine aq ?_|(refine ae ?_ ?_<;>intro h))
 refine evl ?_
 repeat' ((conv=>whnf);first|refine aQ c0 ?_|refine aQ c1 ?_|refine aQ c2 ?_|refine aQ c3 ?_|refine aq ?_|(refine ae ?_ ?_<;>intro h))
 refine evl ?_
 repeat' ((conv=>whnf);first|refine aQ c0 ?_|refine aQ c1 ?_|refine aQ c2 ?_|refine aQ c3 ?_|refine aq ?_|(refine ae ?_ ?_<;>intro h))
 refine evl ?_
 repeat' ((conv=>whnf);first|refine aQ c0 ?_|refine aQ c1 ?_|refine aQ c2 ?_|refine aQ c3 ?_|refine aq ?_|(refine ae ?_ ?_<;>intro h))
 refine au [32,31,0] [] ?_;exact lp _ _ _
end Go.AM.IR
namespace Go.AM.IR
def sc:List UInt8:=[112,114,101,102]
def w5:List UInt8:=[109,101,100]
def mH:List UInt8:=[109,101,116,114,105,99]
def wY:List UInt8:=[116,97,103]
def sd:List UInt8:=[110,101,120,116,45,104,111,112]
def w7:List UInt8:=[97,100,100]
def w6:List UInt8:=[100,101,108,101,116,101]
def wZ:List UInt8:=[112,114,101,112,101,110,100]
def qg (k:Int)(o:Option Int):Option Actn:=match o with
 |some n=>some ⟨k,n,0,0,0⟩
 |none=>none
def wy (k:Int)(o:Option Int):Option Actn:=match o with
 |some n=>some ⟨k,0,0,n,0⟩
 |none=>none
def actP (a n:Option Int):Option Actn:=match a with
 |some x=>(match n with
  |some y=>some ⟨8,y,x,0,0⟩
  |none=>none)
 |none=>none
def Gq (h t:List UInt8):Option Actn:=
 if h=sc then qg 1 (n32 t) else if h=w5 then qg 2 (n32 t) else if h=mH then qg 3 (n32 t) else if h=wY then qg 4 (n32 t) else
 if h=sd then (if (J.paP t).2=0 then some ⟨5,0,0,0,(J.paP t).1⟩ else none) else if h=w7 then wy 6 (cmP t) else if h=w6 then wy 7 (cmP t) else
 if h=wZ then actP (n32 (ag t).1) (n32 (ag t).2) else none
def jl (s:List UInt8):Option Actn:=Gq (ag s).1 (ag s).2
def mg:Option Actn->Ret
 |some a=>⟨.agg a.enc,[]⟩
 |none=>pF 2
theorem acK (s:List UInt8)(hs:s.length<2^30)(w t:List UInt8)(hc:ag s=(w,t))(hw:w=sc):ab G 595 [.str s] [] (mg (qg 1 (n32 t))):=by
 have h1:=am s (by omega)
 rw[hc] at h1;have hl:t.length<=s.length:=by have:=(aW s).2;rw[hc] at this;exact this
 dsimp only at*;unfold sc at hw;subst hw;have h4:=bC t (by omega)
 cases hq:n32 t with
 |some v=>
  rw[hq] at h4;unfold vF at h4;refine gvC (F:=ii) ?_
  repeat' ((conv=>whnf);first|refine bf ?_|refine aq ?_|(refine ae ?_ ?_<;>intro h))
  refine ax ?_;(conv=>whnf);refine Go.AM.finC ?_;rfl
 |none=>
  rw[hq] at h4;replace h4:=λ(_:True)=>h4
  refine gvC (F:=ii) ?_
  repeat' ((conv=>whnf);first|refine bf ?_|refine aq ?_|(refine ae ?_ ?_<;>intro h))
  (conv=>whnf)
  refine CallG.stop ?_;refine aG 629 (h4 trivial) (λQ hr hg=>?_)
  refine kV hg ?_;rfl
theorem acJ (s:List UInt8)(hs:s.length<2^30)(w t:List UInt8)(hc:ag s=(w,t))(hw:w=w5):ab G 595 [.str s] [] (mg (qg 2 (n32 t))):=by
 have h1:=am s (by omega)
 rw[hc] at h1;have hl:t.length<=s.length:=by have:=(aW s).2;rw[hc] at this;exact this
 dsimp only at*;unfold w5 at hw;subst hw;have h4:=bC t (by omega)
 cases hq:n32 t with
 |some v=>
  rw[hq] at h4;unfold vF at h4;refine gvC (F:=ii) ?_
  repeat' ((conv=>whnf);first|refine aQ (by decide) ?_|refine bf ?_|refine aq ?_|(refine ae ?_ ?_<;>intro h))
  refine ax ?_;(conv=>whnf);refine Go.AM.finC ?_;rfl
 |none=>
  rw[hq] at h4;replace h4:=λ(_:True)=>h4
  refine gvC (F:=ii) ?_
  repeat' ((conv=>whnf);first|refine aQ (by decide) ?_|refine bf ?_|refine aq ?_|(refine ae ?_ ?_<;>intro h))
  (conv=>whnf)
  refine CallG.stop ?_;refine aG 629 (h4 trivial) (λQ hr hg=>?_)
  refine kV hg ?_;rfl
theorem acI (s:List UInt8)(hs:s.length<2^30)(w t:List UInt8)(hc:ag s=(w,t))(hw:w=mH):ab G 595 [.str s] [] (mg (qg 3 (n32 t))):=by
 have h1:=am s (by omega)
 rw[hc] at h1;have hl:t.length<=s.length:=by have:=(aW s).2;rw[hc] at this;exact this
 dsimp only at*;unfold mH at hw;subst hw;have h4:=bC t (by omega)
 cases hq:n32 t with
 |some v=>
  rw[hq] at h4;unfold vF at h4;refine gvC (F:=ii) ?_
  repeat' ((conv=>whnf);first|refine aQ (by decide) ?_|refine bf ?_|refine aq ?_|(refine ae ?_ ?_<;>intro h))
  refine ax ?_;(conv=>whnf);refine Go.AM.finC ?_;rfl
 |none=>
  rw[hq] at h4;replace h4:=λ(_:True)=>h4
  refine gvC (F:=ii) ?_
  repeat' ((conv=>whnf);first|refine aQ (by decide) ?_|refine bf ?_|refine aq ?_|(refine ae ?_ ?_<;>intro h))
  (conv=>whnf)
  refine CallG.stop ?_;refine aG 629 (h4 trivial) (λQ hr hg=>?_)
  refine kV hg ?_;rfl
theorem acH (s:List UInt8)(hs:s.length<2^30)(w t:List UInt8)(hc:ag s=(w,t))(hw:w=wY):ab G 595 [.str s] [] (mg (qg 4 (n32 t))):=by
 have h1:=am s (by omega)
 rw[hc] at h1;have hl:t.length<=s.length:=by have:=(aW s).2;rw[hc] at this;exact this
 dsimp only at*;unfold wY at hw;subst hw;have h4:=bC t (by omega)
 cases hq:n32 t with
 |some v=>
  rw[hq] at h4;unfold vF at h4;refine gvC (F:=ii) ?_
  repeat' ((conv=>whnf);first|refine aQ (by decide) ?_|refine bf ?_|refine aq ?_|(refine ae ?_ ?_<;>intro h))
  refine ax ?_;(conv=>whnf);refine Go.AM.finC ?_;rfl
 |none=>
  rw[hq] at h4;replace h4:=λ(_:True)=>h4
  refine gvC (F:=ii) ?_
  repeat' ((conv=>whnf);first|refine aQ (by decide) ?_|refine bf ?_|refine aq ?_|(refine ae ?_ ?_<;>intro h))
  (conv=>whnf)
  refine CallG.stop ?_;refine aG 629 (h4 trivial) (λQ hr hg=>?_)
  refine kV hg ?_;rfl
theorem acG (s:List UInt8)(hs:s.length<2^30)(w t:List UInt8)(hc:ag s=(w,t))(hw:w=sd):ab G 595 [.str s] [] (mg (if (J.paP t).2=0 then some ⟨5,0,0,0,(J.paP t).1⟩ else none)):=by
 have h1:=am s (by omega)
 rw[hc] at h1;have hl:t.length<=s.length:=by have:=(aW s).2;rw[hc] at this;exact this
 dsimp only at*;unfold sd at hw;subst hw;have h4:=J.pad_gives231 t (by omega)
 have h5:=aM true;rw[Ad rfl] at h5;unfold J.okA at h4;generalize J.paP t=x at*;obtain ⟨a,e⟩:=x;dsimp only at*
 by_cases he:e=0
 ·subst he
  rw[Ad rfl];refine gvC (F:=ii) ?_
  repeat' ((conv=>whnf);first|refine aQ (by decide) ?_|refine bf ?_|refine aq ?_|(refine ae ?_ ?_<;>intro h))
  refine ax ?_;(conv=>whnf);refine Go.AM.finC ?_;rfl
 ·have h6:=λ(_:True)=>aM false
  rw[Ac he];refine gvC (F:=ii) ?_
  repeat' ((conv=>whnf);first|refine iR he ?_|refine aQ (by decide) ?_|refine bf ?_|refine aq ?_|(refine ae ?_ ?_<;>intro h))
  (conv=>whnf)
  refine CallG.stop ?_;refine aG 586 (h6 trivial) (λQ hr hg=>?_)
  refine kV hg ?_;rfl
theorem acF (s:List UInt8)(hs:s.length<2^30)(w t:List UInt8)(hc:ag s=(w,t))(hw:w=w7):ab G 595 [.str s] [] (mg (wy 6 (cmP t))):=by
 have h1:=am s (by omega)
 rw[hc] at h1;have hl:t.length<=s.length:=by have:=(aW s).2;rw[hc] at this;exact this
 dsimp only at*;unfold w7 at hw;subst hw;have h4:=td t (by omega)
 cases hq:cmP t with
 |some v=>
  have h5:=aM true;rw[Ad rfl] at h5;rw[hq] at h4;unfold cmR at h4;refine gvC (F:=ii) ?_
  repeat' ((conv=>whnf);first|refine aQ (by decide) ?_|refine bf ?_|refine aq ?_|(refine ae ?_ ?_<;>intro h))
  refine ax ?_;(conv=>whnf);refine Go.AM.finC ?_;rfl
 |none=>
  have h6:=λ(_:True)=>aM false
  rw[hq] at h4;unfold cmR at h4;refine gvC (F:=ii) ?_
  repeat' ((conv=>whnf);first|refine aQ (by decide) ?_|refine bf ?_|refine aq ?_|(refine ae ?_ ?_<;>intro h))
  (conv=>whnf)
  refine CallG.stop ?_;refine aG 586 (h6 trivial) (λQ hr hg=>?_)
  refine kV hg ?_;rfl
theorem acE (s:List UInt8)(hs:s.length<2^30)(w t:List UInt8)(hc:ag s=(w,t))(hw:w=w6):ab G 595 [.str s] [] (mg (wy 7 (cmP t))):=by
 have h1:=am s (by omega)
 rw[hc] at h1;have hl:t.length<=s.length:=by have:=(aW s).2;rw[hc] at this;exact this
 dsimp only at*;unfold w6 at hw;subst hw;have h4:=td t (by omega)
 cases hq:cmP t with
 |some v=>
  have h5:=aM true;rw[Ad rfl] at h5;rw[hq] at h4;unfold cmR at h4;refine gvC (F:=ii) ?_
  repeat' ((conv=>whnf);first|refine aQ (by decide) ?_|refine bf ?_|refine aq ?_|(refine ae ?_ ?_<;>intro h))
  refine ax ?_;(conv=>whnf);refine Go.AM.finC ?_;rfl
 |none=>
  have h6:=λ(_:True)=>aM false
  rw[hq] at h4;unfold cmR at h4;refine gvC (F:=ii) ?_
  repeat' ((conv=>whnf);first|refine aQ (by decide) ?_|refine bf ?_|refine aq ?_|(refine ae ?_ ?_<;>intro h))
  (conv=>whnf)
  refine CallG.stop ?_;refine aG 586 (h6 trivial) (λQ hr hg=>?_)
  refine kV hg ?_;rfl
theorem acD (s:List UInt8)(hs:s.length<2^30)(w t:List UInt8)(hc:ag s=(w,t))(hw:w=wZ):ab G 595 [.str s] [] (mg (actP (n32 (ag t).1) (n32 (ag t).2))):=by
 have h1:=am s (by omega)
 rw[hc] at h1;have hl:t.length<=s.length:=by have:=(aW s).2;rw[hc] at this;exact this
 dsimp only at*;unfold wZ at hw;subst hw;have h5:=aM true;rw[Ad rfl] at h5;have h2:=am t (by omega)
 have l1:=aW t;generalize ag t=p at*;obtain ⟨x,y⟩:=p;dsimp only at*;have h4:=bC x (by omega)
 have h6:=bC y (by omega)
 cases hq:n32 x with
 |none=>
  rw[hq] at h4;replace h4:=λ(_:True)=>h4
  clear h6;refine gvC (F:=ii) ?_
  repeat' ((conv=>whnf);first|refine aQ (by decide) ?_|refine bf ?_|refine aq ?_|(refine ae ?_ ?_<;>intro h))
  (conv=>whnf)
  refine CallG.stop ?_;refine aG 629 (h4 trivial) (λQ hr hg=>?_)
  refine kV hg ?_;rfl
 |some va=>
  rw[hq] at h4;unfold vF at h4;cases hq2:n32 y with
  |none=>
   rw[hq2] at h6;replace h6:=λ(_:True)=>h6
   refine gvC (F:=ii) ?_
   repeat' ((conv=>whnf);first|refine aQ (by decide) ?_|refine bf ?_|refine aq ?_|(refine ae ?_ ?_<;>intro h))
   (conv=>whnf)
   refine CallG.stop ?_;refine aG 629 (h6 trivial) (λQ hr hg=>?_)
   refine kV hg ?_;rfl
  |some vb=>
   rw[hq2] at h6;unfold vF at h6;refine gvC (F:=ii) ?_
   repeat' ((conv=>whnf);first|refine aQ (by decide) ?_|refine bf ?_|refine aq ?_|(refine ae ?_ ?_<;>intro h))
   refine ax ?_;(conv=>whnf);refine Go.AM.finC ?_;rfl
theorem acL (s:List UInt8)(hs:s.length<2^30)(w t:List UInt8)(hc:ag s=(w,t))(n0:w≠sc)(n1:w≠w5)(n2:w≠mH)(n3:w≠wY)(n4:w≠sd)(n5:w≠w7)(n6:w≠w6)(n7:w≠wZ):ab G 595 [.str s] [] (pF 2):=by
 have h1:=am s (by omega)
 rw[hc] at h1;have hl:t.length<=s.length:=by have:=(aW s).2;rw[hc] at this;exact this
 dsimp only at*;unfold sc at n0;unfold w5 at n1;unfold mH at n2;unfold wY at n3;unfold sd at n4;unfold w7 at n5;unfold w6 at n6;unfold wZ at n7;have h5:=λ(_:True)=>aM false
 refine gvC (F:=ii) ?_
 repeat' ((conv=>whnf);first|refine aQ n0 ?_|refine aQ n1 ?_|refine aQ n2 ?_|refine aQ n3 ?_|refine aQ n4 ?_|refine aQ n5 ?_|refine aQ n6 ?_|refine aQ n7 ?_|refine aq ?_|(refine ae ?_ ?_<;>intro h))
 (conv=>whnf)
 refine CallG.stop ?_;refine aG 586 (h5 trivial) (λQ hr hg=>?_)
 refine kV hg ?_;rfl
theorem kD (s:List UInt8)(hs:s.length<2^30):ab G 595 [.str s] [] (mg (jl s)):=by
 unfold jl Gq;have f:=(rfl:ag s=((ag s).1,(ag s).2))
 by_cases c0:(ag s).1=sc
 ·rw[Ad c0];exact acK s hs _ _ f c0
 rw[Ac c0]
 by_cases c1:(ag s).1=w5
 ·rw[Ad c1];exact acJ s hs _ _ f c1
 rw[Ac c1]
 by_cases c2:(ag s).1=mH
 ·rw[Ad c2];exact acI s hs _ _ f c2
 rw[Ac c2]
 by_cases c3:(ag s).1=wY
 ·rw[Ad c3];exact acH s hs _ _ f c3
 rw[Ac c3]
 by_cases c4:(ag s).1=sd
 ·rw[Ad c4];exact acG s hs _ _ f c4
 rw[Ac c4]
 by_cases c5:(ag s).1=w7
 ·rw[Ad c5];exact acF s hs _ _ f c5
 rw[Ac c5]
 by_cases c6:(ag s).1=w6
 ·rw[Ad c6];exact acE s hs _ _ f c6
 rw[Ac c6]
 by_cases c7:(ag s).1=wZ
 ·rw[Ad c7];exact acD s hs _ _ f c7
 rw[Ac c7];exact acL s hs _ _ f c0 c1 c2 c3 c4 c5 c6 c7
end Go.AM.IR
namespace Go.AM.IR
def cq:List UInt8:=[97,99,99,101,112,116]
def cp:List UInt8:=[114,101,106,101,99,116]
def bN:List UInt8:=[110,101,120,116]
def dj:List UInt8:=[109,97,116,99,104]
def iq:List UInt8:=[115,101,116]
theorem ab9 (e1 e2 e3 e4:List (List AV))(p1:aa e1=true)(p2:aa e2=true)(p3:aa e3=true)(p4:aa e4=true)(k1 k2 k3 k4:List (List UInt8))(so:Int)(trm:Bool)(nm:List UInt8)(df:Int)(n:Nat)(hn:n=e4.length+1)(l4:e4.length<2^30)(ts:List Trm)(lt:ts.length<2^30)(tn:List UInt8)(ms:List Mat)(lm:ms.length<2^30)(acs:List Actn)(la:acs.length<2^30)(m:Nat)(hm:m=ts.length+1):ab G 542 [.ref 0 0 0,.str cq] (bP e1.length e2.length e3.length n so true trm e1 e2 e3 (e4++[[AV.str nm,AV.vs 9 0 m,AV.int .i64 df]]) k1 k2 k3 k4 [.vec 4 (ts.map Trm.enc++[[AV.str tn,AV.vs 10 0 ms.length,AV.vs 11 0 acs.length,AV.int .i64 0]]),.vec 6 (ms.map Mat.enc),.vec 5 (acs.map Actn.enc)]) ⟨.tup [],rP e1.length e2.length e3.length n so true false (.vec 2 e1) (.vec 2 e2) (.vec 2 e3) (.nest 3 e4 [[AV.str nm,AV.vs 9 0 m,AV.int .i64 df]]) k1 k2 k3 k4 [(true,.nest 4 (ts.map Trm.enc) [[AV.str tn,AV.vs 10 0 ms.length,AV.vs 11 0 acs.length,AV.int .i64 1]]),(true,.vec 6 (ms.map Mat.enc)),(true,.vec 5 (acs.map Actn.enc))]⟩:=by
 unfold bP rP;have h0:=am cq (by decide)
 have hL:=bW e1 e2 e3 e4 p1 p2 p3 p4 k1 k2 k3 k4 so trm nm df n hn l4 ts lt tn ms lm acs la 0 m hm;have hx: ∀x:List AV,(e4++[x])[((n:Int)-1).toNat]? =some x:=λx=>by rw[hn];simp
 have hx9: ∀x:List AV,(ts.map Trm.enc++[x])[((m:Int)-1).toNat]? =some x:=λx=>by rw[hm];simp
 have hs9: ∀y x:List AV,((ts.map Trm.enc++[y]).set ((m:Int)-1).toNat x)[((m:Int)-1).toNat]? =some x:=λy x=>by rw[hm];simp
 have hset: ∀y x:List AV,(ts.map Trm.enc++[y]).set ((m:Int)-1).toNat x=ts.map Trm.enc++[x]:=λy x=>by rw[hm];simp
 have htl:(ag cq).2.length<2^30:=CO (aW cq).2 (by decide)
 unfold cq at*;generalize ag _=ct at*;obtain ⟨w,t⟩:=ct;dsimp only at*;refine gvB (F:=jV) ?_
 (conv=>whnf)
 refine kP pzD [] ⟨rfl,rfl,rfl,rfl,rfl,rfl,rfl,rfl,rfl,rfl,rfl,rfl,trivial⟩ trivial hL ?_
 repeat' ((conv=>whnf);first|refine bf ?_|refine xr (hx _) ?_|refine xr (hx9 _) ?_|refine xr (hs9 _ _) ?_|refine aq ?_|(refine ae ?_ ?_<;>intro h))
 (conv=>whnf)
 rw[hset]
 (first|refine cG pzD [] [true,true,true,true,true,true,true,true,true,true,true,true] ?_|refine cH pzD [] [true,true,true,true,true,true,true,true,true,true,true,true] ?_)
 rfl
theorem ab8 (e1 e2 e3 e4:List (List AV))(p1:aa e1=true)(p2:aa e2=true)(p3:aa e3=true)(p4:aa e4=true)(k1 k2 k3 k4:List (List UInt8))(so:Int)(trm:Bool)(nm:List UInt8)(df:Int)(n:Nat)(hn:n=e4.length+1)(l4:e4.length<2^30)(ts:List Trm)(lt:ts.length<2^30)(tn:List UInt8)(ms:List Mat)(lm:ms.length<2^30)(acs:List Actn)(la:acs.length<2^30)(m:Nat)(hm:m=ts.length+1):ab G 542 [.ref 0 0 0,.str cp] (bP e1.length e2.length e3.length n so true trm e1 e2 e3 (e4++[[AV.str nm,AV.vs 9 0 m,AV.int .i64 df]]) k1 k2 k3 k4 [.vec 4 (ts.map Trm.enc++[[AV.str tn,AV.vs 10 0 ms.length,AV.vs 11 0 acs.length,AV.int .i64 0]]),.vec 6 (ms.map Mat.enc),.vec 5 (acs.map Actn.enc)]) ⟨.tup [],rP e1.length e2.length e3.length n so true false (.vec 2 e1) (.vec 2 e2) (.vec 2 e3) (.nest 3 e4 [[AV.str nm,AV.vs 9 0 m,AV.int .i64 df]]) k1 k2 k3 k4 [(true,.nest 4 (ts.map Trm.enc) [[AV.str tn,AV.vs 10 0 ms.length,AV.vs 11 0 acs.length,AV.int .i64 2]]),(true,.vec 6 (ms.map Mat.enc)),(true,.vec 5 (acs.map Actn.enc))]⟩:=by
 unfold bP rP;have h0:=am cp (by decide)
 have hL:=bW e1 e2 e3 e4 p1 p2 p3 p4 k1 k2 k3 k4 so trm nm df n hn l4 ts lt tn ms lm acs la 0 m hm;have hx: ∀x:List AV,(e4++[x])[((n:Int)-1).toNat]? =some x:=λx=>by rw[hn];simp
 have hx9: ∀x:List AV,(ts.map Trm.enc++[x])[((m:Int)-1).toNat]? =some x:=λx=>by rw[hm];simp
 have hs9: ∀y x:List AV,((ts.map Trm.enc++[y]).set ((m:Int)-1).toNat x)[((m:Int)-1).toNat]? =some x:=λy x=>by rw[hm];simp
 have hset: ∀y x:List AV,(ts.map Trm.enc++[y]).set ((m:Int)-1).toNat x=ts.map Trm.enc++[x]:=λy x=>by rw[hm];simp
 have htl:(ag cp).2.length<2^30:=CO (aW cp).2 (by decide)
 unfold cp at*;generalize ag _=ct at*;obtain ⟨w,t⟩:=ct;dsimp only at*;refine gvB (F:=jV) ?_
 (conv=>whnf)
 refine kP pzD [] ⟨rfl,rfl,rfl,rfl,rfl,rfl,rfl,rfl,rfl,rfl,rfl,rfl,trivial⟩ trivial hL ?_
 repeat' ((conv=>whnf);first|refine aQ (by decide) ?_|refine bf ?_|refine xr (hx _) ?_|refine xr (hx9 _) ?_|refine xr (hs9 _ _) ?_|refine aq ?_|(refine ae ?_ ?_<;>intro h))
 (conv=>whnf)
 rw[hset]
 (first|refine cG pzD [] [true,true,true,true,true,true,true,true,true,true,true,true] ?_|refine cH pzD [] [true,true,true,true,true,true,true,true,true,true,true,true] ?_)
 rfl
theorem ab7 (e1 e2 e3 e4:List (List AV))(p1:aa e1=true)(p2:aa e2=true)(p3:aa e3=true)(p4:aa e4=true)(k1 k2 k3 k4:List (List UInt8))(so:Int)(trm:Bool)(nm:List UInt8)(df:Int)(n:Nat)(hn:n=e4.length+1)(l4:e4.length<2^30)(ts:List Trm)(lt:ts.length<2^30)(tn:List UInt8)(ms:List Mat)(lm:ms.length<2^30)(acs:List Actn)(la:acs.length<2^30)(m:Nat)(hm:m=ts.length+1):ab G 542 [.ref 0 0 0,.str bN] (bP e1.length e2.length e3.length n so true trm e1 e2 e3 (e4++[[AV.str nm,AV.vs 9 0 m,AV.int .i64 df]]) k1 k2 k3 k4 [.vec 4 (ts.map Trm.enc++[[AV.str tn,AV.vs 10 0 ms.length,AV.vs 11 0 acs.length,AV.int .i64 0]]),.vec 6 (ms.map Mat.enc),.vec 5 (acs.map Actn.enc)]) ⟨.tup [],rP e1.length e2.length e3.length n so true false (.vec 2 e1) (.vec 2 e2) (.vec 2 e3) (.nest 3 e4 [[AV.str nm,AV.vs 9 0 m,AV.int .i64 df]]) k1 k2 k3 k4 [(true,.nest 4 (ts.map Trm.enc) [[AV.str tn,AV.vs 10 0 ms.length,AV.vs 11 0 acs.length,AV.int .i64 3]]),(true,.vec 6 (ms.map Mat.enc)),(true,.vec 5 (acs.map Actn.enc))]⟩:=by
 unfold bP rP;have h0:=am bN (by decide)
 have hL:=bW e1 e2 e3 e4 p1 p2 p3 p4 k1 k2 k3 k4 so trm nm df n hn l4 ts lt tn ms lm acs la 0 m hm;have hx: ∀x:List AV,(e4++[x])[((n:Int)-1).toNat]? =some x:=λx=>by rw[hn];simp
 have hx9: ∀x:List AV,(ts.map Trm.enc++[x])[((m:Int)-1).toNat]? =some x:=λx=>by rw[hm];simp
 have hs9: ∀y x:List AV,((ts.map Trm.enc++[y]).set ((m:Int)-1).toNat x)[((m:Int)-1).toNat]? =some x:=λy x=>by rw[hm];simp
 have hset: ∀y x:List AV,(ts.map Trm.enc++[y]).set ((m:Int)-1).toNat x=ts.map Trm.enc++[x]:=λy x=>by rw[hm];simp
 have htl:(ag bN).2.length<2^30:=CO (aW bN).2 (by decide)
 unfold bN at*;generalize ag _=ct at*;obtain ⟨w,t⟩:=ct;dsimp only at*;refine gvB (F:=jV) ?_
 (conv=>whnf)
 refine kP pzD [] ⟨rfl,rfl,rfl,rfl,rfl,rfl,rfl,rfl,rfl,rfl,rfl,rfl,trivial⟩ trivial hL ?_
 repeat' ((conv=>whnf);first|refine aQ (by decide) ?_|refine bf ?_|refine xr (hx _) ?_|refine xr (hx9 _) ?_|refine xr (hs9 _ _) ?_|refine aq ?_|(refine ae ?_ ?_<;>intro h))
 (conv=>whnf)
 rw[hset]
 (first|refine cG pzD [] [true,true,true,true,true,true,true,true,true,true,true,true] ?_|refine cH pzD [] [true,true,true,true,true,true,true,true,true,true,true,true] ?_)
 rfl
theorem Wa (e1 e2 e3 e4:List (List AV))(p1:aa e1=true)(p2:aa e2=true)(p3:aa e3=true)(p4:aa e4=true)(k1 k2 k3 k4:List (List UInt8))(so:Int)(trm:Bool)(nm:List UInt8)(df:Int)(n:Nat)(hn:n=e4.length+1)(l4:e4.length<2^30)(ts:List Trm)(lt:ts.length<2^30)(tn:List UInt8)(ms:List Mat)(lm:ms.length<2^30)(acs:List Actn)(la:acs.length<2^30)(m:Nat)(hm:m=ts.length+1)(s:List UInt8)(hs:s.length<2^30)(d1:s≠cq)(d2:s≠cp)(d3:s≠bN)(hw:(ag s).1≠dj)(hw2:(ag s).1≠iq):ab G 542 [.ref 0 0 0,.str s] (bP e1.length e2.length e3.length n so true trm e1 e2 e3 (e4++[[AV.str nm,AV.vs 9 0 m,AV.int .i64 df]]) k1 k2 k3 k4 [.vec 4 (ts.map Trm.enc++[[AV.str tn,AV.vs 10 0 ms.length,AV.vs 11 0 acs.length,AV.int .i64 0]]),.vec 6 (ms.map Mat.enc),.vec 5 (acs.map Actn.enc)]) ⟨pnV (.ifc 138 (.agg [.int .i64 2])),rP e1.length e2.length e3.length n so true trm (.vec 2 e1) (.vec 2 e2) (.vec 2 e3) (.nest 3 e4 [[AV.str nm,AV.vs 9 0 m,AV.int .i64 df]]) k1 k2 k3 k4 [(true,.nest 4 (ts.map Trm.enc) [[AV.str tn,AV.vs 10 0 ms.length,AV.vs 11 0 acs.length,AV.int .i64 0]]),(true,.vec 6 (ms.map Mat.enc)),(true,.vec 5 (acs.map Actn.enc))]⟩:=by
 unfold bP rP;have h0:=am s (by omega)
 have hL:=bW e1 e2 e3 e4 p1 p2 p3 p4 k1 k2 k3 k4 so trm nm df n hn l4 ts lt tn ms lm acs la 0 m hm;have hx: ∀x:List AV,(e4++[x])[((n:Int)-1).toNat]? =some x:=λx=>by rw[hn];simp
 have hx9: ∀x:List AV,(ts.map Trm.enc++[x])[((m:Int)-1).toNat]? =some x:=λx=>by rw[hm];simp
 have hs9: ∀y x:List AV,((ts.map Trm.enc++[y]).set ((m:Int)-1).toNat x)[((m:Int)-1).toNat]? =some x:=λy x=>by rw[hm];simp
 have hset: ∀y x:List AV,(ts.map Trm.enc++[y]).set ((m:Int)-1).toNat x=ts.map Trm.enc++[x]:=λy x=>by rw[hm];simp
 have htl:(ag s).2.length<2^30:=CO (aW s).2 hs;unfold cq at d1;unfold cp at d2;unfold bN at d3;generalize ag s=ct at*;obtain ⟨w,t⟩:=ct;dsimp only at*;unfold dj at hw;unfold iq at hw2;have h2:=λ(_:True)=>aM false
 refine gvB (F:=jV) ?_
 (conv=>whnf)
 refine kP pzD [] ⟨rfl,rfl,rfl,rfl,rfl,rfl,rfl,rfl,rfl,rfl,rfl,rfl,trivial⟩ trivial hL ?_
 repeat' ((conv=>whnf);first|refine aQ d1 ?_|refine aQ d2 ?_|refine aQ d3 ?_|refine aQ hw ?_|refine aQ hw2 ?_|refine xr (hx _) ?_|refine xr (hx9 _) ?_|refine xr (hs9 _ _) ?_|refine aq ?_|(refine ae ?_ ?_<;>intro h))
 (conv=>whnf)
 refine CallG.stop ?_;refine aG 586 (h2 trivial) (λQ hr hg=>?_)
 refine kV hg ?_;refine bl pzD [] [true,true,true,true,true,true,true,true,true,true,true,true] ?_;rfl
theorem V8 (e1 e2 e3 e4:List (List AV))(p1:aa e1=true)(p2:aa e2=true)(p3:aa e3=true)(p4:aa e4=true)(k1 k2 k3 k4:List (List UInt8))(so:Int)(trm:Bool)(nm:List UInt8)(df:Int)(n:Nat)(hn:n=e4.length+1)(l4:e4.length<2^30)(ts:List Trm)(lt:ts.length<2^30)(tn:List UInt8)(ms:List Mat)(lm:ms.length<2^30)(acs:List Actn)(la:acs.length<2^30)(m:Nat)(hm:m=ts.length+1)(s:List UInt8)(hs:s.length<2^30)(d1:s≠cq)(d2:s≠cp)(d3:s≠bN)(hw:(ag s).1=dj)(ha:acs≠ []):ab G 542 [.ref 0 0 0,.str s] (bP e1.length e2.length e3.length n so true trm e1 e2 e3 (e4++[[AV.str nm,AV.vs 9 0 m,AV.int .i64 df]]) k1 k2 k3 k4 [.vec 4 (ts.map Trm.enc++[[AV.str tn,AV.vs 10 0 ms.length,AV.vs 11 0 acs.length,AV.int .i64 0]]),.vec 6 (ms.map Mat.enc),.vec 5 (acs.map Actn.enc)]) ⟨pnV (.ifc 138 (.agg [.int .i64 2])),rP e1.length e2.length e3.length n so true trm (.vec 2 e1) (.vec 2 e2) (.vec 2 e3) (.nest 3 e4 [[AV.str nm,AV.vs 9 0 m,AV.int .i64 df]]) k1 k2 k3 k4 [(true,.nest 4 (ts.map Trm.enc) [[AV.str tn,AV.vs 10 0 ms.length,AV.vs 11 0 acs.length,AV.int .i64 0]]),(true,.vec 6 (ms.map Mat.enc)),(true,.vec 5 (acs.map Actn.enc))]⟩:=by
 unfold bP rP;have h0:=am s (by omega)
 have hL:=bW e1 e2 e3 e4 p1 p2 p3 p4 k1 k2 k3 k4 so trm nm df n hn l4 ts lt tn ms lm acs la 0 m hm;have hx: ∀x:List AV,(e4++[x])[((n:Int)-1).toNat]? =some x:=λx=>by rw[hn];simp
 have hx9: ∀x:List AV,(ts.map Trm.enc++[x])[((m:Int)-1).toNat]? =some x:=λx=>by rw[hm];simp
 have hs9: ∀y x:List AV,((ts.map Trm.enc++[y]).set ((m:Int)-1).toNat x)[((m:Int)-1).toNat]? =some x:=λy x=>by rw[hm];simp
 have hset: ∀y x:List AV,(ts.map Trm.enc++[y]).set ((m:Int)-1).toNat x=ts.map Trm.enc++[x]:=λy x=>by rw[hm];simp
 have htl:(ag s).2.length<2^30:=CO (aW s).2 hs;unfold cq at d1;unfold cp at d2;unfold bN at d3;generalize ag s=ct at*;obtain ⟨w,t⟩:=ct;dsimp only at*;unfold dj at hw;subst hw
 have hz: ¬(acs.length:Int)=0:=by
  have:=List.length_pos_iff.2 ha;omega
 have h2:=λ(_:True)=>aM false
 refine gvB (F:=jV) ?_
 (conv=>whnf)
 refine kP pzD [] ⟨rfl,rfl,rfl,rfl,rfl,rfl,rfl,rfl,rfl,rfl,rfl,rfl,trivial⟩ trivial hL ?_
 repeat' ((conv=>whnf);first|refine aQ d1 ?_|refine aQ d2 ?_|refine aQ d3 ?_|refine iR hz ?_|refine bf ?_|refine xr (hx _) ?_|refine xr (hx9 _) ?_|refine xr (hs9 _ _) ?_|refine aq ?_|(refine ae ?_ ?_<;>intro h))
 (conv=>whnf)
 refine CallG.stop ?_;refine aG 586 (h2 trivial) (λQ hr hg=>?_)
 refine kV hg ?_;refine bl pzD [] [true,true,true,true,true,true,true,true,true,true,true,true] ?_;rfl
theorem V7 (e1 e2 e3 e4:List (List AV))(p1:aa e1=true)(p2:aa e2=true)(p3:aa e3=true)(p4:aa e4=true)(k1 k2 k3 k4:List (List UInt8))(so:Int)(trm:Bool)(nm:List UInt8)(df:Int)(n:Nat)(hn:n=e4.length+1)(l4:e4.length<2^30)(ts:List Trm)(lt:ts.length<2^30)(tn:List UInt8)(ms:List Mat)(lm:ms.length<2^30)(acs:List Actn)(la:acs.length<2^30)(m:Nat)(hm:m=ts.length+1)(s:List UInt8)(hs:s.length<2^30)(d1:s≠cq)(d2:s≠cp)(d3:s≠bN)(hw:(ag s).1=dj)(ha:acs.length=0)(hm2:ic (ag s).2=none):ab G 542 [.ref 0 0 0,.str s] (bP e1.length e2.length e3.length n so true trm e1 e2 e3 (e4++[[AV.str nm,AV.vs 9 0 m,AV.int .i64 df]]) k1 k2 k3 k4 [.vec 4 (ts.map Trm.enc++[[AV.str tn,AV.vs 10 0 ms.length,AV.vs 11 0 acs.length,AV.int .i64 0]]),.vec 6 (ms.map Mat.enc),.vec 5 (acs.map Actn.enc)]) ⟨pnV (.ifc 138 (.agg [.int .i64 2])),rP e1.length e2.length e3.length n so true trm (.vec 2 e1) (.vec 2 e2) (.vec 2 e3) (.nest 3 e4 [[AV.str nm,AV.vs 9 0 m,AV.int .i64 df]]) k1 k2 k3 k4 [(true,.nest 4 (ts.map Trm.enc) [[AV.str tn,AV.vs 10 0 ms.length,AV.vs 11 0 acs.length,AV.int .i64 0]]),(true,.vec 6 (ms.map Mat.enc)),(true,.vec 5 (acs.map Actn.enc))]⟩:=by
 unfold bP rP;have h0:=am s (by omega)
 have hL:=bW e1 e2 e3 e4 p1 p2 p3 p4 k1 k2 k3 k4 so trm nm df n hn l4 ts lt tn ms lm acs la 0 m hm;have hx: ∀x:List AV,(e4++[x])[((n:Int)-1).toNat]? =some x:=λx=>by rw[hn];simp
 have hx9: ∀x:List AV,(ts.map Trm.enc++[x])[((m:Int)-1).toNat]? =some x:=λx=>by rw[hm];simp
 have hs9: ∀y x:List AV,((ts.map Trm.enc++[y]).set ((m:Int)-1).toNat x)[((m:Int)-1).toNat]? =some x:=λy x=>by rw[hm];simp
 have hset: ∀y x:List AV,(ts.map Trm.enc++[y]).set ((m:Int)-1).toNat x=ts.map Trm.enc++[x]:=λy x=>by rw[hm];simp
 have htl:(ag s).2.length<2^30:=CO (aW s).2 hs;unfold cq at d1;unfold cp at d2;unfold bN at d3;have hz:(acs.length:Int)=0:=by omega
 generalize ag s=ct at*;obtain ⟨w,t⟩:=ct;dsimp only at*;unfold dj at hw;subst hw;have h2:=aM true;rw[Ad rfl] at h2;have h3:=λ(_:True)=>km t (by omega)
 rw[hm2] at h3;refine gvB (F:=jV) ?_
 (conv=>whnf)
 refine kP pzD [] ⟨rfl,rfl,rfl,rfl,rfl,rfl,rfl,rfl,rfl,rfl,rfl,rfl,trivial⟩ trivial hL ?_
 repeat' ((conv=>whnf);first|refine aQ d1 ?_|refine aQ d2 ?_|refine aQ d3 ?_|refine nH hz ?_|refine bf ?_|refine xr (hx _) ?_|refine xr (hx9 _) ?_|refine xr (hs9 _ _) ?_|refine aq ?_|(refine ae ?_ ?_<;>intro h))
 (conv=>whnf)
 refine CallG.stop ?_;refine aG 593 (h3 trivial) (λQ hr hg=>?_)
 refine kV hg ?_;refine bl pzD [] [true,true,true,true,true,true,true,true,true,true,true,true] ?_;rfl
theorem Qi (e1 e2 e3 e4:List (List AV))(p1:aa e1=true)(p2:aa e2=true)(p3:aa e3=true)(p4:aa e4=true)(k1 k2 k3 k4:List (List UInt8))(so:Int)(trm:Bool)(nm:List UInt8)(df:Int)(n:Nat)(hn:n=e4.length+1)(l4:e4.length<2^30)(ts:List Trm)(lt:ts.length<2^30)(tn:List UInt8)(ms:List Mat)(lm:ms.length<2^30)(acs:List Actn)(la:acs.length<2^30)(m:Nat)(hm:m=ts.length+1)(s:List UInt8)(hs:s.length<2^30)(d1:s≠cq)(d2:s≠cp)(d3:s≠bN)(hw:(ag s).1=dj)(ha:acs.length=0)(x:Mat)(hm2:ic (ag s).2=some x)(hk:64<=ms.length):ab G 542 [.ref 0 0 0,.str s] (bP e1.length e2.length e3.length n so true trm e1 e2 e3 (e4++[[AV.str nm,AV.vs 9 0 m,AV.int .i64 df]]) k1 k2 k3 k4 [.vec 4 (ts.map Trm.enc++[[AV.str tn,AV.vs 10 0 ms.length,AV.vs 11 0 acs.length,AV.int .i64 0]]),.vec 6 (ms.map Mat.enc),.vec 5 (acs.map Actn.enc)]) ⟨pnV (.ifc 138 (.agg [.int .i64 4])),rP e1.length e2.length e3.length n so true trm (.vec 2 e1) (.vec 2 e2) (.vec 2 e3) (.nest 3 e4 [[AV.str nm,AV.vs 9 0 m,AV.int .i64 df]]) k1 k2 k3 k4 [(true,.nest 4 (ts.map Trm.enc) [[AV.str tn,AV.vs 10 0 ms.length,AV.vs 11 0 acs.length,AV.int .i64 0]]),(true,.vec 6 (ms.map Mat.enc)),(true,.vec 5 (acs.map Actn.enc))]⟩:=by
 unfold bP rP;have h0:=am s (by omega)
 have hL:=bW e1 e2 e3 e4 p1 p2 p3 p4 k1 k2 k3 k4 so trm nm df n hn l4 ts lt tn ms lm acs la 0 m hm;have hx: ∀x:List AV,(e4++[x])[((n:Int)-1).toNat]? =some x:=λx=>by rw[hn];simp
 have hx9: ∀x:List AV,(ts.map Trm.enc++[x])[((m:Int)-1).toNat]? =some x:=λx=>by rw[hm];simp
 have hs9: ∀y x:List AV,((ts.map Trm.enc++[y]).set ((m:Int)-1).toNat x)[((m:Int)-1).toNat]? =some x:=λy x=>by rw[hm];simp
 have hset: ∀y x:List AV,(ts.map Trm.enc++[y]).set ((m:Int)-1).toNat x=ts.map Trm.enc++[x]:=λy x=>by rw[hm];simp
 have htl:(ag s).2.length<2^30:=CO (aW s).2 hs;unfold cq at d1;unfold cp at d2;unfold bN at d3;have hz:(acs.length:Int)=0:=by omega
 generalize ag s=ct at*;obtain ⟨w,t⟩:=ct;dsimp only at*;unfold dj at hw;subst hw;have h2:=aM true;rw[Ad rfl] at h2;have h3:=km t (by omega)
 rw[hm2] at h3;unfold mR at h3;dsimp only at h3;unfold Mat.enc at h3
 have h4:True->ab G 587 [.int .i64 (ms.length:Int)] [] (pF 4):=λ_=>by
  have:=bR (ms.length:Int);rwa [Ac (by omega)] at this
 refine gvB (F:=jV) ?_
 (conv=>whnf)
 refine kP pzD [] ⟨rfl,rfl,rfl,rfl,rfl,rfl,rfl,rfl,rfl,rfl,rfl,rfl,trivial⟩ trivial hL ?_
 repeat' ((conv=>whnf);first|refine aQ d1 ?_|refine aQ d2 ?_|refine aQ d3 ?_|refine nH hz ?_|refine bf ?_|refine xr (hx _) ?_|refine xr (hx9 _) ?_|refine xr (hs9 _ _) ?_|refine aq ?_|(refine ae ?_ ?_<;>intro h))
 (conv=>whnf)
 refine CallG.stop ?_;refine aG 587 (h4 trivial) (λQ hr hg=>?_)
 refine kV hg ?_;refine bl pzD [] [true,true,true,true,true,true,true,true,true,true,true,true] ?_;rfl
theorem V6 (e1 e2 e3 e4:List (List AV))(p1:aa e1=true)(p2:aa e2=true)(p3:aa e3=true)(p4:aa e4=true)(k1 k2 k3 k4:List (List UInt8))(so:Int)(trm:Bool)(nm:List UInt8)(df:Int)(n:Nat)(hn:n=e4.length+1)(l4:e4.length<2^30)(ts:List Trm)(lt:ts.length<2^30)(tn:List UInt8)(ms:List Mat)(lm:ms.length<2^30)(acs:List Actn)(la:acs.length<2^30)(m:Nat)(hm:m=ts.length+1)(s:List UInt8)(hs:s.length<2^30)(d1:s≠cq)(d2:s≠cp)(d3:s≠bN)(hw:(ag s).1=dj)(ha:acs.length=0)(hf:Kn.fit ⟨k1,k2,k3,k4⟩)(x:Mat)(hm2:ic (ag s).2=some x)(hxp:x.pfx.ok)(hk:ms.length<64)(hc:mtE ⟨k1,k2,k3,k4⟩ x≠0):ab G 542 [.ref 0 0 0,.str s] (bP e1.length e2.length e3.length n so true trm e1 e2 e3 (e4++[[AV.str nm,AV.vs 9 0 m,AV.int .i64 df]]) k1 k2 k3 k4 [.vec 4 (ts.map Trm.enc++[[AV.str tn,AV.vs 10 0 ms.length,AV.vs 11 0 acs.length,AV.int .i64 0]]),.vec 6 (ms.map Mat.enc),.vec 5 (acs.map Actn.enc)]) ⟨pnV (.ifc 138 (.agg [.int .i64 (mtE ⟨k1,k2,k3,k4⟩ x)])),rP e1.length e2.length e3.length n so true trm (.vec 2 e1) (.vec 2 e2) (.vec 2 e3) (.nest 3 e4 [[AV.str nm,AV.vs 9 0 m,AV.int .i64 df]]) k1 k2 k3 k4 [(true,.nest 4 (ts.map Trm.enc) [[AV.str tn,AV.vs 10 0 ms.length,AV.vs 11 0 acs.length,AV.int .i64 0]]),(true,.vec 6 (ms.map Mat.enc)),(true,.vec 5 (acs.map Actn.enc))]⟩:=by
 unfold bP rP;have h0:=am s (by omega)
 have hL:=bW e1 e2 e3 e4 p1 p2 p3 p4 k1 k2 k3 k4 so trm nm df n hn l4 ts lt tn ms lm acs la 0 m hm;have hx: ∀x:List AV,(e4++[x])[((n:Int)-1).toNat]? =some x:=λx=>by rw[hn];simp
 have hx9: ∀x:List AV,(ts.map Trm.enc++[x])[((m:Int)-1).toNat]? =some x:=λx=>by rw[hm];simp
 have hs9: ∀y x:List AV,((ts.map Trm.enc++[y]).set ((m:Int)-1).toNat x)[((m:Int)-1).toNat]? =some x:=λy x=>by rw[hm];simp
 have hset: ∀y x:List AV,(ts.map Trm.enc++[y]).set ((m:Int)-1).toNat x=ts.map Trm.enc++[x]:=λy x=>by rw[hm];simp
 have htl:(ag s).2.length<2^30:=CO (aW s).2 hs;unfold cq at d1;unfold cp at d2;unfold bN at d3;have hz:(acs.length:Int)=0:=by omega
 generalize ag s=ct at*;obtain ⟨w,t⟩:=ct;dsimp only at*;unfold dj at hw;subst hw;have h2:=aM true;rw[Ad rfl] at h2;have h3:=km t (by omega)
 rw[hm2] at h3;unfold mR at h3;dsimp only at h3
 have h4:ab G 587 [.int .i64 (ms.length:Int)] [] ⟨.tup [],[]⟩:=by
  have:=bR (ms.length:Int);rwa [Ad (by omega)] at this
 have h5:=oh ⟨k1,k2,k3,k4⟩ hf x hxp;unfold Kn.enc at h5;have y1:k1.length=(k1.map ah).length:=by simp
 have y2:k2.length=(k2.map ah).length:=by simp
 have y3:k3.length=(k3.map ah).length:=by simp
 have y4:k4.length=(k4.map ah).length:=by simp
 generalize mtE _ _=er at*;unfold Mat.enc at h3 h5;have h6:=λ(_:True)=>bp er
 rw[Ac hc] at h6;refine gvB (F:=jV) ?_
 (conv=>whnf)
 refine kP pzD [] ⟨rfl,rfl,rfl,rfl,rfl,rfl,rfl,rfl,rfl,rfl,rfl,rfl,trivial⟩ trivial hL ?_
 repeat' ((conv=>whnf);first|refine aQ d1 ?_|refine aQ d2 ?_|refine aQ d3 ?_|refine nH hz ?_|refine bf ?_|refine xr (hx _) ?_|refine xr (hx9 _) ?_|refine xr (hs9 _ _) ?_|refine aq ?_|refine kZ [(5,_,_),(6,_,_),(7,_,_),(8,_,_)] ⟨rfl,pz ⟨rfl,pz ⟨rfl,pz ⟨rfl,pz trivial⟩⟩⟩⟩ (h5) ?_|(refine ae ?_ ?_<;>intro h))
 (conv=>whnf)
 refine CallG.stop ?_;refine sU 590 (h6 trivial) (λQ hr hg=>?_)
 refine kV hg ?_;refine bl pzD [] [true,true,true,true,true,true,true,true,true,true,true,true] ?_;rfl
theorem YO (e1 e2 e3 e4:List (List AV))(p1:aa e1=true)(p2:aa e2=true)(p3:aa e3=true)(p4:aa e4=true)(k1 k2 k3 k4:List (List UInt8))(so:Int)(trm:Bool)(nm:List UInt8)(df:Int)(n:Nat)(hn:n=e4.length+1)(l4:e4.length<2^30)(ts:List Trm)(lt:ts.length<2^30)(tn:List UInt8)(ms:List Mat)(lm:ms.length<2^30)(acs:List Actn)(la:acs.length<2^30)(m:Nat)(hm:m=ts.length+1)(s:List UInt8)(hs:s.length<2^30)(d1:s≠cq)(d2:s≠cp)(d3:s≠bN)(hw:(ag s).1=dj)(ha:acs.length=0)(hf:Kn.fit ⟨k1,k2,k3,k4⟩)(x:Mat)(hm2:ic (ag s).2=some x)(hxp:x.pfx.ok)(hk:ms.length<64)(hc:mtE ⟨k1,k2,k3,k4⟩ x=0):ab G 542 [.ref 0 0 0,.str s] (bP e1.length e2.length e3.length n so true trm e1 e2 e3 (e4++[[AV.str nm,AV.vs 9 0 m,AV.int .i64 df]]) k1 k2 k3 k4 [.vec 4 (ts.map Trm.enc++[[AV.str tn,AV.vs 10 0 ms.length,AV.vs 11 0 acs.length,AV.int .i64 0]]),.vec 6 (ms.map Mat.enc),.vec 5 (acs.map Actn.enc)]) ⟨.tup [],rP e1.length e2.length e3.length n so true true (.vec 2 e1) (.vec 2 e2) (.vec 2 e3) (.nest 3 e4 [[AV.str nm,AV.vs 9 0 m,AV.int .i64 df]]) k1 k2 k3 k4 [(true,.nest 4 (ts.map Trm.enc) [[AV.str tn,AV.vs 10 0 (ms.length+1),AV.vs 11 0 acs.length,AV.int .i64 0]]),(false,.vec 6 (ms.map Mat.enc++[x.enc])),(true,.vec 5 (acs.map Actn.enc))]⟩:=by
 unfold bP rP;have h0:=am s (by omega)
 have hL:=bW e1 e2 e3 e4 p1 p2 p3 p4 k1 k2 k3 k4 so trm nm df n hn l4 ts lt tn ms lm acs la 0 m hm;have hx: ∀x:List AV,(e4++[x])[((n:Int)-1).toNat]? =some x:=λx=>by rw[hn];simp
 have hx9: ∀x:List AV,(ts.map Trm.enc++[x])[((m:Int)-1).toNat]? =some x:=λx=>by rw[hm];simp
 have hs9: ∀y x:List AV,((ts.map Trm.enc++[y]).set ((m:Int)-1).toNat x)[((m:Int)-1).toNat]? =some x:=λy x=>by rw[hm];simp
 have hset: ∀y x:List AV,(ts.map Trm.enc++[y]).set ((m:Int)-1).toNat x=ts.map Trm.enc++[x]:=λy x=>by rw[hm];simp
 have htl:(ag s).2.length<2^30:=CO (aW s).2 hs;unfold cq at d1;unfold cp at d2;unfold bN at d3;have hz:(acs.length:Int)=0:=by omega
 generalize ag s=ct at*;obtain ⟨w,t⟩:=ct;dsimp only at*;unfold dj at hw;subst hw;have h2:=aM true;rw[Ad rfl] at h2;have h3:=km t (by omega)
 rw[hm2] at h3;unfold mR at h3;dsimp only at h3
 have h4:ab G 587 [.int .i64 (ms.length:Int)] [] ⟨.tup [],[]⟩:=by
  have:=bR (ms.length:Int);rwa [Ad (by omega)] at this
 have h5:=oh ⟨k1,k2,k3,k4⟩ hf x hxp;unfold Kn.enc at h5;have y1:k1.length=(k1.map ah).length:=by simp
 have y2:k2.length=(k2.map ah).length:=by simp
 have y3:k3.length=(k3.map ah).length:=by simp
 have y4:k4.length=(k4.map ah).length:=by simp
 rw[hc] at h5;have ex:x.enc= [.int .i64 x.kind,.str x.name,.int .i64 x.n,.int .u32 x.pfx.addr,.int .i64 x.pfx.len,.bool x.neg]:=rfl;rw[ex] at h3 h5⊢;have h6:=bp 0;rw[Ad rfl] at h6;refine gvB (F:=jV) ?_
 (conv=>whnf)
 refine kP pzD [] ⟨rfl,rfl,rfl,rfl,rfl,rfl,rfl,rfl,rfl,rfl,rfl,rfl,trivial⟩ trivial hL ?_
 repeat' ((conv=>whnf);first|refine aQ d1 ?_|refine aQ d2 ?_|refine aQ d3 ?_|refine nH hz ?_|refine bf ?_|refine xr (hx _) ?_|refine xr (hx9 _) ?_|refine xr (hs9 _ _) ?_|refine aq ?_|refine kZ [(5,_,_),(6,_,_),(7,_,_),(8,_,_)] ⟨rfl,pz ⟨rfl,pz ⟨rfl,pz ⟨rfl,pz trivial⟩⟩⟩⟩ (h5) ?_|(refine ae ?_ ?_<;>intro h))
 (conv=>whnf)
 rw[hset]
 (first|refine cG pzD [] [true,true,true,true,true,true,true,true,true,true,false,true] ?_|refine cH pzD [] [true,true,true,true,true,true,true,true,true,true,false,true] ?_)
 rfl
theorem Wc (e1 e2 e3 e4:List (List AV))(p1:aa e1=true)(p2:aa e2=true)(p3:aa e3=true)(p4:aa e4=true)(k1 k2 k3 k4:List (List UInt8))(so:Int)(trm:Bool)(nm:List UInt8)(df:Int)(n:Nat)(hn:n=e4.length+1)(l4:e4.length<2^30)(ts:List Trm)(lt:ts.length<2^30)(tn:List UInt8)(ms:List Mat)(lm:ms.length<2^30)(acs:List Actn)(la:acs.length<2^30)(m:Nat)(hm:m=ts.length+1)(s:List UInt8)(hs:s.length<2^30)(d1:s≠cq)(d2:s≠cp)(d3:s≠bN)(hw:(ag s).1=iq)(hm2:jl (ag s).2=none):ab G 542 [.ref 0 0 0,.str s] (bP e1.length e2.length e3.length n so true trm e1 e2 e3 (e4++[[AV.str nm,AV.vs 9 0 m,AV.int .i64 df]]) k1 k2 k3 k4 [.vec 4 (ts.map Trm.enc++[[AV.str tn,AV.vs 10 0 ms.length,AV.vs 11 0 acs.length,AV.int .i64 0]]),.vec 6 (ms.map Mat.enc),.vec 5 (acs.map Actn.enc)]) ⟨pnV (.ifc 138 (.agg [.int .i64 2])),rP e1.length e2.length e3.length n so true trm (.vec 2 e1) (.vec 2 e2) (.vec 2 e3) (.nest 3 e4 [[AV.str nm,AV.vs 9 0 m,AV.int .i64 df]]) k1 k2 k3 k4 [(true,.nest 4 (ts.map Trm.enc) [[AV.str tn,AV.vs 10 0 ms.length,AV.vs 11 0 acs.length,AV.int .i64 0]]),(true,.vec 6 (ms.map Mat.enc)),(true,.vec 5 (acs.map Actn.enc))]⟩:=by
 unfold bP rP;have h0:=am s (by omega)
 have hL:=bW e1 e2 e3 e4 p1 p2 p3 p4 k1 k2 k3 k4 so trm nm df n hn l4 ts lt tn ms lm acs la 0 m hm;have hx: ∀x:List AV,(e4++[x])[((n:Int)-1).toNat]? =some x:=λx=>by rw[hn];simp
 have hx9: ∀x:List AV,(ts.map Trm.enc++[x])[((m:Int)-1).toNat]? =some x:=λx=>by rw[hm];simp
 have hs9: ∀y x:List AV,((ts.map Trm.enc++[y]).set ((m:Int)-1).toNat x)[((m:Int)-1).toNat]? =some x:=λy x=>by rw[hm];simp
 have hset: ∀y x:List AV,(ts.map Trm.enc++[y]).set ((m:Int)-1).toNat x=ts.map Trm.enc++[x]:=λy x=>by rw[hm];simp
 have htl:(ag s).2.length<2^30:=CO (aW s).2 hs;unfold cq at d1;unfold cp at d2;unfold bN at d3;generalize ag s=ct at*;obtain ⟨w,t⟩:=ct;dsimp only at*;unfold iq at hw;subst hw;have h2:=aM true;rw[Ad rfl] at h2;have h3:=λ(_:True)=>kD t htl
 rw[hm2] at h3;refine gvB (F:=jV) ?_
 (conv=>whnf)
 refine kP pzD [] ⟨rfl,rfl,rfl,rfl,rfl,rfl,rfl,rfl,rfl,rfl,rfl,rfl,trivial⟩ trivial hL ?_
 repeat' ((conv=>whnf);first|refine aQ d1 ?_|refine aQ d2 ?_|refine aQ d3 ?_|refine aQ (by decide) ?_|refine bf ?_|refine xr (hx _) ?_|refine xr (hx9 _) ?_|refine xr (hs9 _ _) ?_|refine aq ?_|(refine ae ?_ ?_<;>intro h))
 (conv=>whnf)
 refine CallG.stop ?_;refine aG 595 (h3 trivial) (λQ hr hg=>?_)
 refine kV hg ?_;refine bl pzD [] [true,true,true,true,true,true,true,true,true,true,true,true] ?_;rfl
theorem Qj (e1 e2 e3 e4:List (List AV))(p1:aa e1=true)(p2:aa e2=true)(p3:aa e3=true)(p4:aa e4=true)(k1 k2 k3 k4:List (List UInt8))(so:Int)(trm:Bool)(nm:List UInt8)(df:Int)(n:Nat)(hn:n=e4.length+1)(l4:e4.length<2^30)(ts:List Trm)(lt:ts.length<2^30)(tn:List UInt8)(ms:List Mat)(lm:ms.length<2^30)(acs:List Actn)(la:acs.length<2^30)(m:Nat)(hm:m=ts.length+1)(s:List UInt8)(hs:s.length<2^30)(d1:s≠cq)(d2:s≠cp)(d3:s≠bN)(hw:(ag s).1=iq)(x:Actn)(hm2:jl (ag s).2=some x)(hk:64<=acs.length):ab G 542 [.ref 0 0 0,.str s] (bP e1.length e2.length e3.length n so true trm e1 e2 e3 (e4++[[AV.str nm,AV.vs 9 0 m,AV.int .i64 df]]) k1 k2 k3 k4 [.vec 4 (ts.map Trm.enc++[[AV.str tn,AV.vs 10 0 ms.length,AV.vs 11 0 acs.length,AV.int .i64 0]]),.vec 6 (ms.map Mat.enc),.vec 5 (acs.map Actn.enc)]) ⟨pnV (.ifc 138 (.agg [.int .i64 4])),rP e1.length e2.length e3.length n so true trm (.vec 2 e1) (.vec 2 e2) (.vec 2 e3) (.nest 3 e4 [[AV.str nm,AV.vs 9 0 m,AV.int .i64 df]]) k1 k2 k3 k4 [(true,.nest 4 (ts.map Trm.enc) [[AV.str tn,AV.vs 10 0 ms.length,AV.vs 11 0 acs.length,AV.int .i64 0]]),(true,.vec 6 (ms.map Mat.enc)),(true,.vec 5 (acs.map Actn.enc))]⟩:=by
 unfold bP rP;have h0:=am s (by omega)
 have hL:=bW e1 e2 e3 e4 p1 p2 p3 p4 k1 k2 k3 k4 so trm nm df n hn l4 ts lt tn ms lm acs la 0 m hm;have hx: ∀x:List AV,(e4++[x])[((n:Int)-1).toNat]? =some x:=λx=>by rw[hn];simp
 have hx9: ∀x:List AV,(ts.map Trm.enc++[x])[((m:Int)-1).toNat]? =some x:=λx=>by rw[hm];simp
 have hs9: ∀y x:List AV,((ts.map Trm.enc++[y]).set ((m:Int)-1).toNat x)[((m:Int)-1).toNat]? =some x:=λy x=>by rw[hm];simp
 have hset: ∀y x:List AV,(ts.map Trm.enc++[y]).set ((m:Int)-1).toNat x=ts.map Trm.enc++[x]:=λy x=>by rw[hm];simp
 have htl:(ag s).2.length<2^30:=CO (aW s).2 hs;unfold cq at d1;unfold cp at d2;unfold bN at d3;generalize ag s=ct at*;obtain ⟨w,t⟩:=ct;dsimp only at*;unfold iq at hw;subst hw;have h2:=aM true;rw[Ad rfl] at h2;have h3:=kD t htl;rw[hm2] at h3;unfold mg at h3;dsimp only at h3;have ex:x.enc= [.int .i64 x.kind,.int .i64 x.n,.int .i64 x.asn,.int .u32 x.com,.int .u32 x.addr]:=rfl;rw[ex] at h3
 have h4:True->ab G 587 [.int .i64 (acs.length:Int)] [] (pF 4):=λ_=>by
  have:=bR (acs.length:Int);rwa [Ac (by omega)] at this
 refine gvB (F:=jV) ?_
 (conv=>whnf)
 refine kP pzD [] ⟨rfl,rfl,rfl,rfl,rfl,rfl,rfl,rfl,rfl,rfl,rfl,rfl,trivial⟩ trivial hL ?_
 repeat' ((conv=>whnf);first|refine aQ d1 ?_|refine aQ d2 ?_|refine aQ d3 ?_|refine aQ (by decide) ?_|refine bf ?_|refine xr (hx _) ?_|refine xr (hx9 _) ?_|refine xr (hs9 _ _) ?_|refine aq ?_|(refine ae ?_ ?_<;>intro h))
 (conv=>whnf)
 refine CallG.stop ?_;refine aG 587 (h4 trivial) (λQ hr hg=>?_)
 refine kV hg ?_;refine bl pzD [] [true,true,true,true,true,true,true,true,true,true,true,true] ?_;rfl
theorem Wb (e1 e2 e3 e4:List (List AV))(p1:aa e1=true)(p2:aa e2=true)(p3:aa e3=true)(p4:aa e4=true)(k1 k2 k3 k4:List (List UInt8))(so:Int)(trm:Bool)(nm:List UInt8)(df:Int)(n:Nat)(hn:n=e4.length+1)(l4:e4.length<2^30)(ts:List Trm)(lt:ts.length<2^30)(tn:List UInt8)(ms:List Mat)(lm:ms.length<2^30)(acs:List Actn)(la:acs.length<2^30)(m:Nat)(hm:m=ts.length+1)(s:List UInt8)(hs:s.length<2^30)(d1:s≠cq)(d2:s≠cp)(d3:s≠bN)(hw:(ag s).1=iq)(x:Actn)(hm2:jl (ag s).2=some x)(hk:acs.length<64)(hc:il x≠0):ab G 542 [.ref 0 0 0,.str s] (bP e1.length e2.length e3.length n so true trm e1 e2 e3 (e4++[[AV.str nm,AV.vs 9 0 m,AV.int .i64 df]]) k1 k2 k3 k4 [.vec 4 (ts.map Trm.enc++[[AV.str tn,AV.vs 10 0 ms.length,AV.vs 11 0 acs.length,AV.int .i64 0]]),.vec 6 (ms.map Mat.enc),.vec 5 (acs.map Actn.enc)]) ⟨pnV (.ifc 138 (.agg [.int .i64 (il x)])),rP e1.length e2.length e3.length n so true trm (.vec 2 e1) (.vec 2 e2) (.vec 2 e3) (.nest 3 e4 [[AV.str nm,AV.vs 9 0 m,AV.int .i64 df]]) k1 k2 k3 k4 [(true,.nest 4 (ts.map Trm.enc) [[AV.str tn,AV.vs 10 0 ms.length,AV.vs 11 0 acs.length,AV.int .i64 0]]),(true,.vec 6 (ms.map Mat.enc)),(true,.vec 5 (acs.map Actn.enc))]⟩:=by
 unfold bP rP;have h0:=am s (by omega)
 have hL:=bW e1 e2 e3 e4 p1 p2 p3 p4 k1 k2 k3 k4 so trm nm df n hn l4 ts lt tn ms lm acs la 0 m hm;have hx: ∀x:List AV,(e4++[x])[((n:Int)-1).toNat]? =some x:=λx=>by rw[hn];simp
 have hx9: ∀x:List AV,(ts.map Trm.enc++[x])[((m:Int)-1).toNat]? =some x:=λx=>by rw[hm];simp
 have hs9: ∀y x:List AV,((ts.map Trm.enc++[y]).set ((m:Int)-1).toNat x)[((m:Int)-1).toNat]? =some x:=λy x=>by rw[hm];simp
 have hset: ∀y x:List AV,(ts.map Trm.enc++[y]).set ((m:Int)-1).toNat x=ts.map Trm.enc++[x]:=λy x=>by rw[hm];simp
 have htl:(ag s).2.length<2^30:=CO (aW s).2 hs;unfold cq at d1;unfold cp at d2;unfold bN at d3;generalize ag s=ct at*;obtain ⟨w,t⟩:=ct;dsimp only at*;unfold iq at hw;subst hw;have h2:=aM true;rw[Ad rfl] at h2;have h3:=kD t htl;rw[hm2] at h3;unfold mg at h3;dsimp only at h3;have ex:x.enc= [.int .i64 x.kind,.int .i64 x.n,.int .i64 x.asn,.int .u32 x.com,.int .u32 x.addr]:=rfl;rw[ex] at h3
 have h4:ab G 587 [.int .i64 (acs.length:Int)] [] ⟨.tup [],[]⟩:=by
  have:=bR (acs.length:Int);rwa [Ad (by omega)] at this
 have h5:=oy x;rw[ex] at h5;generalize il _=er at*;have h6:=λ(_:True)=>bp er
 rw[Ac hc] at h6;refine gvB (F:=jV) ?_
 (conv=>whnf)
 refine kP pzD [] ⟨rfl,rfl,rfl,rfl,rfl,rfl,rfl,rfl,rfl,rfl,rfl,rfl,trivial⟩ trivial hL ?_
 repeat' ((conv=>whnf);first|refine aQ d1 ?_|refine aQ d2 ?_|refine aQ d3 ?_|refine aQ (by decide) ?_|refine bf ?_|refine xr (hx _) ?_|refine xr (hx9 _) ?_|refine xr (hs9 _ _) ?_|refine aq ?_|(refine ae ?_ ?_<;>intro h))
 (conv=>whnf)
 refine CallG.stop ?_;refine aG 590 (h6 trivial) (λQ hr hg=>?_)
 refine kV hg ?_;refine bl pzD [] [true,true,true,true,true,true,true,true,true,true,true,true] ?_;rfl
theorem YP (e1 e2 e3 e4:List (List AV))(p1:aa e1=true)(p2:aa e2=true)(p3:aa e3=true)(p4:aa e4=true)(k1 k2 k3 k4:List (List UInt8))(so:Int)(trm:Bool)(nm:List UInt8)(df:Int)(n:Nat)(hn:n=e4.length+1)(l4:e4.length<2^30)(ts:List Trm)(lt:ts.length<2^30)(tn:List UInt8)(ms:List Mat)(lm:ms.length<2^30)(acs:List Actn)(la:acs.length<2^30)(m:Nat)(hm:m=ts.length+1)(s:List UInt8)(hs:s.length<2^30)(d1:s≠cq)(d2:s≠cp)(d3:s≠bN)(hw:(ag s).1=iq)(x:Actn)(hm2:jl (ag s).2=some x)(hk:acs.length<64)(hc:il x=0):ab G 542 [.ref 0 0 0,.str s] (bP e1.length e2.length e3.length n so true trm e1 e2 e3 (e4++[[AV.str nm,AV.vs 9 0 m,AV.int .i64 df]]) k1 k2 k3 k4 [.vec 4 (ts.map Trm.enc++[[AV.str tn,AV.vs 10 0 ms.length,AV.vs 11 0 acs.length,AV.int .i64 0]]),.vec 6 (ms.map Mat.enc),.vec 5 (acs.map Actn.enc)]) ⟨.tup [],rP e1.length e2.length e3.length n so true true (.vec 2 e1) (.vec 2 e2) (.vec 2 e3) (.nest 3 e4 [[AV.str nm,AV.vs 9 0 m,AV.int .i64 df]]) k1 k2 k3 k4 [(true,.nest 4 (ts.map Trm.enc) [[AV.str tn,AV.vs 10 0 ms.length,AV.vs 11 0 (acs.length+1),AV.int .i64 0]]),(true,.vec 6 (ms.map Mat.enc)),(false,.vec 5 (acs.map Actn.enc++[x.enc]))]⟩:=by
 unfold bP rP;have h0:=am s (by omega)
 have hL:=bW e1 e2 e3 e4 p1 p2 p3 p4 k1 k2 k3 k4 so trm nm df n hn l4 ts lt tn ms lm acs la 0 m hm;have hx: ∀x:List AV,(e4++[x])[((n:Int)-1).toNat]? =some x:=λx=>by rw[hn];simp
 have hx9: ∀x:List AV,(ts.map Trm.enc++[x])[((m:Int)-1).toNat]? =some x:=λx=>by rw[hm];simp
 have hs9: ∀y x:List AV,((ts.map Trm.enc++[y]).set ((m:Int)-1).toNat x)[((m:Int)-1).toNat]? =some x:=λy x=>by rw[hm];simp
 have hset: ∀y x:List AV,(ts.map Trm.enc++[y]).set ((m:Int)-1).toNat x=ts.map Trm.enc++[x]:=λy x=>by rw[hm];simp
 have htl:(ag s).2.length<2^30:=CO (aW s).2 hs;unfold cq at d1;unfold cp at d2;unfold bN at d3;generalize ag s=ct at*;obtain ⟨w,t⟩:=ct;dsimp only at*;unfold iq at hw;subst hw;have h2:=aM true;rw[Ad rfl] at h2;have h3:=kD t htl;rw[hm2] at h3;unfold mg at h3;dsimp only at h3;have ex:x.enc= [.int .i64 x.kind,.int .i64 x.n,.int .i64 x.asn,.int .u32 x.com,.int .u32 x.addr]:=rfl;rw[ex] at h3
 have h4:ab G 587 [.int .i64 (acs.length:Int)] [] ⟨.tup [],[]⟩:=by
  have:=bR (acs.length:Int);rwa [Ad (by omega)] at this
 have h5:=oy x;rw[ex] at h5;rw[ex];rw[hc] at h5;have h6:=bp 0;rw[Ad rfl] at h6;refine gvB (F:=jV) ?_
 (conv=>whnf)
 refine kP pzD [] ⟨rfl,rfl,rfl,rfl,rfl,rfl,rfl,rfl,rfl,rfl,rfl,rfl,trivial⟩ trivial hL ?_
 repeat' ((conv=>whnf);first|refine aQ d1 ?_|refine aQ d2 ?_|refine aQ d3 ?_|refine aQ (by decide) ?_|refine bf ?_|refine xr (hx _) ?_|refine xr (hx9 _) ?_|refine xr (hs9 _ _) ?_|refine aq ?_|(refine ae ?_ ?_<;>intro h))
 (conv=>whnf)
 rw[hset]
 (first|refine cG pzD [] [true,true,true,true,true,true,true,true,true,true,true,false] ?_|refine cH pzD [] [true,true,true,true,true,true,true,true,true,true,true,false] ?_)
 rfl
end Go.AM.IR
