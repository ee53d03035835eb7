/- What functions of this program give. -/
import Derived.Test.YtomphmeopjpejaaGreatDoorDataL
import Derived.Test.YtomphmeopjpejaaGreatDoorDataM
set_option linter.unusedSectionVars false
set_option linter.unusedVariables false
set_option linter.unusedSimpArgs false
set_option maxHeartbeats 4000000
set_option maxRecDepth 20000
namespace Go.AM.IR
section
variable {kv:AV->Prop}
theorem yNeT {a b:B5}(n:a=b)(h:kv (.bool false)): ∃v,bm .neq (.str a) (.str b)=some v/\kv v:=⟨.bool false,by show some (AV.bool (!(a==b)))=_;simp[n],h⟩
theorem yNeF {a b:B5}(n: ¬a=b)(h:kv (.bool true)): ∃v,bm .neq (.str a) (.str b)=some v/\kv v:=⟨.bool true,by show some (AV.bool (!(a==b)))=_;simp[n],h⟩
theorem Ab {x:Nat}(hx:x<65536)(h:kv (.int .u32 ((x*65536:Nat):Int))): ∃v,bm .shl (.int .u32 (x:Int)) (.int .u64 16)=some v/\kv v:=by
 refine ⟨_,?_,h⟩;show some (AV.int .u32 (IntKind.wrap .u32 ((x:Int)*2^ (min (16:Int).toNat 32))))=_
 rw[show (x:Int)*2^ (min (16:Int).toNat 32)=((x*65536:Nat):Int) from by simp[show min (16:Int).toNat 32=16 from rfl],oC _ (by omega)]
theorem PY {x n:Nat}(hx:x<65536)(hn:n<65536)(h:kv (.int .u32 ((x*65536+n:Nat):Int))): ∃v,bm .or (.int .u32 ((x*65536:Nat):Int)) (.int .u32 (n:Int))=some v/\kv v:=by
 refine ⟨_,?_,h⟩;show some (AV.int .u32 (intBits .or .u32 _ _))=_
 rw[IX _ _ (by omega) (by omega)]
 congr 2
 have:=Nat.shiftLeft_add_eq_or_of_lt (i:=16) (b:=n) (by omega) x
 rw[Nat.shiftLeft_eq] at this;rw[show x*65536=x*2^16 from rfl,<-this]
end
def cmN (s:B5):Ds:=if s=wC0 then some 4294901760 else if s=wC1 then some 4294967041 else if s=wC2 then some 4294967042 else if s=wC3 then some 4294967043 else none
def cmV (s a b:B5):Ds:=if (J.fNum 65535 a).2=0/\(J.fNum 65535 b).2=0/\gQ ((J.fNum 65535 a).1.toNat*65536+(J.fNum 65535 b).1.toNat)=s then some (((J.fNum 65535 a).1.toNat*65536+(J.fNum 65535 b).1.toNat:Nat):Int) else none
def cmP (s:B5):Ds:=match cmN s with
 |some v=>some v
 |none=>match fM s with
  |none=>none
  |some (a,b)=>cmV s a b
def cmR:Ds->Ret
 |some v=>⟨.tup [.int .u32 v,.int .i64 0],[]⟩
 |none=>⟨.tup [.int .u32 0,.int .i64 2],[]⟩
theorem Kz:ag G 628 [] [] ⟨.tup [.agg [.int .u32 4294901760,.int .u32 4294967041,.int .u32 4294967042,.int .u32 4294967043],.agg [.str [103,114,97,99,101,102,117,108,45,115,104,117,116,100,111,119,110],.str [110,111,45,101,120,112,111,114,116],.str [110,111,45,97,100,118,101,114,116,105,115,101],.str [110,111,45,101,120,112,111,114,116,45,99,111,110,102,101,100]]],[]⟩:=i8 1000 rfl rfl (by kernel_rfl)
theorem zt (s:B5)(hs:s.length<2^30)(hN:cmN s=none): ∀(rest done:B5)(T:TV)(H:az)(c:Nat)(i:Int)(e:s=done++rest)(hi:i=done.length)(hd: ∀x∈done,x≠58),
  Ev G ⟨UI,⟨(32,.int .i64 i)::(31,.int .i64 (s.length:Int))::(0,.str s)::T,H,c⟩,[.t 2,.t 3],0⟩ (cmR (cmP s))
 | [],done,T,H,c,i,e,hi,hd=>by
  have hl:=md0 e
  have hv:cmP s=none:=by
   unfold cmP;rw[hN,e];dsimp only
   rw[pJ hd];rfl
  rw[hv];refine evA ?_;refine ap ?_;rfl
 |x::rest,done,T,H,c,i,e,hi,hd=>by
  have hl:=md e;have hb:s[i.toNat]? =some x:=by rw[e,hi];simp
  have hxl:=x.toNat_lt
  by_cases h:x=58
  ·subst h
   have hv:cmP s=cmV s done rest:=by
    unfold cmP;rw[hN];dsimp only
    have:fM s=some (done,rest):=by rw[e,pJ hd];simp[fM]
    rw[this]
   rw[hv];have ta:List.take (i.toNat-0) (List.drop 0 s)=done:=by rw[e,hi];simp
   have tb:List.take (s.length- (i+1).toNat) (List.drop (i+1).toNat s)=rest:=by
    rw[hi,show ((done.length:Int)+1).toNat=done.length+1 from by omega,e,show done++58::rest=(done++[58])++rest from by simp]
    rw[show done.length+1=(done++[58]).length from by simp,List.drop_left,List.take_of_length_le (by simp;omega)]
   have h6:ag G 346 [.str (List.take (i.toNat-0) (List.drop 0 s)),.int .i64 65535] [] (J.nfR (J.fNum 65535 done)):=by rw[ta];exact J.num_gives346 done (by omega) 65535
   have h7:ag G 346 [.str (List.take (s.length- (i+1).toNat) (List.drop (i+1).toNat s)),.int .i64 65535] [] (J.nfR (J.fNum 65535 rest)):=by rw[tb];exact J.num_gives346 rest (by omega) 65535
   clear ta tb;have b1:=J.fNum_ok 65535 done (by decide)
   have b2:=J.fNum_ok 65535 rest (by decide)
   unfold J.nfR at h6 h7;unfold cmV;generalize J.fNum 65535 done=p at*;generalize J.fNum 65535 rest=q at*;obtain ⟨p1,p2⟩:=p;obtain ⟨q1,q2⟩:=q;dsimp only at*;obtain ⟨P,rfl⟩: ∃P:Nat,p1=P:=⟨p1.toNat,by omega⟩
   obtain ⟨Q,rfl⟩: ∃Q:Nat,q1=Q:=⟨q1.toNat,by omega⟩
   rw[Int.toNat_natCast,Int.toNat_natCast];have hP:P<65536:=by omega
   have hQ:Q<65536:=by omega
   have h8:=Kr (P*65536+Q) (by omega)
   by_cases c1:p2=0
   case neg=>
    rw[Aa (λz=>c1 z.1)]
    refine evl ?_
    repeat' ((conv=>whnf);first|refine rM hb ?_|refine Ab hP ?_|refine PY hP hQ ?_|refine aq ?_|apply ae<;>intro h)
    refine ap ?_;rfl
   subst c1
   by_cases c2:q2=0
   case neg=>
    rw[Aa (λz=>c2 z.2.1)]
    refine evl ?_
    repeat' ((conv=>whnf);first|refine rM hb ?_|refine Ab hP ?_|refine PY hP hQ ?_|refine aq ?_|apply ae<;>intro h)
    refine ap ?_;rfl
   subst c2
   by_cases c3:gQ (P*65536+Q)=s
   ·rw[Ac ⟨rfl,rfl,c3⟩]
    refine evl ?_
    repeat' ((conv=>whnf);first|refine yNeT c3 ?_|refine rM hb ?_|refine Ab hP ?_|refine PY hP hQ ?_|refine aq ?_|apply ae<;>intro h)
    refine ap ?_;rfl
   ·rw[Aa (λz=>c3 z.2.2)]
    refine evl ?_
    repeat' ((conv=>whnf);first|refine yNeF c3 ?_|refine rM hb ?_|refine Ab hP ?_|refine PY hP hQ ?_|refine aq ?_|apply ae<;>intro h)
    refine ap ?_;rfl
  ·have hne: ¬(x.toNat:Int)=58:=λq=>h (A5.1 (by simpa using (by omega:x.toNat=58)))
   have ih:=λT H c=>zt s hs hN rest (done++[x]) T H c (i+1) (by simp[e]) (by simp[hi]) (by
    intro y hy;rcases BE.1 hy with hy|hy
    ·exact hd y hy
    ·rw[BO.1 hy];exact h)
   refine evl ?_
   repeat' ((conv=>whnf);first|refine rM hb ?_|refine aq ?_|apply ae<;>intro h)
   refine au [32,31,0] [] ?_;exact ih _ _ _
theorem wz (s:B5)(hs:s.length<2^30):ag G 631 [.str s] [] (cmR (cmP s)):=by
 have hn:=Kz
 by_cases c0:s=wC0
 ·have hv:cmP s=some 4294901760:=by rw[c0];rfl
  rw[hv,c0];unfold wC0;refine gvB (F:=ss) ?_;refine evl ?_
  repeat' ((conv=>whnf);first|refine bj ?_|refine aq ?_|apply ae<;>intro h)
  refine ap ?_;rfl
 by_cases c1:s=wC1
 ·have hv:cmP s=some 4294967041:=by rw[c1];rfl
  rw[hv,c1];unfold wC1;refine gvB (F:=ss) ?_;refine evl ?_
  repeat' ((conv=>whnf);first|refine aG (by decide) ?_|refine bj ?_|refine aq ?_|apply ae<;>intro h)
  refine evl ?_
  repeat' ((conv=>whnf);first|refine aG (by decide) ?_|refine bj ?_|refine aq ?_|apply ae<;>intro h)
  refine ap ?_;rfl
 by_cases c2:s=wC2
 ·have hv:cmP s=some 4294967042:=by rw[c2];rfl
  rw[hv,c2];unfold wC2;refine gvB (F:=ss) ?_;refine evl ?_
  repeat' ((conv=>whnf);first|refine aG (by decide) ?_|refine bj ?_|refine aq ?_|apply ae<;>intro h)
  refine evl ?_
  repeat' ((conv=>whnf);first|refine aG (by decide) ?_|refine bj ?_|refine aq ?_|apply ae<;>intro h)
  refine evl ?_
  repeat' ((conv=>whnf);first|refine aG (by decide) ?_|refine bj ?_|refine aq ?_|apply ae<;>intro h)
  refine ap ?_;rfl
 by_cases c3:s=wC3
 ·have hv:cmP s=some 4294967043:=by rw[c3];rfl
  rw[hv,c3];unfold wC3;refine gvB (F:=ss) ?_;refine evl ?_
  repeat' ((conv=>whnf);first|refine aG (by decide) ?_|refine bj ?_|refine aq ?_|apply ae<;>intro h)
  refine evl ?_
  repeat' ((conv=>whnf);first|refine aG (by decide) ?_|refine bj ?_|refine aq ?_|apply ae<;>intro h)
  refine evl ?_
  repeat' ((conv=>whnf);first|refine aG (by decide) ?_|refine bj ?_|refine aq ?_|apply ae<;>intro h)
  refine evl ?_
  repeat' ((conv=>whnf);first|refine aG (by decide) ?_|refine bj ?_|refine aq ?_|apply ae<;>intro h)
  refine ap ?_;rfl
 have hN:cmN s=none:=by unfold cmN;rw[Aa c0,Aa c1,Aa c2,Aa c3]
 have lp:=λT H c=>zt s hs hN s [] T H c 0 rfl rfl (by simp)
 unfold wC0 at c0;unfold wC1 at c1;unfold wC2 at c2;unfold wC3 at c3;refine gvB (F:=ss) ?_;refine evl ?_
 repeat' ((conv=>whnf);first|refine aG c0 ?_|refine aG c1 ?_|refine aG c2 ?_|refine aG c3 ?_|refine aq ?_|apply ae<;>intro h)
 refine evl ?_
 repeat' ((conv=>whnf);first|refine aG c0 ?_|refine aG c1 ?_|refine aG c2 ?_|refine aG c3 ?_|refine aq ?_|apply ae<;>intro h)
 refine evl ?_
 repeat' ((conv=>whnf);first|refine aG c0 ?_|refine aG c1 ?_|refine aG c2 ?_|refine aG c3 ?_|refine aq ?_|apply ae<;>intro h)
 refine evl ?_
 repeat' ((conv=>whnf);first|refine aG c0 ?_|refine aG c1 ?_|refine aG c2 ?_|refine aG c3 ?_|refine aq ?_|apply ae<;>intro h)
 refine evl ?_
 repeat' ((conv=>whnf);first|refine aG c0 ?_|refine aG c1 ?_|refine aG c2 ?_|refine aG c3 ?_|refine aq ?_|apply ae<;>intro h)
 refine au [32,31,0] [] ?_;exact lp _ _ _
def ot:B5:=[112,114,101,102]
def r6:B5:=[109,101,100]
def jU:B5:=[109,101,116,114,105,99]
def r0:B5:=[116,97,103]
def nr:B5:=[110,101,120,116,45,104,111,112]
def sa:B5:=[97,100,100]
def r8:B5:=[100,101,108,101,116,101]
def jd:B5:=[112,114,101,112,101,110,100]
def mj (k:Int)(o:Ds):D3:=match o with
 |some n=>some ⟨k,n,0,0,0⟩
 |none=>none
def qC (k:Int)(o:Ds):D3:=match o with
 |some n=>some ⟨k,0,0,n,0⟩
 |none=>none
def p8 (a n:Ds):D3:=match a with
 |some x=>(match n with
  |some y=>some ⟨8,y,x,0,0⟩
  |none=>none)
 |none=>none
def qX (h t:B5):D3:=
 if h=ot then mj 1 (n32 t) else if h=r6 then mj 2 (n32 t) else if h=jU then mj 3 (n32 t) else if h=r0 then mj 4 (n32 t) else
 if h=nr then (if (J.paP t).2=0 then some ⟨5,0,0,0,(J.paP t).1⟩ else none) else if h=sa then qC 6 (cmP t) else if h=r8 then qC 7 (cmP t) else
 if h=jd then p8 (n32 (aw t).1) (n32 (aw t).2) else none
def oc (s:B5):D3:=qX (aw s).1 (aw s).2
def od:D3->Ret
 |some a=>⟨.agg a.enc,[]⟩
 |none=>pF 2
section
variable (s:B5)(hs:s.length<2^30)(w t:B5)(hc:aw s=(w,t))
include hs hc
theorem ahH (hw:w=ot):ag G 595 [.str s] [] (od (mj 1 (n32 t))):=by
 have h1:=aE s (by omega)
 rw[hc] at h1;have hl:t.length<=s.length:=by have:=(bc s).2;rw[hc] at this;exact this
 dsimp only at*;unfold ot at hw;subst hw;have h4:=bJ t (by omega)
 cases hq:n32 t with
 |some v=>
  rw[hq] at h4;unfold vF at h4;refine gvC (F:=iZ) ?_
  repeat' ((conv=>whnf);first|refine bj ?_|refine aq ?_|apply ae<;>intro h)
  refine ap ?_;(conv=>whnf);refine Go.AM.finC ?_;rfl
 |none=>
  rw[hq] at h4;replace h4:=λ(_:True)=>h4
  refine gvC (F:=iZ) ?_
  repeat' ((conv=>whnf);first|refine bj ?_|refine aq ?_|apply ae<;>intro h)
  (conv=>whnf)
  refine CallG.stop ?_;refine aH 629 (h4 trivial) (λQ hr hg=>?_)
  refine kV hg ?_;rfl
theorem ahG (hw:w=r6):ag G 595 [.str s] [] (od (mj 2 (n32 t))):=by
 have h1:=aE s (by omega)
 rw[hc] at h1;have hl:t.length<=s.length:=by have:=(bc s).2;rw[hc] at this;exact this
 dsimp only at*;unfold r6 at hw;subst hw;have h4:=bJ t (by omega)
 cases hq:n32 t with
 |some v=>
  rw[hq] at h4;unfold vF at h4;refine gvC (F:=iZ) ?_
  repeat' ((conv=>whnf);first|refine aG (by decide) ?_|refine bj ?_|refine aq ?_|apply ae<;>intro h)
  refine ap ?_;(conv=>whnf);refine Go.AM.finC ?_;rfl
 |none=>
  rw[hq] at h4;replace h4:=λ(_:True)=>h4
  refine gvC (F:=iZ) ?_
  repeat' ((conv=>whnf);first|refine aG (by decide) ?_|refine bj ?_|refine aq ?_|apply ae<;>intro h)
  (conv=>whnf)
  refine CallG.stop ?_;refine aH 629 (h4 trivial) (λQ hr hg=>?_)
  refine kV hg ?_;rfl
theorem ahF (hw:w=jU):ag G 595 [.str s] [] (od (mj 3 (n32 t))):=by
 have h1:=aE s (by omega)
 rw[hc] at h1;have hl:t.length<=s.length:=by have:=(bc s).2;rw[hc] at this;exact this
 dsimp only at*;unfold jU at hw;subst hw;have h4:=bJ t (by omega)
 cases hq:n32 t with
 |some v=>
  rw[hq] at h4;unfold vF at h4;refine gvC (F:=iZ) ?_
  repeat' ((conv=>whnf);first|refine aG (by decide) ?_|refine bj ?_|refine aq ?_|apply ae<;>intro h)
  refine ap ?_;(conv=>whnf);refine Go.AM.finC ?_;rfl
 |none=>
  rw[hq] at h4;replace h4:=λ(_:True)=>h4
  refine gvC (F:=iZ) ?_
  repeat' ((conv=>whnf);first|refine aG (by decide) ?_|refine bj ?_|refine aq ?_|apply ae<;>intro h)
  (conv=>whnf)
  refine CallG.stop ?_;refine aH 629 (h4 trivial) (λQ hr hg=>?_)
  refine kV hg ?_;rfl
theorem ahE (hw:w=r0):ag G 595 [.str s] [] (od (mj 4 (n32 t))):=by
 have h1:=aE s (by omega)
 rw[hc] at h1;have hl:t.length<=s.length:=by have:=(bc s).2;rw[hc] at this;exact this
 dsimp only at*;unfold r0 at hw;subst hw;have h4:=bJ t (by omega)
 cases hq:n32 t with
 |some v=>
  rw[hq] at h4;unfold vF at h4;refine gvC (F:=iZ) ?_
  repeat' ((conv=>whnf);first|refine aG (by decide) ?_|refine bj ?_|refine aq ?_|apply ae<;>intro h)
  refine ap ?_;(conv=>whnf);refine Go.AM.finC ?_;rfl
 |none=>
  rw[hq] at h4;replace h4:=λ(_:True)=>h4
  refine gvC (F:=iZ) ?_
  repeat' ((conv=>whnf);first|refine aG (by decide) ?_|refine bj ?_|refine aq ?_|apply ae<;>intro h)
  (conv=>whnf)
  refine CallG.stop ?_;refine aH 629 (h4 trivial) (λQ hr hg=>?_)
  refine kV hg ?_;rfl
theorem ahD (hw:w=nr):ag G 595 [.str s] [] (od (if (J.paP t).2=0 then some ⟨5,0,0,0,(J.paP t).1⟩ else none)):=by
 have h1:=aE s (by omega)
 rw[hc] at h1;have hl:t.length<=s.length:=by have:=(bc s).2;rw[hc] at this;exact this
 dsimp only at*;unfold nr at hw;subst hw;have h4:=J.pad_gives231 t (by omega)
 have h5:=aU true;rw[Ac rfl] at h5;unfold J.okA at h4;generalize J.paP t=x at*;obtain ⟨a,e⟩:=x;dsimp only at*
 by_cases he:e=0
 ·subst he
  rw[Ac rfl];refine gvC (F:=iZ) ?_
  repeat' ((conv=>whnf);first|refine aG (by decide) ?_|refine bj ?_|refine aq ?_|apply ae<;>intro h)
  refine ap ?_;(conv=>whnf);refine Go.AM.finC ?_;rfl
 ·have h6:=λ(_:True)=>aU false
  rw[Aa he];refine gvC (F:=iZ) ?_
  repeat' ((conv=>whnf);first|refine fu he ?_|refine aG (by decide) ?_|refine bj ?_|refine aq ?_|apply ae<;>intro h)
  (conv=>whnf)
  refine CallG.stop ?_;refine aH 586 (h6 trivial) (λQ hr hg=>?_)
  refine kV hg ?_;rfl
theorem ahC (hw:w=sa):ag G 595 [.str s] [] (od (qC 6 (cmP t))):=by
 have h1:=aE s (by omega)
 rw[hc] at h1;have hl:t.length<=s.length:=by have:=(bc s).2;rw[hc] at this;exact this
 dsimp only at*;unfold sa at hw;subst hw;have h4:=wz t (by omega)
 cases hq:cmP t with
 |some v=>
  have h5:=aU true;rw[Ac rfl] at h5;rw[hq] at h4;unfold cmR at h4;refine gvC (F:=iZ) ?_
  repeat' ((conv=>whnf);first|refine aG (by decide) ?_|refine bj ?_|refine aq ?_|apply ae<;>intro h)
  refine ap ?_;(conv=>whnf);refine Go.AM.finC ?_;rfl
 |none=>
  have h6:=λ(_:True)=>aU false
  rw[hq] at h4;unfold cmR at h4;refine gvC (F:=iZ) ?_
  repeat' ((conv=>whnf);first|refine aG (by decide) ?_|refine bj ?_|refine aq ?_|apply ae<;>intro h)
  (conv=>whnf)
  refine CallG.stop ?_;refine aH 586 (h6 trivial) (λQ hr hg=>?_)
  refine kV hg ?_;rfl
theorem ahB (hw:w=r8):ag G 595 [.str s] [] (od (qC 7 (cmP t))):=by
 have h1:=aE s (by omega)
 rw[hc] at h1;have hl:t.length<=s.length:=by have:=(bc s).2;rw[hc] at this;exact this
 dsimp only at*;unfold r8 at hw;subst hw;have h4:=wz t (by omega)
 cases hq:cmP t with
 |some v=>
  have h5:=aU true;rw[Ac rfl] at h5;rw[hq] at h4;unfold cmR at h4;refine gvC (F:=iZ) ?_
  repeat' ((conv=>whnf);first|refine aG (by decide) ?_|refine bj ?_|refine aq ?_|apply ae<;>intro h)
  refine ap ?_;(conv=>whnf);refine Go.AM.finC ?_;rfl
 |none=>
  have h6:=λ(_:True)=>aU false
  rw[hq] at h4;unfold cmR at h4;refine gvC (F:=iZ) ?_
  repeat' ((conv=>whnf);first|refine aG (by decide) ?_|refine bj ?_|refine aq ?_|apply ae<;>intro h)
  (conv=>whnf)
  refine CallG.stop ?_;refine aH 586 (h6 trivial) (λQ hr hg=>?_)
  refine kV hg ?_;rfl
theorem ahA (hw:w=jd):ag G 595 [.str s] [] (od (p8 (n32 (aw t).1) (n32 (aw t).2))):=by
 have h1:=aE s (by omega)
 rw[hc] at h1;have hl:t.length<=s.length:=by have:=(bc s).2;rw[hc] at this;exact this
 dsimp only at*;unfold jd at hw;subst hw;have h5:=aU true;rw[Ac rfl] at h5;have h2:=aE t (by omega)
 have l1:=bc t;generalize aw t=p at*;obtain ⟨x,y⟩:=p;dsimp only at*;have h4:=bJ x (by omega)
 have h6:=bJ y (by omega)
 cases hq:n32 x with
 |none=>
  rw[hq] at h4;replace h4:=λ(_:True)=>h4
  clear h6;refine gvC (F:=iZ) ?_
  repeat' ((conv=>whnf);first|refine aG (by decide) ?_|refine bj ?_|refine aq ?_|apply ae<;>intro h)
  (conv=>whnf)
  refine CallG.stop ?_;refine aH 629 (h4 trivial) (λQ hr hg=>?_)
  refine kV hg ?_;rfl
 |some va=>
  rw[hq] at h4;unfold vF at h4;cases hq2:n32 y with
  |none=>
   rw[hq2] at h6;replace h6:=λ(_:True)=>h6
   refine gvC (F:=iZ) ?_
   repeat' ((conv=>whnf);first|refine aG (by decide) ?_|refine bj ?_|refine aq ?_|apply ae<;>intro h)
   (conv=>whnf)
   refine CallG.stop ?_;refine aH 629 (h6 trivial) (λQ hr hg=>?_)
   refine kV hg ?_;rfl
  |some vb=>
   rw[hq2] at h6;unfold vF at h6;refine gvC (F:=iZ) ?_
   repeat' ((conv=>whnf);first|refine aG (by decide) ?_|refine bj ?_|refine aq ?_|apply ae<;>intro h)
   refine ap ?_;(conv=>whnf);refine Go.AM.finC ?_;rfl
theorem ahJ (n0:w≠ot)(n1:w≠r6)(n2:w≠jU)(n3:w≠r0)(n4:w≠nr)(n5:w≠sa)(n6:w≠r8)(n7:w≠jd):ag G 595 [.str s] [] (pF 2):=by
 have h1:=aE s (by omega)
 rw[hc] at h1;have hl:t.length<=s.length:=by have:=(bc s).2;rw[hc] at this;exact this
 dsimp only at*;unfold ot at n0;unfold r6 at n1;unfold jU at n2;unfold r0 at n3;unfold nr at n4;unfold sa at n5;unfold r8 at n6;unfold jd at n7;have h5:=λ(_:True)=>aU false
 refine gvC (F:=iZ) ?_
 repeat' ((conv=>whnf);first|refine aG n0 ?_|refine aG n1 ?_|refine aG n2 ?_|refine aG n3 ?_|refine aG n4 ?_|refine aG n5 ?_|refine aG n6 ?_|refine aG n7 ?_|refine aq ?_|apply ae<;>intro h)
 (conv=>whnf)
 refine CallG.stop ?_;refine aH 586 (h5 trivial) (λQ hr hg=>?_)
 refine kV hg ?_;rfl
end
theorem mi (s:B5)(hs:s.length<2^30):ag G 595 [.str s] [] (od (oc s)):=by
 unfold oc qX;have f:=(rfl:aw s=((aw s).1,(aw s).2))
 by_cases c0:(aw s).1=ot
 ·rw[Ac c0];exact ahH s hs _ _ f c0
 rw[Aa c0]
 by_cases c1:(aw s).1=r6
 ·rw[Ac c1];exact ahG s hs _ _ f c1
 rw[Aa c1]
 by_cases c2:(aw s).1=jU
 ·rw[Ac c2];exact ahF s hs _ _ f c2
 rw[Aa c2]
 by_cases c3:(aw s).1=r0
 ·rw[Ac c3];exact ahE s hs _ _ f c3
 rw[Aa c3]
 by_cases c4:(aw s).1=nr
 ·rw[Ac c4];exact ahD s hs _ _ f c4
 rw[Aa c4]
 by_cases c5:(aw s).1=sa
 ·rw[Ac c5];exact ahC s hs _ _ f c5
 rw[Aa c5]
 by_cases c6:(aw s).1=r8
 ·rw[Ac c6];exact ahB s hs _ _ f c6
 rw[Aa c6]
 by_cases c7:(aw s).1=jd
 ·rw[Ac c7];exact ahA s hs _ _ f c7
 rw[Aa c7];exact ahJ s hs _ _ f c0 c1 c2 c3 c4 c5 c6 c7
def cW:B5:=[97,99,99,101,112,116]
def cU:B5:=[114,101,106,101,99,116]
def ca:B5:=[110,101,120,116]
def cI:B5:=[109,97,116,99,104]
def fY:B5:=[115,101,116]
section
variable (e1 e2 e3 e4:B6)(p1:ab e1=true)(p2:ab e2=true)(p3:ab e3=true)(p4:ab e4=true)(k1 k2 k3 k4:CF)(so:Int)(trm:Bool)(nm:B5)(df:Int)(n:Nat)(hn:n=e4.length+1)(l4:e4.length<2^30)(ts:C4)(lt:ts.length<2^30)(tn:B5)(ms:C9)(lm:ms.length<2^30)(acs:C8)(la:acs.length<2^30)(m:Nat)(hm:m=ts.length+1)
include p1 p2 p3 p4 hn l4 lt lm la hm
theorem agI:ag G 542 [.ref 0 0 0,.str cW] (bP e1.length e2.length e3.length n so true trm e1 e2 e3 (e4++[[AV.str nm,AV.vs 9 0 m,AV.int .i64 df]]) k1 k2 k3 k4 [.vec 4 (ts.map Trm.enc++[[AV.str tn,AV.vs 10 0 ms.length,AV.vs 11 0 acs.length,AV.int .i64 0]]),.vec 6 (ms.map Mat.enc),.vec 5 (acs.map Actn.enc)]) ⟨.tup [],rP e1.length e2.length e3.length n so true false (.vec 2 e1) (.vec 2 e2) (.vec 2 e3) (.nest 3 e4 [[AV.str nm,AV.vs 9 0 m,AV.int .i64 df]]) k1 k2 k3 k4 [(true,.nest 4 (ts.map Trm.enc) [[AV.str tn,AV.vs 10 0 ms.length,AV.vs 11 0 acs.length,AV.int .i64 1]]),(true,.vec 6 (ms.map Mat.enc)),(true,.vec 5 (acs.map Actn.enc))]⟩:=by
 unfold bP rP;have h0:=aE cW (by decide)
 have hL:=ci e1 e2 e3 e4 p1 p2 p3 p4 k1 k2 k3 k4 so trm nm df n hn l4 ts lt tn ms lm acs la 0 m hm;have hx: ∀x:B7,(e4++[x])[((n:Int)-1).toNat]? =some x:=λx=>by rw[hn];simp
 have hx9: ∀x:B7,(ts.map Trm.enc++[x])[((m:Int)-1).toNat]? =some x:=λx=>by rw[hm];simp
 have hs9: ∀y x:B7,((ts.map Trm.enc++[y]).set ((m:Int)-1).toNat x)[((m:Int)-1).toNat]? =some x:=λy x=>by rw[hm];simp
 have hset: ∀y x:B7,(ts.map Trm.enc++[y]).set ((m:Int)-1).toNat x=ts.map Trm.enc++[x]:=λy x=>by rw[hm];simp
 have htl:(aw cW).2.length<2^30:=B4 (bc cW).2 (by decide)
 unfold cW at*;generalize aw _=ct at*;obtain ⟨w,t⟩:=ct;dsimp only at*;refine gvB (F:=lc) ?_
 (conv=>whnf)
 refine kP pzD [] gq trivial hL ?_
 repeat' ((conv=>whnf);first|refine bj ?_|refine xr (hx _) ?_|refine xr (hx9 _) ?_|refine xr (hs9 _ _) ?_|refine aq ?_|apply ae<;>intro h)
 (conv=>whnf)
 rw[hset]
 (first|refine da pzD [] iw ?_|refine db pzD [] iw ?_)
 rfl
theorem agH:ag G 542 [.ref 0 0 0,.str cU] (bP e1.length e2.length e3.length n so true trm e1 e2 e3 (e4++[[AV.str nm,AV.vs 9 0 m,AV.int .i64 df]]) k1 k2 k3 k4 [.vec 4 (ts.map Trm.enc++[[AV.str tn,AV.vs 10 0 ms.length,AV.vs 11 0 acs.length,AV.int .i64 0]]),.vec 6 (ms.map Mat.enc),.vec 5 (acs.map Actn.enc)]) ⟨.tup [],rP e1.length e2.length e3.length n so true false (.vec 2 e1) (.vec 2 e2) (.vec 2 e3) (.nest 3 e4 [[AV.str nm,AV.vs 9 0 m,AV.int .i64 df]]) k1 k2 k3 k4 [(true,.nest 4 (ts.map Trm.enc) [[AV.str tn,AV.vs 10 0 ms.length,AV.vs 11 0 acs.length,AV.int .i64 2]]),(true,.vec 6 (ms.map Mat.enc)),(true,.vec 5 (acs.map Actn.enc))]⟩:=by
 unfold bP rP;have h0:=aE cU (by decide)
 have hL:=ci e1 e2 e3 e4 p1 p2 p3 p4 k1 k2 k3 k4 so trm nm df n hn l4 ts lt tn ms lm acs la 0 m hm;have hx: ∀x:B7,(e4++[x])[((n:Int)-1).toNat]? =some x:=λx=>by rw[hn];simp
 have hx9: ∀x:B7,(ts.map Trm.enc++[x])[((m:Int)-1).toNat]? =some x:=λx=>by rw[hm];simp
 have hs9: ∀y x:B7,((ts.map Trm.enc++[y]).set ((m:Int)-1).toNat x)[((m:Int)-1).toNat]? =some x:=λy x=>by rw[hm];simp
 have hset: ∀y x:B7,(ts.map Trm.enc++[y]).set ((m:Int)-1).toNat x=ts.map Trm.enc++[x]:=λy x=>by rw[hm];simp
 have htl:(aw cU).2.length<2^30:=B4 (bc cU).2 (by decide)
 unfold cU at*;generalize aw _=ct at*;obtain ⟨w,t⟩:=ct;dsimp only at*;refine gvB (F:=lc) ?_
 (conv=>whnf)
 refine kP pzD [] gq trivial hL ?_
 repeat' ((conv=>whnf);first|refine aG (by decide) ?_|refine bj ?_|refine xr (hx _) ?_|refine xr (hx9 _) ?_|refine xr (hs9 _ _) ?_|refine aq ?_|apply ae<;>intro h)
 (conv=>whnf)
 rw[hset]
 (first|refine da pzD [] iw ?_|refine db pzD [] iw ?_)
 rfl
theorem agF:ag G 542 [.ref 0 0 0,.str ca] (bP e1.length e2.length e3.length n so true trm e1 e2 e3 (e4++[[AV.str nm,AV.vs 9 0 m,AV.int .i64 df]]) k1 k2 k3 k4 [.vec 4 (ts.map Trm.enc++[[AV.str tn,AV.vs 10 0 ms.length,AV.vs 11 0 acs.length,AV.int .i64 0]]),.vec 6 (ms.map Mat.enc),.vec 5 (acs.map Actn.enc)]) ⟨.tup [],rP e1.length e2.length e3.length n so true false (.vec 2 e1) (.vec 2 e2) (.vec 2 e3) (.nest 3 e4 [[AV.str nm,AV.vs 9 0 m,AV.int .i64 df]]) k1 k2 k3 k4 [(true,.nest 4 (ts.map Trm.enc) [[AV.str tn,AV.vs 10 0 ms.length,AV.vs 11 0 acs.length,AV.int .i64 3]]),(true,.vec 6 (ms.map Mat.enc)),(true,.vec 5 (acs.map Actn.enc))]⟩:=by
 unfold bP rP;have h0:=aE ca (by decide)
 have hL:=ci e1 e2 e3 e4 p1 p2 p3 p4 k1 k2 k3 k4 so trm nm df n hn l4 ts lt tn ms lm acs la 0 m hm;have hx: ∀x:B7,(e4++[x])[((n:Int)-1).toNat]? =some x:=λx=>by rw[hn];simp
 have hx9: ∀x:B7,(ts.map Trm.enc++[x])[((m:Int)-1).toNat]? =some x:=λx=>by rw[hm];simp
 have hs9: ∀y x:B7,((ts.map Trm.enc++[y]).set ((m:Int)-1).toNat x)[((m:Int)-1).toNat]? =some x:=λy x=>by rw[hm];simp
 have hset: ∀y x:B7,(ts.map Trm.enc++[y]).set ((m:Int)-1).toNat x=ts.map Trm.enc++[x]:=λy x=>by rw[hm];simp
 have htl:(aw ca).2.length<2^30:=B4 (bc ca).2 (by decide)
 unfold ca at*;generalize aw _=ct at*;obtain ⟨w,t⟩:=ct;dsimp only at*;refine gvB (F:=lc) ?_
 (conv=>whnf)
 refine kP pzD [] gq trivial hL ?_
 repeat' ((conv=>whnf);first|refine aG (by decide) ?_|refine bj ?_|refine xr (hx _) ?_|refine xr (hx9 _) ?_|refine xr (hs9 _ _) ?_|refine aq ?_|apply ae<;>intro h)
 (conv=>whnf)
 rw[hset]
 (first|refine da pzD [] iw ?_|refine db pzD [] iw ?_)
 rfl
end
section
variable (e1 e2 e3 e4:B6)(p1:ab e1=true)(p2:ab e2=true)(p3:ab e3=true)(p4:ab e4=true)(k1 k2 k3 k4:CF)(so:Int)(trm:Bool)(nm:B5)(df:Int)(n:Nat)(hn:n=e4.length+1)(l4:e4.length<2^30)(ts:C4)(lt:ts.length<2^30)(tn:B5)(ms:C9)(lm:ms.length<2^30)(acs:C8)(la:acs.length<2^30)(m:Nat)(hm:m=ts.length+1)(s:B5)(hs:s.length<2^30)(d1:s≠cW)(d2:s≠cU)(d3:s≠ca)
include p1 p2 p3 p4 hn l4 lt lm la hm hs d1 d2 d3
theorem abQ (hw:(aw s).1≠cI)(hw2:(aw s).1≠fY):ag G 542 [.ref 0 0 0,.str s] (bP e1.length e2.length e3.length n so true trm e1 e2 e3 (e4++[[AV.str nm,AV.vs 9 0 m,AV.int .i64 df]]) k1 k2 k3 k4 [.vec 4 (ts.map Trm.enc++[[AV.str tn,AV.vs 10 0 ms.length,AV.vs 11 0 acs.length,AV.int .i64 0]]),.vec 6 (ms.map Mat.enc),.vec 5 (acs.map Actn.enc)]) ⟨pnV (.ifc 138 (.agg [.int .i64 2])),rP e1.length e2.length e3.length n so true trm (.vec 2 e1) (.vec 2 e2) (.vec 2 e3) (.nest 3 e4 [[AV.str nm,AV.vs 9 0 m,AV.int .i64 df]]) k1 k2 k3 k4 [(true,.nest 4 (ts.map Trm.enc) [[AV.str tn,AV.vs 10 0 ms.length,AV.vs 11 0 acs.length,AV.int .i64 0]]),(true,.vec 6 (ms.map Mat.enc)),(true,.vec 5 (acs.map Actn.enc))]⟩:=by
 unfold bP rP;have h0:=aE s (by omega)
 have hL:=ci e1 e2 e3 e4 p1 p2 p3 p4 k1 k2 k3 k4 so trm nm df n hn l4 ts lt tn ms lm acs la 0 m hm;have hx: ∀x:B7,(e4++[x])[((n:Int)-1).toNat]? =some x:=λx=>by rw[hn];simp
 have hx9: ∀x:B7,(ts.map Trm.enc++[x])[((m:Int)-1).toNat]? =some x:=λx=>by rw[hm];simp
 have hs9: ∀y x:B7,((ts.map Trm.enc++[y]).set ((m:Int)-1).toNat x)[((m:Int)-1).toNat]? =some x:=λy x=>by rw[hm];simp
 have hset: ∀y x:B7,(ts.map Trm.enc++[y]).set ((m:Int)-1).toNat x=ts.map Trm.enc++[x]:=λy x=>by rw[hm];simp
 have htl:(aw s).2.length<2^30:=B4 (bc s).2 hs;unfold cW at d1;unfold cU at d2;unfold ca at d3;generalize aw s=ct at*;obtain ⟨w,t⟩:=ct;dsimp only at*;unfold cI at hw;unfold fY at hw2;have h2:=λ(_:True)=>aU false
 refine gvB (F:=lc) ?_
 (conv=>whnf)
 refine kP pzD [] gq trivial hL ?_
 repeat' ((conv=>whnf);first|refine aG d1 ?_|refine aG d2 ?_|refine aG d3 ?_|refine aG hw ?_|refine aG hw2 ?_|refine xr (hx _) ?_|refine xr (hx9 _) ?_|refine xr (hs9 _ _) ?_|refine aq ?_|apply ae<;>intro h)
 (conv=>whnf)
 refine CallG.stop ?_;refine aH 586 (h2 trivial) (λQ hr hg=>?_)
 refine kV hg ?_;refine bt pzD [] iw ?_;rfl
section
variable (hw:(aw s).1=cI)
include hw
theorem abP (ha:acs≠ []):ag G 542 [.ref 0 0 0,.str s] (bP e1.length e2.length e3.length n so true trm e1 e2 e3 (e4++[[AV.str nm,AV.vs 9 0 m,AV.int .i64 df]]) k1 k2 k3 k4 [.vec 4 (ts.map Trm.enc++[[AV.str tn,AV.vs 10 0 ms.length,AV.vs 11 0 acs.length,AV.int .i64 0]]),.vec 6 (ms.map Mat.enc),.vec 5 (acs.map Actn.enc)]) ⟨pnV (.ifc 138 (.agg [.int .i64 2])),rP e1.length e2.length e3.length n so true trm (.vec 2 e1) (.vec 2 e2) (.vec 2 e3) (.nest 3 e4 [[AV.str nm,AV.vs 9 0 m,AV.int .i64 df]]) k1 k2 k3 k4 [(true,.nest 4 (ts.map Trm.enc) [[AV.str tn,AV.vs 10 0 ms.length,AV.vs 11 0 acs.length,AV.int .i64 0]]),(true,.vec 6 (ms.map Mat.enc)),(true,.vec 5 (acs.map Actn.enc))]⟩:=by
 unfold bP rP;have h0:=aE s (by omega)
 have hL:=ci e1 e2 e3 e4 p1 p2 p3 p4 k1 k2 k3 k4 so trm nm df n hn l4 ts lt tn ms lm acs la 0 m hm;have hx: ∀x:B7,(e4++[x])[((n:Int)-1).toNat]? =some x:=λx=>by rw[hn];simp
 have hx9: ∀x:B7,(ts.map Trm.enc++[x])[((m:Int)-1).toNat]? =some x:=λx=>by rw[hm];simp
 have hs9: ∀y x:B7,((ts.map Trm.enc++[y]).set ((m:Int)-1).toNat x)[((m:Int)-1).toNat]? =some x:=λy x=>by rw[hm];simp
 have hset: ∀y x:B7,(ts.map Trm.enc++[y]).set ((m:Int)-1).toNat x=ts.map Trm.enc++[x]:=λy x=>by rw[hm];simp
 have htl:(aw s).2.length<2^30:=B4 (bc s).2 hs;unfold cW at d1;unfold cU at d2;unfold ca at d3;generalize aw s=ct at*;obtain ⟨w,t⟩:=ct;dsimp only at*;unfold cI at hw;subst hw
 have hz: ¬(acs.length:Int)=0:=by
  have:=List.length_pos_iff.2 ha;omega
 have h2:=λ(_:True)=>aU false
 refine gvB (F:=lc) ?_
 (conv=>whnf)
 refine kP pzD [] gq trivial hL ?_
 repeat' ((conv=>whnf);first|refine aG d1 ?_|refine aG d2 ?_|refine aG d3 ?_|refine fu hz ?_|refine bj ?_|refine xr (hx _) ?_|refine xr (hx9 _) ?_|refine xr (hs9 _ _) ?_|refine aq ?_|apply ae<;>intro h)
 (conv=>whnf)
 refine CallG.stop ?_;refine aH 586 (h2 trivial) (λQ hr hg=>?_)
 refine kV hg ?_;refine bt pzD [] iw ?_;rfl
theorem abO (ha:acs.length=0)(hm2:lX (aw s).2=none):ag G 542 [.ref 0 0 0,.str s] (bP e1.length e2.length e3.length n so true trm e1 e2 e3 (e4++[[AV.str nm,AV.vs 9 0 m,AV.int .i64 df]]) k1 k2 k3 k4 [.vec 4 (ts.map Trm.enc++[[AV.str tn,AV.vs 10 0 ms.length,AV.vs 11 0 acs.length,AV.int .i64 0]]),.vec 6 (ms.map Mat.enc),.vec 5 (acs.map Actn.enc)]) ⟨pnV (.ifc 138 (.agg [.int .i64 2])),rP e1.length e2.length e3.length n so true trm (.vec 2 e1) (.vec 2 e2) (.vec 2 e3) (.nest 3 e4 [[AV.str nm,AV.vs 9 0 m,AV.int .i64 df]]) k1 k2 k3 k4 [(true,.nest 4 (ts.map Trm.enc) [[AV.str tn,AV.vs 10 0 ms.length,AV.vs 11 0 acs.length,AV.int .i64 0]]),(true,.vec 6 (ms.map Mat.enc)),(true,.vec 5 (acs.map Actn.enc))]⟩:=by
 unfold bP rP;have h0:=aE s (by omega)
 have hL:=ci e1 e2 e3 e4 p1 p2 p3 p4 k1 k2 k3 k4 so trm nm df n hn l4 ts lt tn ms lm acs la 0 m hm;have hx: ∀x:B7,(e4++[x])[((n:Int)-1).toNat]? =some x:=λx=>by rw[hn];simp
 have hx9: ∀x:B7,(ts.map Trm.enc++[x])[((m:Int)-1).toNat]? =some x:=λx=>by rw[hm];simp
 have hs9: ∀y x:B7,((ts.map Trm.enc++[y]).set ((m:Int)-1).toNat x)[((m:Int)-1).toNat]? =some x:=λy x=>by rw[hm];simp
 have hset: ∀y x:B7,(ts.map Trm.enc++[y]).set ((m:Int)-1).toNat x=ts.map Trm.enc++[x]:=λy x=>by rw[hm];simp
 have htl:(aw s).2.length<2^30:=B4 (bc s).2 hs;unfold cW at d1;unfold cU at d2;unfold ca at d3;have hz:(acs.length:Int)=0:=by omega
 generalize aw s=ct at*;obtain ⟨w,t⟩:=ct;dsimp only at*;unfold cI at hw;subst hw;have h2:=aU true;rw[Ac rfl] at h2;have h3:=λ(_:True)=>lW t (by omega)
 rw[hm2] at h3;refine gvB (F:=lc) ?_
 (conv=>whnf)
 refine kP pzD [] gq trivial hL ?_
 repeat' ((conv=>whnf);first|refine aG d1 ?_|refine aG d2 ?_|refine aG d3 ?_|refine en hz ?_|refine bj ?_|refine xr (hx _) ?_|refine xr (hx9 _) ?_|refine xr (hs9 _ _) ?_|refine aq ?_|apply ae<;>intro h)
 (conv=>whnf)
 refine CallG.stop ?_;refine aH 593 (h3 trivial) (λQ hr hg=>?_)
 refine kV hg ?_;refine bt pzD [] iw ?_;rfl
theorem Wm (ha:acs.length=0)(x:Mat)(hm2:lX (aw s).2=some x)(hk:64<=ms.length):ag G 542 [.ref 0 0 0,.str s] (bP e1.length e2.length e3.length n so true trm e1 e2 e3 (e4++[[AV.str nm,AV.vs 9 0 m,AV.int .i64 df]]) k1 k2 k3 k4 [.vec 4 (ts.map Trm.enc++[[AV.str tn,AV.vs 10 0 ms.length,AV.vs 11 0 acs.length,AV.int .i64 0]]),.vec 6 (ms.map Mat.enc),.vec 5 (acs.map Actn.enc)]) ⟨pnV (.ifc 138 (.agg [.int .i64 4])),rP e1.length e2.length e3.length n so true trm (.vec 2 e1) (.vec 2 e2) (.vec 2 e3) (.nest 3 e4 [[AV.str nm,AV.vs 9 0 m,AV.int .i64 df]]) k1 k2 k3 k4 [(true,.nest 4 (ts.map Trm.enc) [[AV.str tn,AV.vs 10 0 ms.length,AV.vs 11 0 acs.length,AV.int .i64 0]]),(true,.vec 6 (ms.map Mat.enc)),(true,.vec 5 (acs.map Actn.enc))]⟩:=by
 unfold bP rP;have h0:=aE s (by omega)
 have hL:=ci e1 e2 e3 e4 p1 p2 p3 p4 k1 k2 k3 k4 so trm nm df n hn l4 ts lt tn ms lm acs la 0 m hm;have hx: ∀x:B7,(e4++[x])[((n:Int)-1).toNat]? =some x:=λx=>by rw[hn];simp
 have hx9: ∀x:B7,(ts.map Trm.enc++[x])[((m:Int)-1).toNat]? =some x:=λx=>by rw[hm];simp
 have hs9: ∀y x:B7,((ts.map Trm.enc++[y]).set ((m:Int)-1).toNat x)[((m:Int)-1).toNat]? =some x:=λy x=>by rw[hm];simp
 have hset: ∀y x:B7,(ts.map Trm.enc++[y]).set ((m:Int)-1).toNat x=ts.map Trm.enc++[x]:=λy x=>by rw[hm];simp
 have htl:(aw s).2.length<2^30:=B4 (bc s).2 hs;unfold cW at d1;unfold cU at d2;unfold ca at d3;have hz:(acs.length:Int)=0:=by omega
 generalize aw s=ct at*;obtain ⟨w,t⟩:=ct;dsimp only at*;unfold cI at hw;subst hw;have h2:=aU true;rw[Ac rfl] at h2;have h3:=lW t (by omega)
 rw[hm2] at h3;unfold mR at h3;dsimp only at h3;unfold Mat.enc at h3
 have h4:True->ag G 587 [.int .i64 (ms.length:Int)] [] (pF 4):=λ_=>by
  have:=b8 (ms.length:Int);rwa [Aa (by omega)] at this
 refine gvB (F:=lc) ?_
 (conv=>whnf)
 refine kP pzD [] gq trivial hL ?_
 repeat' ((conv=>whnf);first|refine aG d1 ?_|refine aG d2 ?_|refine aG d3 ?_|refine en hz ?_|refine bj ?_|refine xr (hx _) ?_|refine xr (hx9 _) ?_|refine xr (hs9 _ _) ?_|refine aq ?_|apply ae<;>intro h)
 (conv=>whnf)
 refine CallG.stop ?_;refine aH 587 (h4 trivial) (λQ hr hg=>?_)
 refine kV hg ?_;refine bt pzD [] iw ?_;rfl
end
section
variable (hw:(aw s).1=cI)(ha:acs.length=0)(hf:Kn.fit ⟨k1,k2,k3,k4⟩)(x:Mat)(hm2:lX (aw s).2=some x)(hxp:x.pfx.ok)(hk:ms.length<64)
include hw ha hf hm2 hxp hk
theorem abN (hc:mtE ⟨k1,k2,k3,k4⟩ x≠0):ag G 542 [.ref 0 0 0,.str s] (bP e1.length e2.length e3.length n so true trm e1 e2 e3 (e4++[[AV.str nm,AV.vs 9 0 m,AV.int .i64 df]]) k1 k2 k3 k4 [.vec 4 (ts.map Trm.enc++[[AV.str tn,AV.vs 10 0 ms.length,AV.vs 11 0 acs.length,AV.int .i64 0]]),.vec 6 (ms.map Mat.enc),.vec 5 (acs.map Actn.enc)]) ⟨pnV (.ifc 138 (.agg [.int .i64 (mtE ⟨k1,k2,k3,k4⟩ x)])),rP e1.length e2.length e3.length n so true trm (.vec 2 e1) (.vec 2 e2) (.vec 2 e3) (.nest 3 e4 [[AV.str nm,AV.vs 9 0 m,AV.int .i64 df]]) k1 k2 k3 k4 [(true,.nest 4 (ts.map Trm.enc) [[AV.str tn,AV.vs 10 0 ms.length,AV.vs 11 0 acs.length,AV.int .i64 0]]),(true,.vec 6 (ms.map Mat.enc)),(true,.vec 5 (acs.map Actn.enc))]⟩:=by
 unfold bP rP;have h0:=aE s (by omega)
 have hL:=ci e1 e2 e3 e4 p1 p2 p3 p4 k1 k2 k3 k4 so trm nm df n hn l4 ts lt tn ms lm acs la 0 m hm;have hx: ∀x:B7,(e4++[x])[((n:Int)-1).toNat]? =some x:=λx=>by rw[hn];simp
 have hx9: ∀x:B7,(ts.map Trm.enc++[x])[((m:Int)-1).toNat]? =some x:=λx=>by rw[hm];simp
 have hs9: ∀y x:B7,((ts.map Trm.enc++[y]).set ((m:Int)-1).toNat x)[((m:Int)-1).toNat]? =some x:=λy x=>by rw[hm];simp
 have hset: ∀y x:B7,(ts.map Trm.enc++[y]).set ((m:Int)-1).toNat x=ts.map Trm.enc++[x]:=λy x=>by rw[hm];simp
 have htl:(aw s).2.length<2^30:=B4 (bc s).2 hs;unfold cW at d1;unfold cU at d2;unfold ca at d3;have hz:(acs.length:Int)=0:=by omega
 generalize aw s=ct at*;obtain ⟨w,t⟩:=ct;dsimp only at*;unfold cI at hw;subst hw;have h2:=aU true;rw[Ac rfl] at h2;have h3:=lW t (by omega)
 rw[hm2] at h3;unfold mR at h3;dsimp only at h3
 have h4:ag G 587 [.int .i64 (ms.length:Int)] [] ⟨.tup [],[]⟩:=by
  have:=b8 (ms.length:Int);rwa [Ac (by omega)] at this
 have h5:=qL ⟨k1,k2,k3,k4⟩ hf x hxp;unfold Kn.enc at h5;have y1:k1.length=(k1.map ah).length:=by simp
 have y2:k2.length=(k2.map ah).length:=by simp
 have y3:k3.length=(k3.map ah).length:=by simp
 have y4:k4.length=(k4.map ah).length:=by simp
 generalize mtE _ _=er at*;unfold Mat.enc at h3 h5;have h6:=λ(_:True)=>bC er
 rw[Aa hc] at h6;refine gvB (F:=lc) ?_
 (conv=>whnf)
 refine kP pzD [] gq trivial hL ?_
 repeat' ((conv=>whnf);first|refine aG d1 ?_|refine aG d2 ?_|refine aG d3 ?_|refine en hz ?_|refine bj ?_|refine xr (hx _) ?_|refine xr (hx9 _) ?_|refine xr (hs9 _ _) ?_|refine aq ?_|refine kZ [(5,_,_),(6,_,_),(7,_,_),(8,_,_)] ⟨rfl,pz ⟨rfl,pz ⟨rfl,pz ⟨rfl,pz trivial⟩⟩⟩⟩ (h5) ?_|apply ae<;>intro h)
 (conv=>whnf)
 refine CallG.stop ?_;refine wn 590 (h6 trivial) (λQ hr hg=>?_)
 refine kV hg ?_;refine bt pzD [] iw ?_;rfl
theorem adW (hc:mtE ⟨k1,k2,k3,k4⟩ x=0):ag G 542 [.ref 0 0 0,.str s] (bP e1.length e2.length e3.length n so true trm e1 e2 e3 (e4++[[AV.str nm,AV.vs 9 0 m,AV.int .i64 df]]) k1 k2 k3 k4 [.vec 4 (ts.map Trm.enc++[[AV.str tn,AV.vs 10 0 ms.length,AV.vs 11 0 acs.length,AV.int .i64 0]]),.vec 6 (ms.map Mat.enc),.vec 5 (acs.map Actn.enc)]) ⟨.tup [],rP e1.length e2.length e3.length n so true true (.vec 2 e1) (.vec 2 e2) (.vec 2 e3) (.nest 3 e4 [[AV.str nm,AV.vs 9 0 m,AV.int .i64 df]]) k1 k2 k3 k4 [(true,.nest 4 (ts.map Trm.enc) [[AV.str tn,AV.vs 10 0 (ms.length+1),AV.vs 11 0 acs.length,AV.int .i64 0]]),(false,.vec 6 (ms.map Mat.enc++[x.enc])),(true,.vec 5 (acs.map Actn.enc))]⟩:=by
 unfold bP rP;have h0:=aE s (by omega)
 have hL:=ci e1 e2 e3 e4 p1 p2 p3 p4 k1 k2 k3 k4 so trm nm df n hn l4 ts lt tn ms lm acs la 0 m hm;have hx: ∀x:B7,(e4++[x])[((n:Int)-1).toNat]? =some x:=λx=>by rw[hn];simp
 have hx9: ∀x:B7,(ts.map Trm.enc++[x])[((m:Int)-1).toNat]? =some x:=λx=>by rw[hm];simp
 have hs9: ∀y x:B7,((ts.map Trm.enc++[y]).set ((m:Int)-1).toNat x)[((m:Int)-1).toNat]? =some x:=λy x=>by rw[hm];simp
 have hset: ∀y x:B7,(ts.map Trm.enc++[y]).set ((m:Int)-1).toNat x=ts.map Trm.enc++[x]:=λy x=>by rw[hm];simp
 have htl:(aw s).2.length<2^30:=B4 (bc s).2 hs;unfold cW at d1;unfold cU at d2;unfold ca at d3;have hz:(acs.length:Int)=0:=by omega
 generalize aw s=ct at*;obtain ⟨w,t⟩:=ct;dsimp only at*;unfold cI at hw;subst hw;have h2:=aU true;rw[Ac rfl] at h2;have h3:=lW t (by omega)
 rw[hm2] at h3;unfold mR at h3;dsimp only at h3
 have h4:ag G 587 [.int .i64 (ms.length:Int)] [] ⟨.tup [],[]⟩:=by
  have:=b8 (ms.length:Int);rwa [Ac (by omega)] at this
 have h5:=qL ⟨k1,k2,k3,k4⟩ hf x hxp;unfold Kn.enc at h5;have y1:k1.length=(k1.map ah).length:=by simp
 have y2:k2.length=(k2.map ah).length:=by simp
 have y3:k3.length=(k3.map ah).length:=by simp
 have y4:k4.length=(k4.map ah).length:=by simp
 rw[hc] at h5;have ex:x.enc= [.int .i64 x.kind,.str x.name,.int .i64 x.n,.int .u32 x.pfx.addr,.int .i64 x.pfx.len,.bool x.neg]:=rfl;rw[ex] at h3 h5⊢;have h6:=bC 0;rw[Ac rfl] at h6;refine gvB (F:=lc) ?_
 (conv=>whnf)
 refine kP pzD [] gq trivial hL ?_
 repeat' ((conv=>whnf);first|refine aG d1 ?_|refine aG d2 ?_|refine aG d3 ?_|refine en hz ?_|refine bj ?_|refine xr (hx _) ?_|refine xr (hx9 _) ?_|refine xr (hs9 _ _) ?_|refine aq ?_|refine kZ [(5,_,_),(6,_,_),(7,_,_),(8,_,_)] ⟨rfl,pz ⟨rfl,pz ⟨rfl,pz ⟨rfl,pz trivial⟩⟩⟩⟩ (h5) ?_|apply ae<;>intro h)
 (conv=>whnf)
 rw[hset]
 (first|refine da pzD [] [true,true,true,true,true,true,true,true,true,true,false,true] ?_|refine db pzD [] [true,true,true,true,true,true,true,true,true,true,false,true] ?_)
 rfl
end
theorem abS (hw:(aw s).1=fY)(hm2:oc (aw s).2=none):ag G 542 [.ref 0 0 0,.str s] (bP e1.length e2.length e3.length n so true trm e1 e2 e3 (e4++[[AV.str nm,AV.vs 9 0 m,AV.int .i64 df]]) k1 k2 k3 k4 [.vec 4 (ts.map Trm.enc++[[AV.str tn,AV.vs 10 0 ms.length,AV.vs 11 0 acs.length,AV.int .i64 0]]),.vec 6 (ms.map Mat.enc),.vec 5 (acs.map Actn.enc)]) ⟨pnV (.ifc 138 (.agg [.int .i64 2])),rP e1.length e2.length e3.length n so true trm (.vec 2 e1) (.vec 2 e2) (.vec 2 e3) (.nest 3 e4 [[AV.str nm,AV.vs 9 0 m,AV.int .i64 df]]) k1 k2 k3 k4 [(true,.nest 4 (ts.map Trm.enc) [[AV.str tn,AV.vs 10 0 ms.length,AV.vs 11 0 acs.length,AV.int .i64 0]]),(true,.vec 6 (ms.map Mat.enc)),(true,.vec 5 (acs.map Actn.enc))]⟩:=by
 unfold bP rP;have h0:=aE s (by omega)
 have hL:=ci e1 e2 e3 e4 p1 p2 p3 p4 k1 k2 k3 k4 so trm nm df n hn l4 ts lt tn ms lm acs la 0 m hm;have hx: ∀x:B7,(e4++[x])[((n:Int)-1).toNat]? =some x:=λx=>by rw[hn];simp
 have hx9: ∀x:B7,(ts.map Trm.enc++[x])[((m:Int)-1).toNat]? =some x:=λx=>by rw[hm];simp
 have hs9: ∀y x:B7,((ts.map Trm.enc++[y]).set ((m:Int)-1).toNat x)[((m:Int)-1).toNat]? =some x:=λy x=>by rw[hm];simp
 have hset: ∀y x:B7,(ts.map Trm.enc++[y]).set ((m:Int)-1).toNat x=ts.map Trm.enc++[x]:=λy x=>by rw[hm];simp
 have htl:(aw s).2.length<2^30:=B4 (bc s).2 hs;unfold cW at d1;unfold cU at d2;unfold ca at d3;generalize aw s=ct at*;obtain ⟨w,t⟩:=ct;dsimp only at*;unfold fY at hw;subst hw;have h2:=aU true;rw[Ac rfl] at h2;have h3:=λ(_:True)=>mi t htl
 rw[hm2] at h3;refine gvB (F:=lc) ?_
 (conv=>whnf)
 refine kP pzD [] gq trivial hL ?_
 repeat' ((conv=>whnf);first|refine aG d1 ?_|refine aG d2 ?_|refine aG d3 ?_|refine aG (by decide) ?_|refine bj ?_|refine xr (hx _) ?_|refine xr (hx9 _) ?_|refine xr (hs9 _ _) ?_|refine aq ?_|apply ae<;>intro h)
 (conv=>whnf)
 refine CallG.stop ?_;refine aH 595 (h3 trivial) (λQ hr hg=>?_)
 refine kV hg ?_;refine bt pzD [] iw ?_;rfl
section
variable (hw:(aw s).1=fY)(x:Actn)(hm2:oc (aw s).2=some x)
include hw hm2
theorem Wn (hk:64<=acs.length):ag G 542 [.ref 0 0 0,.str s] (bP e1.length e2.length e3.length n so true trm e1 e2 e3 (e4++[[AV.str nm,AV.vs 9 0 m,AV.int .i64 df]]) k1 k2 k3 k4 [.vec 4 (ts.map Trm.enc++[[AV.str tn,AV.vs 10 0 ms.length,AV.vs 11 0 acs.length,AV.int .i64 0]]),.vec 6 (ms.map Mat.enc),.vec 5 (acs.map Actn.enc)]) ⟨pnV (.ifc 138 (.agg [.int .i64 4])),rP e1.length e2.length e3.length n so true trm (.vec 2 e1) (.vec 2 e2) (.vec 2 e3) (.nest 3 e4 [[AV.str nm,AV.vs 9 0 m,AV.int .i64 df]]) k1 k2 k3 k4 [(true,.nest 4 (ts.map Trm.enc) [[AV.str tn,AV.vs 10 0 ms.length,AV.vs 11 0 acs.length,AV.int .i64 0]]),(true,.vec 6 (ms.map Mat.enc)),(true,.vec 5 (acs.map Actn.enc))]⟩:=by
 unfold bP rP;have h0:=aE s (by omega)
 have hL:=ci e1 e2 e3 e4 p1 p2 p3 p4 k1 k2 k3 k4 so trm nm df n hn l4 ts lt tn ms lm acs la 0 m hm;have hx: ∀x:B7,(e4++[x])[((n:Int)-1).toNat]? =some x:=λx=>by rw[hn];simp
 have hx9: ∀x:B7,(ts.map Trm.enc++[x])[((m:Int)-1).toNat]? =some x:=λx=>by rw[hm];simp
 have hs9: ∀y x:B7,((ts.map Trm.enc++[y]).set ((m:Int)-1).toNat x)[((m:Int)-1).toNat]? =some x:=λy x=>by rw[hm];simp
 have hset: ∀y x:B7,(ts.map Trm.enc++[y]).set ((m:Int)-1).toNat x=ts.map Trm.enc++[x]:=λy x=>by rw[hm];simp
 have htl:(aw s).2.length<2^30:=B4 (bc s).2 hs;unfold cW at d1;unfold cU at d2;unfold ca at d3;generalize aw s=ct at*;obtain ⟨w,t⟩:=ct;dsimp only at*;unfold fY at hw;subst hw;have h2:=aU true;rw[Ac rfl] at h2;have h3:=mi t htl;rw[hm2] at h3;unfold od at h3;dsimp only at h3;have ex:x.enc= [.int .i64 x.kind,.int .i64 x.n,.int .i64 x.asn,.int .u32 x.com,.int .u32 x.addr]:=rfl;rw[ex] at h3
 have h4:True->ag G 587 [.int .i64 (acs.length:Int)] [] (pF 4):=λ_=>by
  have:=b8 (acs.length:Int);rwa [Aa (by omega)] at this
 refine gvB (F:=lc) ?_
 (conv=>whnf)
 refine kP pzD [] gq trivial hL ?_
 repeat' ((conv=>whnf);first|refine aG d1 ?_|refine aG d2 ?_|refine aG d3 ?_|refine aG (by decide) ?_|refine bj ?_|refine xr (hx _) ?_|refine xr (hx9 _) ?_|refine xr (hs9 _ _) ?_|refine aq ?_|apply ae<;>intro h)
 (conv=>whnf)
 refine CallG.stop ?_;refine aH 587 (h4 trivial) (λQ hr hg=>?_)
 refine kV hg ?_;refine bt pzD [] iw ?_;rfl
theorem abR (hk:acs.length<64)(hc:gx x≠0):ag G 542 [.ref 0 0 0,.str s] (bP e1.length e2.length e3.length n so true trm e1 e2 e3 (e4++[[AV.str nm,AV.vs 9 0 m,AV.int .i64 df]]) k1 k2 k3 k4 [.vec 4 (ts.map Trm.enc++[[AV.str tn,AV.vs 10 0 ms.length,AV.vs 11 0 acs.length,AV.int .i64 0]]),.vec 6 (ms.map Mat.enc),.vec 5 (acs.map Actn.enc)]) ⟨pnV (.ifc 138 (.agg [.int .i64 (gx x)])),rP e1.length e2.length e3.length n so true trm (.vec 2 e1) (.vec 2 e2) (.vec 2 e3) (.nest 3 e4 [[AV.str nm,AV.vs 9 0 m,AV.int .i64 df]]) k1 k2 k3 k4 [(true,.nest 4 (ts.map Trm.enc) [[AV.str tn,AV.vs 10 0 ms.length,AV.vs 11 0 acs.length,AV.int .i64 0]]),(true,.vec 6 (ms.map Mat.enc)),(true,.vec 5 (acs.map Actn.enc))]⟩:=by
 unfold bP rP;have h0:=aE s (by omega)
 have hL:=ci e1 e2 e3 e4 p1 p2 p3 p4 k1 k2 k3 k4 so trm nm df n hn l4 ts lt tn ms lm acs la 0 m hm;have hx: ∀x:B7,(e4++[x])[((n:Int)-1).toNat]? =some x:=λx=>by rw[hn];simp
 have hx9: ∀x:B7,(ts.map Trm.enc++[x])[((m:Int)-1).toNat]? =some x:=λx=>by rw[hm];simp
 have hs9: ∀y x:B7,((ts.map Trm.enc++[y]).set ((m:Int)-1).toNat x)[((m:Int)-1).toNat]? =some x:=λy x=>by rw[hm];simp
 have hset: ∀y x:B7,(ts.map Trm.enc++[y]).set ((m:Int)-1).toNat x=ts.map Trm.enc++[x]:=λy x=>by rw[hm];simp
 have htl:(aw s).2.length<2^30:=B4 (bc s).2 hs;unfold cW at d1;unfold cU at d2;unfold ca at d3;generalize aw s=ct at*;obtain ⟨w,t⟩:=ct;dsimp only at*;unfold fY at hw;subst hw;have h2:=aU true;rw[Ac rfl] at h2;have h3:=mi t htl;rw[hm2] at h3;unfold od at h3;dsimp only at h3;have ex:x.enc= [.int .i64 x.kind,.int .i64 x.n,.int .i64 x.asn,.int .u32 x.com,.int .u32 x.addr]:=rfl;rw[ex] at h3
 have h4:ag G 587 [.int .i64 (acs.length:Int)] [] ⟨.tup [],[]⟩:=by
  have:=b8 (acs.length:Int);rwa [Ac (by omega)] at this
 have h5:=qY x;rw[ex] at h5;generalize gx _=er at*;have h6:=λ(_:True)=>bC er
 rw[Aa hc] at h6;refine gvB (F:=lc) ?_
 (conv=>whnf)
 refine kP pzD [] gq trivial hL ?_
 repeat' ((conv=>whnf);first|refine aG d1 ?_|refine aG d2 ?_|refine aG d3 ?_|refine aG (by decide) ?_|refine bj ?_|refine xr (hx _) ?_|refine xr (hx9 _) ?_|refine xr (hs9 _ _) ?_|refine aq ?_|apply ae<;>intro h)
 (conv=>whnf)
 refine CallG.stop ?_;refine aH 590 (h6 trivial) (λQ hr hg=>?_)
 refine kV hg ?_;refine bt pzD [] iw ?_;rfl
theorem adX (hk:acs.length<64)(hc:gx x=0):ag G 542 [.ref 0 0 0,.str s] (bP e1.length e2.length e3.length n so true trm e1 e2 e3 (e4++[[AV.str nm,AV.vs 9 0 m,AV.int .i64 df]]) k1 k2 k3 k4 [.vec 4 (ts.map Trm.enc++[[AV.str tn,AV.vs 10 0 ms.length,AV.vs 11 0 acs.length,AV.int .i64 0]]),.vec 6 (ms.map Mat.enc),.vec 5 (acs.map Actn.enc)]) ⟨.tup [],rP e1.length e2.length e3.length n so true true (.vec 2 e1) (.vec 2 e2) (.vec 2 e3) (.nest 3 e4 [[AV.str nm,AV.vs 9 0 m,AV.int .i64 df]]) k1 k2 k3 k4 [(true,.nest 4 (ts.map Trm.enc) [[AV.str tn,AV.vs 10 0 ms.length,AV.vs 11 0 (acs.length+1),AV.int .i64 0]]),(true,.vec 6 (ms.map Mat.enc)),(false,.vec 5 (acs.map Actn.enc++[x.enc]))]⟩:=by
 unfold bP rP;have h0:=aE s (by omega)
 have hL:=ci e1 e2 e3 e4 p1 p2 p3 p4 k1 k2 k3 k4 so trm nm df n hn l4 ts lt tn ms lm acs la 0 m hm;have hx: ∀x:B7,(e4++[x])[((n:Int)-1).toNat]? =some x:=λx=>by rw[hn];simp
 have hx9: ∀x:B7,(ts.map Trm.enc++[x])[((m:Int)-1).toNat]? =some x:=λx=>by rw[hm];simp
 have hs9: ∀y x:B7,((ts.map Trm.enc++[y]).set ((m:Int)-1).toNat x)[((m:Int)-1).toNat]? =some x:=λy x=>by rw[hm];simp
 have hset: ∀y x:B7,(ts.map Trm.enc++[y]).set ((m:Int)-1).toNat x=ts.map Trm.enc++[x]:=λy x=>by rw[hm];simp
 have htl:(aw s).2.length<2^30:=B4 (bc s).2 hs;unfold cW at d1;unfold cU at d2;unfold ca at d3;generalize aw s=ct at*;obtain ⟨w,t⟩:=ct;dsimp only at*;unfold fY at hw;subst hw;have h2:=aU true;rw[Ac rfl] at h2;have h3:=mi t htl;rw[hm2] at h3;unfold od at h3;dsimp only at h3;have ex:x.enc= [.int .i64 x.kind,.int .i64 x.n,.int .i64 x.asn,.int .u32 x.com,.int .u32 x.addr]:=rfl;rw[ex] at h3
 have h4:ag G 587 [.int .i64 (acs.length:Int)] [] ⟨.tup [],[]⟩:=by
  have:=b8 (acs.length:Int);rwa [Ac (by omega)] at this
 have h5:=qY x;rw[ex] at h5;rw[ex];rw[hc] at h5;have h6:=bC 0;rw[Ac rfl] at h6;refine gvB (F:=lc) ?_
 (conv=>whnf)
 refine kP pzD [] gq trivial hL ?_
 repeat' ((conv=>whnf);first|refine aG d1 ?_|refine aG d2 ?_|refine aG d3 ?_|refine aG (by decide) ?_|refine bj ?_|refine xr (hx _) ?_|refine xr (hx9 _) ?_|refine xr (hs9 _ _) ?_|refine aq ?_|apply ae<;>intro h)
 (conv=>whnf)
 rw[hset]
 (first|refine da pzD [] [true,true,true,true,true,true,true,true,true,true,true,false] ?_|refine db pzD [] [true,true,true,true,true,true,true,true,true,true,true,false] ?_)
 rfl
end
end
end Go.AM.IR
