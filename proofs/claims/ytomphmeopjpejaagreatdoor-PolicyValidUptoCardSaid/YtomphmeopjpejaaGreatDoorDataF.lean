/- What the functions of this program give, on the abstract machine. -/
import Derived.Test.YtomphmeopjpejaaGreatDoorDataE
set_option linter.unusedVariables false
set_option linter.unusedSimpArgs false
set_option maxHeartbeats 4000000
set_option maxRecDepth 20000
namespace Go.AM.IR
abbrev pzA {g0 g1 g2 g3 g4 g5 g6 g7 g8 s1 s2 s3 s4 s5 s6 s7 s8:Nat}{x:List AV}{e1 e2 e3 e4 e5 e6 e7 e8:List (List AV)}:Pzs:=[(0,g0,.cells x),(1,g1,.vec s1 e1),(2,g2,.vec s2 e2),(3,g3,.vec s3 e3),(4,g4,.vec s4 e4),(5,g5,.vec s5 e5),(6,g6,.vec s6 e6),(7,g7,.vec s7 e7),(8,g8,.vec s8 e8)]
abbrev pzD {g0 g1 g2 g3 g4 g5 g6 g7 g8 g9 g10 g11 s1 s2 s3 s4 s5 s6 s7 s8 s9 s10 s11:Nat}{x:List AV}{e1 e2 e3 e4 r4 e5 e6 e7 e8 e9 r9 e10 e11:List (List AV)}:Pzs:=[(0,g0,.cells x),(1,g1,.vec s1 e1),(2,g2,.vec s2 e2),(3,g3,.vec s3 e3),(4,g4,.nest s4 e4 r4),(5,g5,.vec s5 e5),(6,g6,.vec s6 e6),(7,g7,.vec s7 e7),(8,g8,.vec s8 e8),(9,g9,.nest s9 e9 r9),(10,g10,.vec s10 e10),(11,g11,.vec s11 e11)]
abbrev pzC {g0 g1 g2 g3 g4 g5 g6 g7 g8 g9 s1 s2 s3 s4 s5 s6 s7 s8 s9:Nat}{x:List AV}{e1 e2 e3 e4 r4 e5 e6 e7 e8 e9:List (List AV)}:Pzs:=[(0,g0,.cells x),(1,g1,.vec s1 e1),(2,g2,.vec s2 e2),(3,g3,.vec s3 e3),(4,g4,.nest s4 e4 r4),(5,g5,.vec s5 e5),(6,g6,.vec s6 e6),(7,g7,.vec s7 e7),(8,g8,.vec s8 e8),(9,g9,.vec s9 e9)]
abbrev jb {g0 g1 g2 g3 g4 g5 g6 g7 g8 g9 s1 s2 s3 s4 s5 s6 s7 s8 s9:Nat}{x:List AV}{e1 e2 e3 r3 e4 e5 e6 e7 e8 e9:List (List AV)}:Pzs:=[(0,g0,.cells x),(1,g1,.vec s1 e1),(2,g2,.vec s2 e2),(3,g3,.nest s3 e3 r3),(4,g4,.vec s4 e4),(5,g5,.vec s5 e5),(6,g6,.vec s6 e6),(7,g7,.vec s7 e7),(8,g8,.vec s8 e8),(9,g9,.vec s9 e9)]
abbrev jx {g0 g1 g2 g3 g4 g5 g6 g7 g8 g9 s1 s2 s3 s4 s5 s6 s7 s8 s9:Nat}{x:List AV}{e1 e2 r2 e3 e4 e5 e6 e7 e8 e9:List (List AV)}:Pzs:=[(0,g0,.cells x),(1,g1,.vec s1 e1),(2,g2,.nest s2 e2 r2),(3,g3,.vec s3 e3),(4,g4,.vec s4 e4),(5,g5,.vec s5 e5),(6,g6,.vec s6 e6),(7,g7,.vec s7 e7),(8,g8,.vec s8 e8),(9,g9,.vec s9 e9)]
abbrev kj {g0 g1 g2 g3 g4 g5 g6 g7 g8 g9 s1 s2 s3 s4 s5 s6 s7 s8 s9:Nat}{x:List AV}{e1 r1 e2 e3 e4 e5 e6 e7 e8 e9:List (List AV)}:Pzs:=[(0,g0,.cells x),(1,g1,.nest s1 e1 r1),(2,g2,.vec s2 e2),(3,g3,.vec s3 e3),(4,g4,.vec s4 e4),(5,g5,.vec s5 e5),(6,g6,.vec s6 e6),(7,g7,.vec s7 e7),(8,g8,.vec s8 e8),(9,g9,.vec s9 e9)]
def pF (e:Int):Ret:=⟨pnV (.ifc 138 (.agg [.int .i64 e])),[]⟩
theorem aM (b:Bool):ab G 586 [.bool b] [] (if b then ⟨.tup [],[]⟩ else pF 2):=by
 cases b
 ·refine gvB (F:=Lu) ?_
  refine ji ?_;rfl
 ·exact gvA (F:=Lu)
theorem bp (e:Int):ab G 590 [.int .i64 e] [] (if e=0 then ⟨.tup [],[]⟩ else pF e):=by
 by_cases h:e=0
 ·rw[Ad h]
  exact gvA (F:=Lq)
 ·rw[Ac h]
  refine gvB (F:=Lq) ?_;refine ji ?_;rfl
theorem bR (n:Int):ab G 587 [.int .i64 n] [] (if n<64 then ⟨.tup [],[]⟩ else pF 4):=by
 by_cases h:n<64
 ·rw[Ad h]
  exact gvA (F:=Lr)
 ·rw[Ac h]
  have h4:=λ(_:True)=>bp 4
  refine gvB (F:=Lr) ?_
  (conv=>whnf)
  refine CallG.stop ?_;refine aG 590 (h4 trivial) (λQ hr hg=>?_)
  refine kV hg ?_;rfl
def ag:List UInt8->List UInt8×List UInt8
 | []=>([],[])
 |c::r=>if c=32 then ([],r) else (c::(ag r).1,(ag r).2)
theorem Fp {d:List UInt8}(h: ∀c∈d,c≠32)(r:List UInt8):ag (d++r)=(d++(ag r).1,(ag r).2):=by
 induction d with
 |nil=>rfl
 |cons c d ih=>
  have hc:c≠32:=h c (by simp)
  simp only[B4,ag,Ac hc,ih λx hx=>h x (by simp[hx])]
theorem sV (s:List UInt8)(hs:s.length<2^40): ∀(rest done:List UInt8)(T:TV)(H:ap)(c:Nat)(n:Int)(e:s=done++rest)(hn:n=done.length)(hd: ∀c∈done,c≠32),
  Ev G ⟨TU,⟨(0,.str s)::(6,.int .i64 (s.length:Int))::(7,.int .i64 n)::T,H,c⟩,[.t 2,.t 3],0⟩ ⟨.tup [.str (ag s).1,.str (ag s).2],[]⟩
 | [],done,T,H,c,n,e,hn,hd=>by
  have hsl:=md0 e;have h1:ag s=(s,[]):=by rw[e,Fp hd];simp[ag]
  rw[h1];refine evA ?_;refine ax ?_;rfl
 |x::rest,done,T,H,c,n,e,hn,hd=>by
  have hsl:=md e;have hb:s[n.toNat]? =some x:=by rw[e,hn];simp
  have hx:=x.toNat_lt
  by_cases h:x=32
  ·subst h
   have h1:ag s=(done,rest):=by rw[e,Fp hd];simp[ag]
   have t1:List.take (n.toNat-0) (List.drop 0 s)=done:=by rw[e,hn];simp
   have t2:List.take (s.length- (n+1).toNat) (List.drop (n+1).toNat s)=rest:=by
    rw[hn,show ((done.length:Int)+1).toNat=done.length+1 from by omega,e,show done++32::rest=(done++[32])++rest from by simp]
    rw[show done.length+1=(done++[32]).length from by simp,List.drop_left,List.take_of_length_le (by simp;omega)]
   rw[h1];refine evl ?_
   repeat' (first|refine b8 ?_|(refine ae ?_ ?_<;>intro h))
   refine ax ?_;rw[t1,t2]
  ·have hne: ¬(x.toNat:Int)=32:=λq=>h (A8.1 (by simpa using (by omega:x.toNat=32)))
   have ih:=λT H c=>sV s hs rest (done++[x]) T H c (n+1) (by simp[e]) (by simp[hn]) (by
    intro y hy;rcases Cb.1 hy with hy|hy
    ·exact hd y hy
    ·rw[Cc.1 hy];exact h)
   refine evl ?_
   repeat' (first|refine b8 ?_|(refine ae ?_ ?_<;>intro h))
   refine au [0,6,7] [] ?_;exact ih _ _ _
theorem am (s:List UInt8)(hs:s.length<2^40):ab G 592 [.str s] [] ⟨.tup [.str (ag s).1,.str (ag s).2],[]⟩:=by
 refine gvB (F:=Lk) ?_;refine au [0,6,7] [] ?_;exact sV s hs s [] _ _ _ 0 rfl rfl (by simp)
end Go.AM.IR
namespace Go.AM.IR
section
variable {kv:AV->Prop}
theorem nH {q:IntKind}{a b:Int}(h:a=b)(k:kv (.bool true)): ∃v,bt .eql (.int q a) (.int q b)=some v/\kv v:=⟨.bool true,by simp[bt,h],k⟩
theorem iR {q:IntKind}{a b:Int}(h: ¬a=b)(k:kv (.bool false)): ∃v,bt .eql (.int q a) (.int q b)=some v/\kv v:=⟨.bool false,by simp[bt,h],k⟩
end
end Go.AM.IR
namespace Go.AM.IR
section
variable {kv:AV->Prop}
theorem bf {a:List UInt8}(h:kv (.bool true)): ∃v,bt .eql (.str a) (.str a)=some v/\kv v:=⟨.bool true,by show some (AV.bool (a==a))=_;simp,h⟩
theorem aQ {a b:List UInt8}(n:a≠b)(h:kv (.bool false)): ∃v,bt .eql (.str a) (.str b)=some v/\kv v:=⟨.bool false,by show some (AV.bool (a==b))=_;simp[n],h⟩
end
def bg (s:List UInt8):Bool:=decide (s≠ [])&&(decide ((10:UInt8)∉s)&&decide ((32:UInt8)∉s))
theorem Nb {s:List UInt8}(h:(32:UInt8)∉s):Lib.split s [32]= [s]:=J.split_none 32 s h
theorem Na {s:List UInt8}(h:(32:UInt8)∈s):(Lib.split s [32]).length≠1:=by
 rcases J.sep_cases 32 s with q|⟨a,r,q,rfl⟩
 ·exact absurd h q
 ·rw[J.split_hit 32 a r q]
  have:=J.split_ne 32 r;cases h2:Lib.split r [32] with
  |nil=>exact absurd h2 this
  |cons x y=>simp
theorem aY (s:List UInt8)(hs:s.length<4294967281):ab G 597 [.str s] [] (if bg s=true then ⟨.str s,[]⟩ else pF 2):=by
 have hw:=J.words_gives339 s hs;have h2:=λ(_:True)=>aM false
 have h3:=aM true;rw[Ad rfl] at h3;unfold J.wrR J.wordsS at hw
 by_cases c0:s= []
 ·subst c0
  rw[Ac (by decide)]
  rw[Ad rfl] at hw;dsimp only at hw;rw[Ad rfl] at hw;refine gvB (F:=uc) ?_
  (conv=>whnf)
  refine CallG.stop ?_;refine aG 586 (h2 trivial) (λQ hr hg=>?_)
  refine kV hg ?_;rfl
 rw[Ac c0] at hw
 by_cases c1:(10:UInt8)∈s
 ·rw[Ac (by simp[bg,c1])]
  rw[Ad c1] at hw;dsimp only at hw;refine gvB (F:=uc) ?_
  (conv=>whnf)
  refine CallG.stop ?_;refine aG 586 (h2 trivial) (λQ hr hg=>?_)
  refine kV hg ?_;rfl
 rw[Ac c1] at hw
 by_cases c2:(32:UInt8)∈s
 ·rw[Ac (by simp[bg,c2])]
  have hl:(Lib.split s [32]).length≠1:=Na c2
  by_cases c3: []∈Lib.split s [32]
  ·rw[Ad c3] at hw
   dsimp only at hw;refine gvB (F:=uc) ?_
   (conv=>whnf)
   refine CallG.stop ?_;refine aG 586 (h2 trivial) (λQ hr hg=>?_)
   refine kV hg ?_;rfl
  ·rw[Ac c3] at hw
   dsimp only at hw;rw[Ac c0] at hw;have hp:aa ((Lib.split s [32]).map J.encS)=true:=by simp
   have hm: ¬(((Lib.split s [32]).map J.encS).length:Int)=1:=by simp;omega
   refine gvC (F:=uc) ?_
   repeat' ((conv=>whnf);first|refine iR hm ?_|refine aq ?_|(refine ae ?_ ?_<;>intro h))
   (conv=>whnf)
   refine CallG.stop ?_;refine aG 586 (h2 trivial) (λQ hr hg=>?_)
   refine kV hg ?_;rfl
 ·rw[Ad (by simp[bg,c0,c1,c2])]
  rw[Nb c2,Ac (by simpa using Ne.symm c0)] at hw
  dsimp only at hw;rw[Ac c0] at hw;exact gvA (F:=uc)
def n32 (s:List UInt8):Option Int:=if (J.fNum 4294967295 s).2=0 then some (J.fNum 4294967295 s).1 else none
def vF:Option Int->Ret
 |some n=>⟨.int .i64 n,[]⟩
 |none=>pF 2
theorem bC (s:List UInt8)(hs:s.length<2^40):ab G 629 [.str s] [] (vF (n32 s)):=by
 have hw:=J.num_gives346 s hs 4294967295;have h2:=λ(_:True)=>aM false
 have h3:=aM true;rw[Ad rfl] at h3;unfold J.nfR at hw;unfold n32;generalize J.fNum 4294967295 s=p at*;obtain ⟨a,b⟩:=p;dsimp only at*
 by_cases h:b=0
 ·subst h
  rw[Ad rfl];unfold vF;exact gvA (F:=Lc)
 ·rw[Ac h]
  unfold vF;refine gvC (F:=Lc) ?_
  repeat' ((conv=>whnf);first|refine iR h ?_|refine aq ?_|(refine ae ?_ ?_<;>intro h))
  (conv=>whnf)
  refine CallG.stop ?_;refine aG 586 (h2 trivial) (λQ hr hg=>?_)
  refine kV hg ?_;rfl
def iX (s:List UInt8):Option Int:=if s= [42] then some (-1) else n32 s
theorem qm (s:List UInt8)(hs:s.length<2^40):ab G 589 [.str s] [] (vF (iX s)):=by
 have h1:=bC s hs;unfold iX
 by_cases c:s= [42]
 ·subst c
  rw[Ad rfl];clear h1;refine gvC (F:=DW) ?_
  repeat' ((conv=>whnf);first|refine bf ?_|refine aq ?_|(refine ae ?_ ?_<;>intro h))
  refine ax ?_;rfl
 ·rw[Ac c]
  generalize n32 s=o at*;cases o with
  |some n=>
   unfold vF at*;refine gvC (F:=DW) ?_
   repeat' ((conv=>whnf);first|refine aQ c ?_|refine aq ?_|(refine ae ?_ ?_<;>intro h))
   refine ax ?_;rfl
  |none=>
   replace h1:=λ(_:True)=>h1
   unfold vF at*;refine gvC (F:=DW) ?_
   repeat' ((conv=>whnf);first|refine aQ c ?_|refine aq ?_|(refine ae ?_ ?_<;>intro h))
   (conv=>whnf)
   refine CallG.stop ?_;refine aG 629 (h1 trivial) (λQ hr hg=>?_)
   refine kV hg ?_;rfl
def kG:List UInt8:=[112,101,114,109,105,116]
def qy:List UInt8:=[100,101,110,121]
theorem AB (s:List UInt8)(hs:s.length<2^40):ab G 588 [.str s] [] (if (ag s).1=kG then ⟨.tup [.bool true,.str (ag s).2],[]⟩ else if (ag s).1=qy then ⟨.tup [.bool false,.str (ag s).2],[]⟩ else pF 2):=by
 have h1:=am s hs;have h2:=λ(_:True)=>aM false
 have h3:=aM true;rw[Ad rfl] at h3;generalize ag s=p at*;obtain ⟨a,b⟩:=p;dsimp only at*
 by_cases c:a=kG
 ·subst c
  rw[Ad rfl];unfold kG at*;refine gvC (F:=DX) ?_
  repeat' ((conv=>whnf);first|refine bf ?_|refine aq ?_|(refine ae ?_ ?_<;>intro h))
  refine ax ?_;rfl
 ·rw[Ac c]
  by_cases d:a=qy
  ·subst d
   rw[Ad rfl];unfold qy kG at*;refine gvC (F:=DX) ?_
   repeat' ((conv=>whnf);first|refine bf ?_|refine aQ c ?_|refine aq ?_|(refine ae ?_ ?_<;>intro h))
   refine ax ?_;rfl
  ·rw[Ac d]
   unfold qy kG at*;refine gvC (F:=DX) ?_
   repeat' ((conv=>whnf);first|refine aQ c ?_|refine aQ d ?_|refine aq ?_|(refine ae ?_ ?_<;>intro h))
   (conv=>whnf)
   refine CallG.stop ?_;refine aG 586 (h2 trivial) (λQ hr hg=>?_)
   refine kV hg ?_;rfl
end Go.AM.IR
namespace Go.AM.IR
section
variable {k:Eff->Prop} {x y:Opd} {g key:Nat} {hg:Nat->Option (Nat×Blk)}
end
theorem idx_at {s done rest:List UInt8}{x:UInt8}{n:Int}(e:s=done++x::rest)(hn:n=done.length):s[n.toNat]? =some x:=by
 rw[e,hn];simp
end Go.AM.IR
namespace Go.AM.IR
def o6 {α:Type}(f:α->Nat):List α->Nat
 | []=>0
 |x::r=>f x+o6 f r
def Qn (t:Trm):Nat:=t.mats.length+t.acts.length
def Ry (p:Pol):Nat:=p.terms.length+o6 Qn p.terms
def uH (s:PSet):Nat:=s.prefixes.length+s.paths.length+s.comms.length+s.pols.length+o6 (λp=>p.rules.length) s.prefixes+o6 (λp=>p.rules.length) s.paths+o6 (λp=>p.rules.length) s.comms+o6 Ry s.pols
end Go.AM.IR
namespace Go.AM.IR
def xm:List PList->List UInt8->Option PList
 | [],_=>none
 |x::r,k=>if x.name=k then some x else xm r k
def xn:List PathL->List UInt8->Option PathL
 | [],_=>none
 |x::r,k=>if x.name=k then some x else xn r k
def yf:List ComL->List UInt8->Option ComL
 | [],_=>none
 |x::r,k=>if x.name=k then some x else yf r k
end Go.AM.IR
namespace Go.AM.IR
def nmC (b:UInt8):Bool:=b.toNat==45||(decide (48<=b.toNat)&&decide (b.toNat<=57))||(decide (65<=b.toNat)&&decide (b.toNat<=90))||(decide (97<=b.toNat)&&decide (b.toNat<=122))
def nmB (s:List UInt8):Bool:=s.all nmC&&(decide (1<=s.length)&&decide ((s.length:Int)<=32))
def dy (r:ComR):Int:=if r.high< -1 then 5 else if 65535<r.high then 5 else if r.low< -1 then 5 else if 65535<r.low then 5 else 0
end Go.AM.IR
namespace Go.AM.IR
section
variable {kv:AV->Prop}
theorem YM {a b:List UInt8}{v:Bool}(hv:(Op.bytesLess a b||a==b)=v)(h:kv (.bool v)): ∃w,bt .leq (.str a) (.str b)=some w/\kv w:=⟨_,by show some (AV.bool (Op.bytesLess a b||a==b))=_;rw[hv],h⟩
end
end Go.AM.IR
namespace Go.AM.IR
def pQ (name before:List UInt8)(any:Bool)(n:Int):Int:=if nmB name=false then 1 else if any=false/\(Op.bytesLess name before||name==before)=true then 16 else if 64<n then 4 else 0
def yp (a:Actn):Int:=if a.asn≠0 then 1 else if a.com≠0 then 1 else if a.addr≠0 then 1 else if a.n<0 then 5 else if 4294967295<a.n then 5 else 0
def actB (a:Actn):Int:=if a.asn≠0 then 1 else if a.com≠0 then 1 else if a.addr≠0 then 1 else if a.n<0 then 5 else if 16777216<a.n then 5 else 0
def actC (a:Actn):Int:=if a.n≠0 then 1 else if a.asn≠0 then 1 else if a.com≠0 then 1 else if a.addr=0 then 5 else 0
def L8 (a:Actn):Int:=if a.n≠0 then 1 else if a.asn≠0 then 1 else if a.addr≠0 then 1 else 0
def actF (a:Actn):Int:=if a.com≠0 then 1 else if a.addr≠0 then 1 else if a.n<0 then 5 else if 16<a.n then 5 else if a.n<1 then 5 else if a.asn<1 then 5 else if 4294967295<a.asn then 5 else 0
def il (a:Actn):Int:=if a.kind=1 then yp a else if a.kind=2 then yp a else if a.kind=4 then yp a else if a.kind=3 then actB a else if a.kind=5 then actC a else if a.kind=6 then L8 a else if a.kind=7 then L8 a else if a.kind=8 then actF a else 15
end Go.AM.IR
