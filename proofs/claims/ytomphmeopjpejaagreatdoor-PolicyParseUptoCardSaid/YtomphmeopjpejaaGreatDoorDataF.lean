/- What functions of this program give. -/
import Derived.Test.YtomphmeopjpejaaGreatDoorDataE
set_option linter.unusedVariables false
set_option linter.unusedSimpArgs false
set_option maxHeartbeats 4000000
set_option maxRecDepth 20000
namespace Go.AM.IR
abbrev pzA {g0 g1 g2 g3 g4 g5 g6 g7 g8 s1 s2 s3 s4 s5 s6 s7 s8:Nat}{x:B7}{e1 e2 e3 e4 e5 e6 e7 e8:B6}:Pzs:=[(0,g0,.cells x),(1,g1,.vec s1 e1),(2,g2,.vec s2 e2),(3,g3,.vec s3 e3),(4,g4,.vec s4 e4),(5,g5,.vec s5 e5),(6,g6,.vec s6 e6),(7,g7,.vec s7 e7),(8,g8,.vec s8 e8)]
abbrev pzD {g0 g1 g2 g3 g4 g5 g6 g7 g8 g9 g10 g11 s1 s2 s3 s4 s5 s6 s7 s8 s9 s10 s11:Nat}{x:B7}{e1 e2 e3 e4 r4 e5 e6 e7 e8 e9 r9 e10 e11:B6}:Pzs:=[(0,g0,.cells x),(1,g1,.vec s1 e1),(2,g2,.vec s2 e2),(3,g3,.vec s3 e3),(4,g4,.nest s4 e4 r4),(5,g5,.vec s5 e5),(6,g6,.vec s6 e6),(7,g7,.vec s7 e7),(8,g8,.vec s8 e8),(9,g9,.nest s9 e9 r9),(10,g10,.vec s10 e10),(11,g11,.vec s11 e11)]
section
variable {g0 g1 g2 g3 g4 g5 g6 g7 g8 g9 s1 s2 s3 s4 s5 s6 s7 s8 s9:Nat}{x:B7}
abbrev pzC {e1 e2 e3 e4 r4 e5 e6 e7 e8 e9:B6}:Pzs:=[(0,g0,.cells x),(1,g1,.vec s1 e1),(2,g2,.vec s2 e2),(3,g3,.vec s3 e3),(4,g4,.nest s4 e4 r4),(5,g5,.vec s5 e5),(6,g6,.vec s6 e6),(7,g7,.vec s7 e7),(8,g8,.vec s8 e8),(9,g9,.vec s9 e9)]
abbrev jD {e1 e2 e3 r3 e4 e5 e6 e7 e8 e9:B6}:Pzs:=[(0,g0,.cells x),(1,g1,.vec s1 e1),(2,g2,.vec s2 e2),(3,g3,.nest s3 e3 r3),(4,g4,.vec s4 e4),(5,g5,.vec s5 e5),(6,g6,.vec s6 e6),(7,g7,.vec s7 e7),(8,g8,.vec s8 e8),(9,g9,.vec s9 e9)]
abbrev j4 {e1 e2 r2 e3 e4 e5 e6 e7 e8 e9:B6}:Pzs:=[(0,g0,.cells x),(1,g1,.vec s1 e1),(2,g2,.nest s2 e2 r2),(3,g3,.vec s3 e3),(4,g4,.vec s4 e4),(5,g5,.vec s5 e5),(6,g6,.vec s6 e6),(7,g7,.vec s7 e7),(8,g8,.vec s8 e8),(9,g9,.vec s9 e9)]
abbrev lJ {e1 r1 e2 e3 e4 e5 e6 e7 e8 e9:B6}:Pzs:=[(0,g0,.cells x),(1,g1,.nest s1 e1 r1),(2,g2,.vec s2 e2),(3,g3,.vec s3 e3),(4,g4,.vec s4 e4),(5,g5,.vec s5 e5),(6,g6,.vec s6 e6),(7,g7,.vec s7 e7),(8,g8,.vec s8 e8),(9,g9,.vec s9 e9)]
end
def pF (e:Int):Ret:=⟨pnV (.ifc 138 (.agg [.int .i64 e])),[]⟩
theorem aU (b:Bool):ag G 586 [.bool b] [] (if b then ⟨.tup [],[]⟩ else pF 2):=by
 cases b
 ·refine gvB (F:=Rz) ?_
  refine jN ?_;rfl
 ·exact gvA (F:=Rz)
theorem bC (e:Int):ag G 590 [.int .i64 e] [] (if e=0 then ⟨.tup [],[]⟩ else pF e):=by
 by_cases h:e=0
 ·rw[Ac h]
  exact gvA (F:=Ru)
 ·rw[Aa h]
  refine gvB (F:=Ru) ?_;refine jN ?_;rfl
theorem b8 (n:Int):ag G 587 [.int .i64 n] [] (if n<64 then ⟨.tup [],[]⟩ else pF 4):=by
 by_cases h:n<64
 ·rw[Ac h]
  exact gvA (F:=Ry)
 ·rw[Aa h]
  have h4:=λ(_:True)=>bC 4
  refine gvB (F:=Ry) ?_
  (conv=>whnf)
  refine CallG.stop ?_;refine aH 590 (h4 trivial) (λQ hr hg=>?_)
  refine kV hg ?_;rfl
def aw:B5->B5×B5
 | []=>([],[])
 |c::r=>if c=32 then ([],r) else (c::(aw r).1,(aw r).2)
theorem sB {d:B5}(h: ∀c∈d,c≠32)(r:B5):aw (d++r)=(d++(aw r).1,(aw r).2):=by
 induction d<;>grind [aw]
theorem wq (s:B5)(hs:s.length<2^40): ∀(rest done:B5)(T:TV)(H:az)(c:Nat)(n:Int)(e:s=done++rest)(hn:n=done.length)(hd: ∀c∈done,c≠32),
  Ev G ⟨ZT,⟨(0,.str s)::(6,.int .i64 (s.length:Int))::(7,.int .i64 n)::T,H,c⟩,[.t 2,.t 3],0⟩ ⟨.tup [.str (aw s).1,.str (aw s).2],[]⟩
 | [],done,T,H,c,n,e,hn,hd=>by
  have hsl:=md0 e;have h1:aw s=(s,[]):=by rw[e,sB hd];simp[aw]
  rw[h1];refine evA ?_;refine ap ?_;rfl
 |x::rest,done,T,H,c,n,e,hn,hd=>by
  have hsl:=md e;have hb:s[n.toNat]? =some x:=by rw[e,hn];simp
  have hx:=x.toNat_lt
  by_cases h:x=32
  ·subst h
   have h1:aw s=(done,rest):=by rw[e,sB hd];simp[aw]
   have t1:List.take (n.toNat-0) (List.drop 0 s)=done:=by rw[e,hn];simp
   have t2:List.take (s.length- (n+1).toNat) (List.drop (n+1).toNat s)=rest:=by
    rw[hn,show ((done.length:Int)+1).toNat=done.length+1 from by omega,e,show done++32::rest=(done++[32])++rest from by simp]
    rw[show done.length+1=(done++[32]).length from by simp,List.drop_left,List.take_of_length_le (by simp;omega)]
   rw[h1];refine evl ?_
   repeat' (first|refine bp ?_|apply ae<;>intro h)
   refine ap ?_;rw[t1,t2]
  ·have hne: ¬(x.toNat:Int)=32:=λq=>h (A5.1 (by simpa using (by omega:x.toNat=32)))
   have ih:=λT H c=>wq s hs rest (done++[x]) T H c (n+1) (by simp[e]) (by simp[hn]) (by
    intro y hy;rcases BE.1 hy with hy|hy
    ·exact hd y hy
    ·rw[BO.1 hy];exact h)
   refine evl ?_
   repeat' (first|refine bp ?_|apply ae<;>intro h)
   refine au [0,6,7] [] ?_;exact ih _ _ _
theorem aE (s:B5)(hs:s.length<2^40):ag G 592 [.str s] [] ⟨.tup [.str (aw s).1,.str (aw s).2],[]⟩:=by
 refine gvB (F:=Rn) ?_;refine au [0,6,7] [] ?_;exact wq s hs s [] _ _ _ 0 rfl rfl (by simp)
section
variable {kv:AV->Prop}
theorem en {q:IntKind}{a b:Int}(h:a=b)(k:kv (.bool true)): ∃v,bm .eql (.int q a) (.int q b)=some v/\kv v:=⟨.bool true,by simp[bm,h],k⟩
theorem fu {q:IntKind}{a b:Int}(h: ¬a=b)(k:kv (.bool false)): ∃v,bm .eql (.int q a) (.int q b)=some v/\kv v:=⟨.bool false,by simp[bm,h],k⟩
end
section
variable {kv:AV->Prop}
theorem bj {a:B5}(h:kv (.bool true)): ∃v,bm .eql (.str a) (.str a)=some v/\kv v:=⟨.bool true,by show some (AV.bool (a==a))=_;simp,h⟩
theorem aG {a b:B5}(n:a≠b)(h:kv (.bool false)): ∃v,bm .eql (.str a) (.str b)=some v/\kv v:=⟨.bool false,by show some (AV.bool (a==b))=_;simp[n],h⟩
end
section
variable (s:B5)
def bx:Bool:=decide (s≠ [])&&(decide ((10:UInt8)∉s)&&decide ((32:UInt8)∉s))
theorem Tk {s:B5}(h:(32:UInt8)∉s):Lib.split s [32]= [s]:=J.split_none 32 s h
theorem Tj {s:B5}(h:(32:UInt8)∈s):(Lib.split s [32]).length≠1:=by
 grind [J.sep_cases,J.split_hit,J.split_ne]
theorem ba (hs:s.length<4294967281):ag G 597 [.str s] [] (if bx s=true then ⟨.str s,[]⟩ else pF 2):=by
 have hw:=J.words_gives339 s hs;have h2:=λ(_:True)=>aU false
 have h3:=aU true;rw[Ac rfl] at h3;unfold J.wrR J.wordsS at hw
 by_cases c0:s= []
 ·subst c0
  rw[Aa (by decide)]
  rw[Ac rfl] at hw;dsimp only at hw;rw[Ac rfl] at hw;refine gvB (F:=xp) ?_
  (conv=>whnf)
  refine CallG.stop ?_;refine aH 586 (h2 trivial) (λQ hr hg=>?_)
  refine kV hg ?_;rfl
 rw[Aa c0] at hw
 by_cases c1:(10:UInt8)∈s
 ·rw[Aa (by simp[bx,c1])]
  rw[Ac c1] at hw;dsimp only at hw;refine gvB (F:=xp) ?_
  (conv=>whnf)
  refine CallG.stop ?_;refine aH 586 (h2 trivial) (λQ hr hg=>?_)
  refine kV hg ?_;rfl
 rw[Aa c1] at hw
 by_cases c2:(32:UInt8)∈s
 ·rw[Aa (by simp[bx,c2])]
  have hl:(Lib.split s [32]).length≠1:=Tj c2
  by_cases c3: []∈Lib.split s [32]
  ·rw[Ac c3] at hw
   dsimp only at hw;refine gvB (F:=xp) ?_
   (conv=>whnf)
   refine CallG.stop ?_;refine aH 586 (h2 trivial) (λQ hr hg=>?_)
   refine kV hg ?_;rfl
  ·rw[Aa c3] at hw
   dsimp only at hw;rw[Aa c0] at hw;have hp:ab ((Lib.split s [32]).map J.encS)=true:=by simp
   have hm: ¬(((Lib.split s [32]).map J.encS).length:Int)=1:=by simp;omega
   refine gvC (F:=xp) ?_
   repeat' ((conv=>whnf);first|refine fu hm ?_|refine aq ?_|apply ae<;>intro h)
   (conv=>whnf)
   refine CallG.stop ?_;refine aH 586 (h2 trivial) (λQ hr hg=>?_)
   refine kV hg ?_;rfl
 ·rw[Ac (by simp[bx,c0,c1,c2])]
  rw[Tk c2,Aa (by simpa using Ne.symm c0)] at hw
  dsimp only at hw;rw[Aa c0] at hw;exact gvA (F:=xp)
def n32:Ds:=if (J.fNum 4294967295 s).2=0 then some (J.fNum 4294967295 s).1 else none
def vF:Ds->Ret
 |some n=>⟨.int .i64 n,[]⟩
 |none=>pF 2
theorem bJ (hs:s.length<2^40):ag G 629 [.str s] [] (vF (n32 s)):=by
 have hw:=J.num_gives346 s hs 4294967295;have h2:=λ(_:True)=>aU false
 have h3:=aU true;rw[Ac rfl] at h3;unfold J.nfR at hw;unfold n32;generalize J.fNum 4294967295 s=p at*;obtain ⟨a,b⟩:=p;dsimp only at*
 by_cases h:b=0
 ·subst h
  rw[Ac rfl];unfold vF;exact gvA (F:=Ra)
 ·rw[Aa h]
  unfold vF;refine gvC (F:=Ra) ?_
  repeat' ((conv=>whnf);first|refine fu h ?_|refine aq ?_|apply ae<;>intro h)
  (conv=>whnf)
  refine CallG.stop ?_;refine aH 586 (h2 trivial) (λQ hr hg=>?_)
  refine kV hg ?_;rfl
def eN:Ds:=if s= [42] then some (-1) else n32 s
theorem sN (hs:s.length<2^40):ag G 589 [.str s] [] (vF (eN s)):=by
 have h1:=bJ s hs;unfold eN
 by_cases c:s= [42]
 ·subst c
  rw[Ac rfl];clear h1;refine gvC (F:=Jy) ?_
  repeat' ((conv=>whnf);first|refine bj ?_|refine aq ?_|apply ae<;>intro h)
  refine ap ?_;rfl
 ·rw[Aa c]
  generalize n32 s=o at*;cases o with
  |some n=>
   unfold vF at*;refine gvC (F:=Jy) ?_
   repeat' ((conv=>whnf);first|refine aG c ?_|refine aq ?_|apply ae<;>intro h)
   refine ap ?_;rfl
  |none=>
   replace h1:=λ(_:True)=>h1
   unfold vF at*;refine gvC (F:=Jy) ?_
   repeat' ((conv=>whnf);first|refine aG c ?_|refine aq ?_|apply ae<;>intro h)
   (conv=>whnf)
   refine CallG.stop ?_;refine aH 629 (h1 trivial) (λQ hr hg=>?_)
   refine kV hg ?_;rfl
def jA:B5:=[112,101,114,109,105,116]
def oU:B5:=[100,101,110,121]
theorem EW (hs:s.length<2^40):ag G 588 [.str s] [] (if (aw s).1=jA then ⟨.tup [.bool true,.str (aw s).2],[]⟩ else if (aw s).1=oU then ⟨.tup [.bool false,.str (aw s).2],[]⟩ else pF 2):=by
 have h1:=aE s hs;have h2:=λ(_:True)=>aU false
 have h3:=aU true;rw[Ac rfl] at h3;generalize aw s=p at*;obtain ⟨a,b⟩:=p;dsimp only at*
 by_cases c:a=jA
 ·subst c
  rw[Ac rfl];unfold jA at*;refine gvC (F:=Jz) ?_
  repeat' ((conv=>whnf);first|refine bj ?_|refine aq ?_|apply ae<;>intro h)
  refine ap ?_;rfl
 ·rw[Aa c]
  by_cases d:a=oU
  ·subst d
   rw[Ac rfl];unfold oU jA at*;refine gvC (F:=Jz) ?_
   repeat' ((conv=>whnf);first|refine bj ?_|refine aG c ?_|refine aq ?_|apply ae<;>intro h)
   refine ap ?_;rfl
  ·rw[Aa d]
   unfold oU jA at*;refine gvC (F:=Jz) ?_
   repeat' ((conv=>whnf);first|refine aG c ?_|refine aG d ?_|refine aq ?_|apply ae<;>intro h)
   (conv=>whnf)
   refine CallG.stop ?_;refine aH 586 (h2 trivial) (λQ hr hg=>?_)
   refine kV hg ?_;rfl
end
section
variable {k:Eff->Prop} {x y:Opd} {g key:Nat} {hg:Nat->Cl}
end
theorem idx_at {s done rest:B5}{x:UInt8}{n:Int}(e:s=done++x::rest)(hn:n=done.length):s[n.toNat]? =some x:=by
 rw[e,hn];simp
def qI:CL->B5->Option PList
 | [],_=>none
 |x::r,k=>if x.name=k then some x else qI r k
def plsR:Option PList->Ret
 |none=>⟨.tup [.agg [.str [],.con (.slice none 0 0)],.bool false],[]⟩
 |some x=>⟨.tup [.agg x.enc,.bool true],[]⟩
def qJ:CO->B5->Option PathL
 | [],_=>none
 |x::r,k=>if x.name=k then some x else qJ r k
def palR:Option PathL->Ret
 |none=>⟨.tup [.agg [.str [],.con (.slice none 0 0)],.bool false],[]⟩
 |some x=>⟨.tup [.agg x.enc,.bool true],[]⟩
def qR:CS->B5->Option ComL
 | [],_=>none
 |x::r,k=>if x.name=k then some x else qR r k
def colR:Option ComL->Ret
 |none=>⟨.tup [.agg [.str [],.con (.slice none 0 0)],.bool false],[]⟩
 |some x=>⟨.tup [.agg x.enc,.bool true],[]⟩
def sj (k:Int):Ret:=
 if k=4 then ⟨.tup [.int .i64 1,.int .i64 7,.bool true],[]⟩ else if k=5 then ⟨.tup [.int .i64 0,.int .i64 4294967295,.bool true],[]⟩ else
 if k=6 then ⟨.tup [.int .i64 0,.int .i64 16777216,.bool true],[]⟩ else if k=8 then ⟨.tup [.int .i64 0,.int .i64 2000,.bool true],[]⟩ else ⟨.tup [.int .i64 0,.int .i64 0,.bool false],[]⟩
theorem jl (k:Int):ag G 619 [.int .i64 k] [] (sj k):=by
 by_cases h4:k=4
 ·subst h4
  exact gvA (F:=xo)
 by_cases h5:k=5
 ·subst h5
  exact gvA (F:=xo)
 by_cases h6:k=6
 ·subst h6
  exact gvA (F:=xo)
 by_cases h8:k=8
 ·subst h8
  exact gvA (F:=xo)
 rw[sj,Aa h4,Aa h5,Aa h6,Aa h8];exact gvA (F:=xo)
def nmC (b:UInt8):Bool:=b.toNat==45||(decide (48<=b.toNat)&&decide (b.toNat<=57))||(decide (65<=b.toNat)&&decide (b.toNat<=90))||(decide (97<=b.toNat)&&decide (b.toNat<=122))
def nmB (s:B5):Bool:=s.all nmC&&(decide (1<=s.length)&&decide ((s.length:Int)<=32))
theorem lU (s:B5)(hs:s.length<2^40): ∀(rest done:B5)(T:TV)(H:az)(c:Nat)(n:Int)(e:s=done++rest)(hn:n=done.length),
  Ev G ⟨aaa,⟨(3,.int .i64 n)::(0,.str s)::T,H,c⟩,[.t 2],0⟩ ⟨.bool (rest.all nmC&&(decide (1<=s.length)&&decide ((s.length:Int)<=32))),[]⟩
 | [],done,T,H,c,n,e,hn=>by
  have hd:=md0 e
  by_cases h1:1<=s.length
  ·rw[Ak h1]
   refine evA ?_;refine ap ?_;rfl
  ·rw[Al h1]
   refine evA ?_;refine ap ?_;rfl
 |x::rest,done,T,H,c,n,e,hn=>by
  have hd:=md e;have hb:=idx_at e hn;rw[B2]
  by_cases h0:x.toNat<45
  ·have hc:nmC x=false:=by unfold nmC;simp;omega
   rw[hc,Bo,Bo];refine evl ?_
   repeat' (first|refine bp ?_|apply ae<;>intro h)
   refine ap ?_;rfl
  by_cases h1:x.toNat=45
  ·have hc:nmC x=true:=by unfold nmC;simp;omega
   rw[hc,By];refine evl ?_
   repeat' (first|refine bp ?_|apply ae<;>intro h)
   refine au [3,0] [] ?_;exact lU s hs rest (done++[x]) _ _ _ (n+1) (by simp[e]) (by simp[hn])
  by_cases h2:x.toNat<48
  ·have hc:nmC x=false:=by unfold nmC;simp;omega
   rw[hc,Bo,Bo];refine evl ?_
   repeat' (first|refine bp ?_|apply ae<;>intro h)
   refine ap ?_;rfl
  by_cases h3:x.toNat<=57
  ·have hc:nmC x=true:=by unfold nmC;simp;omega
   rw[hc,By];refine evl ?_
   repeat' (first|refine bp ?_|apply ae<;>intro h)
   refine au [3,0] [] ?_;exact lU s hs rest (done++[x]) _ _ _ (n+1) (by simp[e]) (by simp[hn])
  by_cases h4:x.toNat<65
  ·have hc:nmC x=false:=by unfold nmC;simp;omega
   rw[hc,Bo,Bo];refine evl ?_
   repeat' (first|refine bp ?_|apply ae<;>intro h)
   refine ap ?_;rfl
  by_cases h5:x.toNat<=90
  ·have hc:nmC x=true:=by unfold nmC;simp;omega
   rw[hc,By];refine evl ?_
   repeat' (first|refine bp ?_|apply ae<;>intro h)
   refine au [3,0] [] ?_;exact lU s hs rest (done++[x]) _ _ _ (n+1) (by simp[e]) (by simp[hn])
  by_cases h6:x.toNat<97
  ·have hc:nmC x=false:=by unfold nmC;simp;omega
   rw[hc,Bo,Bo];refine evl ?_
   repeat' (first|refine bp ?_|apply ae<;>intro h)
   refine ap ?_;rfl
  by_cases h7:x.toNat<=122
  ·have hc:nmC x=true:=by unfold nmC;simp;omega
   rw[hc,By];refine evl ?_
   repeat' (first|refine bp ?_|apply ae<;>intro h)
   refine au [3,0] [] ?_;exact lU s hs rest (done++[x]) _ _ _ (n+1) (by simp[e]) (by simp[hn])
  have hc:nmC x=false:=by unfold nmC;simp;omega
  rw[hc,Bo,Bo];refine evl ?_
  repeat' (first|refine bp ?_|apply ae<;>intro h)
  refine ap ?_;rfl
theorem qK (s:B5)(hs:s.length<2^40):ag G 573 [.str s] [] ⟨.bool (nmB s),[]⟩:=by
 refine gvB (F:=RE) ?_;refine au [3,0] [] ?_;exact lU s hs s [] _ _ _ 0 rfl rfl
def jP (r:ComR):Int:=if r.high< -1 then 5 else if 65535<r.high then 5 else if r.low< -1 then 5 else if 65535<r.low then 5 else 0
theorem Ku (r:ComR):ag G 572 [.agg r.enc] [] ⟨.int .i64 (jP r),[]⟩:=by
 by_cases c0:r.high< -1
 ·rw[jP,Ac c0]
  exact gvA (F:=xt)
 by_cases c1:65535<r.high
 ·rw[jP,Aa c0,Ac c1]
  exact gvA (F:=xt)
 by_cases c2:r.low< -1
 ·rw[jP,Aa c0,Aa c1,Ac c2]
  exact gvA (F:=xt)
 by_cases c3:65535<r.low
 ·rw[jP,Aa c0,Aa c1,Aa c2,Ac c3]
  exact gvA (F:=xt)
 rw[jP,Aa c0,Aa c1,Aa c2,Aa c3];exact gvA (F:=xt)
section
variable {kv:AV->Prop}
theorem OL {a b:B5}(n:a=b)(h:kv (.bool false)): ∃v,bm .neq (.str a) (.str b)=some v/\kv v:=⟨.bool false,by show some (AV.bool (!(a==b)))=_;simp[n],h⟩
theorem Wd {a b:B5}(n: ¬a=b)(h:kv (.bool true)): ∃v,bm .neq (.str a) (.str b)=some v/\kv v:=⟨.bool true,by show some (AV.bool (!(a==b)))=_;simp[n],h⟩
theorem We {a b:B5}{v:Bool}(hv:(Op.bytesLess a b||a==b)=v)(h:kv (.bool v)): ∃w,bm .leq (.str a) (.str b)=some w/\kv w:=⟨_,by show some (AV.bool (Op.bytesLess a b||a==b))=_;rw[hv],h⟩
end
theorem gvD {G:Nat->Fun}{f:Nat}{F:AFunc}{args:B7}{bs:C5}{t:Ret}(hf:G f= .code F:=by rfl)(hl:args.length=F.np:=by rfl)(h:Ev G ⟨[.code F.body],⟨tms 0 args,jM 0 bs,1⟩,F.results,bs.length⟩ t:=by
 refine wk3 ?_
 repeat' ((conv=>whnf);first|refine OL (by assumption) ?_|refine Wd (by assumption) ?_|refine We (by assumption) ?_|refine aq ?_|apply ae<;>intro h)
 all_goals exact dnA):ag G f args bs t:=lZ hf hl h
def yQ (name before:B5)(any:Bool)(n:Int):Int:=if nmB name=false then 1 else if any=false/\(Op.bytesLess name before||name==before)=true then 16 else if 64<n then 4 else 0
theorem fm (name before:B5)(hn:name.length<2^40)(any:Bool)(n:Int):ag G 500 [.str name,.str before,.bool any,.int .i64 n] [] ⟨.int .i64 (yQ name before any n),[]⟩:=by
 have h1:=qK name hn;unfold yQ;rcases hb:nmB name with _|_<;>cases any<;>rcases hl:(Op.bytesLess name before||name==before) with _|_<;>rw[hb] at h1<;>exact gvD (F:=aas)
section
variable (a:Actn)
def xP:Int:=if a.asn≠0 then 1 else if a.com≠0 then 1 else if a.addr≠0 then 1 else if a.n<0 then 5 else if 4294967295<a.n then 5 else 0
def aba:Int:=if a.asn≠0 then 1 else if a.com≠0 then 1 else if a.addr≠0 then 1 else if a.n<0 then 5 else if 16777216<a.n then 5 else 0
def aa9:Int:=if a.n≠0 then 1 else if a.asn≠0 then 1 else if a.com≠0 then 1 else if a.addr=0 then 5 else 0
def Lw:Int:=if a.n≠0 then 1 else if a.asn≠0 then 1 else if a.addr≠0 then 1 else 0
def aa8:Int:=if a.com≠0 then 1 else if a.addr≠0 then 1 else if a.n<0 then 5 else if 16<a.n then 5 else if a.n<1 then 5 else if a.asn<1 then 5 else if 4294967295<a.asn then 5 else 0
def gx:Int:=if a.kind=1 then xP a else if a.kind=2 then xP a else if a.kind=4 then xP a else if a.kind=3 then aba a else if a.kind=5 then aa9 a else if a.kind=6 then Lw a else if a.kind=7 then Lw a else if a.kind=8 then aa8 a else 15
theorem u5:ag G 575 [.agg a.enc] [] ⟨.int .i64 (gx a),[]⟩:=by
 unfold gx xP aba aa9 Lw aa8;exact gvD (F:=ZY)
end
end Go.AM.IR
