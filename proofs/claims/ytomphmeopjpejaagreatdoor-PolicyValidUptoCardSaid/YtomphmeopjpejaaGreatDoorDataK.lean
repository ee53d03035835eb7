/- What the functions of this program give, on the abstract machine. -/
import Derived.Test.YtomphmeopjpejaaGreatDoorDataI
set_option linter.unusedVariables false
set_option linter.unusedSimpArgs false
set_option maxHeartbeats 4000000
set_option maxRecDepth 20000
namespace Go.AM.IR
def ce:List UInt8:=[110,111,116]
def iB:List UInt8:=[112,114,111,116,111,99,111,108]
def ma:List UInt8:=[116,97,103]
def gu:List UInt8:=[109,101,116,114,105,99]
def iC:List UInt8:=[112,97,116,104,45,108,101,110,103,116,104]
def iG:List UInt8:=[110,101,120,116,45,104,111,112]
def ix (k:Int)(ng:Bool)(o:Option Int):Option Mat:=match o with
 |some n=>some ⟨k,[],n,⟨0,0⟩,ng⟩
 |none=>none
def qY (h t:List UInt8)(ng:Bool):Option Mat:=
 if h=cn then some ⟨1,t,0,⟨0,0⟩,ng⟩ else if h=cm then some ⟨2,t,0,⟨0,0⟩,ng⟩ else if h=ck then some ⟨3,t,0,⟨0,0⟩,ng⟩ else
 if h=iB then ix 4 ng (n32 t) else if h=ma then ix 5 ng (n32 t) else if h=gu then ix 6 ng (n32 t) else if h=iC then ix 8 ng (n32 t) else
 if h=iG then (if (J.psP t).2=0 then some ⟨7,[],0,(J.psP t).1,ng⟩ else none) else none
def qX (p:List UInt8×List UInt8)(ng:Bool):Option Mat:=if bg p.2=true then qY p.1 p.2 ng else none
def ic (s:List UInt8):Option Mat:=if (ag s).1=ce then qX (ag (ag s).2) true else qX (ag s) false
def mR:Option Mat->Ret
 |some m=>⟨.agg m.enc,[]⟩
 |none=>pF 2
theorem Sa (s:List UInt8)(hs:s.length<4294967281)(t0:List UInt8)(hc0:ag s=(ce,t0))(w t:List UInt8)(hc:ag t0=(w,t))(ho: ¬bg t=true):ab G 593 [.str s] [] (pF 2):=by
 have h0:=am s (by omega)
 rw[hc0] at h0;have hl0:t0.length<=s.length:=by have:=(aW s).2;rw[hc0] at this;exact this
 have h1:=am t0 (by omega)
 rw[hc] at h1;have hl:t.length<=t0.length:=by have:=(aW t0).2;rw[hc] at this;exact this
 dsimp only at*;unfold ce at*;have h3:=λ(_:True)=>aY t (by omega)
 rw[Ac ho] at h3;refine gvC (F:=dw) ?_
 repeat' ((conv=>whnf);first|refine bf ?_|refine aq ?_|(refine ae ?_ ?_<;>intro h))
 (conv=>whnf)
 refine CallG.stop ?_;refine aG 597 (h3 trivial) (λQ hr hg=>?_)
 refine kV hg ?_;rfl
theorem aaI (s:List UInt8)(hs:s.length<4294967281)(t0:List UInt8)(hc0:ag s=(ce,t0))(w t:List UInt8)(hc:ag t0=(w,t))(hw:w=cn)(ho:bg t=true):ab G 593 [.str s] [] ⟨.agg (Mat.enc ⟨1,t,0,⟨0,0⟩,true⟩),[]⟩:=by
 have h0:=am s (by omega)
 rw[hc0] at h0;have hl0:t0.length<=s.length:=by have:=(aW s).2;rw[hc0] at this;exact this
 have h1:=am t0 (by omega)
 rw[hc] at h1;have hl:t.length<=t0.length:=by have:=(aW t0).2;rw[hc] at this;exact this
 dsimp only at*;unfold ce at*;have h3:=aY t (by omega)
 rw[Ad ho] at h3;unfold cn at hw;subst hw;refine gvC (F:=dw) ?_
 repeat' ((conv=>whnf);first|refine bf ?_|refine aq ?_|(refine ae ?_ ?_<;>intro h))
 refine ax ?_;(conv=>whnf);refine Go.AM.finC ?_;rfl
theorem aaH (s:List UInt8)(hs:s.length<4294967281)(t0:List UInt8)(hc0:ag s=(ce,t0))(w t:List UInt8)(hc:ag t0=(w,t))(hw:w=cm)(ho:bg t=true):ab G 593 [.str s] [] ⟨.agg (Mat.enc ⟨2,t,0,⟨0,0⟩,true⟩),[]⟩:=by
 have h0:=am s (by omega)
 rw[hc0] at h0;have hl0:t0.length<=s.length:=by have:=(aW s).2;rw[hc0] at this;exact this
 have h1:=am t0 (by omega)
 rw[hc] at h1;have hl:t.length<=t0.length:=by have:=(aW t0).2;rw[hc] at this;exact this
 dsimp only at*;unfold ce at*;have h3:=aY t (by omega)
 rw[Ad ho] at h3;unfold cm at hw;subst hw;refine gvC (F:=dw) ?_
 repeat' ((conv=>whnf);first|refine aQ (by decide) ?_|refine bf ?_|refine aq ?_|(refine ae ?_ ?_<;>intro h))
 refine ax ?_;(conv=>whnf);refine Go.AM.finC ?_;rfl
theorem aaG (s:List UInt8)(hs:s.length<4294967281)(t0:List UInt8)(hc0:ag s=(ce,t0))(w t:List UInt8)(hc:ag t0=(w,t))(hw:w=ck)(ho:bg t=true):ab G 593 [.str s] [] ⟨.agg (Mat.enc ⟨3,t,0,⟨0,0⟩,true⟩),[]⟩:=by
 have h0:=am s (by omega)
 rw[hc0] at h0;have hl0:t0.length<=s.length:=by have:=(aW s).2;rw[hc0] at this;exact this
 have h1:=am t0 (by omega)
 rw[hc] at h1;have hl:t.length<=t0.length:=by have:=(aW t0).2;rw[hc] at this;exact this
 dsimp only at*;unfold ce at*;have h3:=aY t (by omega)
 rw[Ad ho] at h3;unfold ck at hw;subst hw;refine gvC (F:=dw) ?_
 repeat' ((conv=>whnf);first|refine aQ (by decide) ?_|refine bf ?_|refine aq ?_|(refine ae ?_ ?_<;>intro h))
 refine ax ?_;(conv=>whnf);refine Go.AM.finC ?_;rfl
theorem aaF (s:List UInt8)(hs:s.length<4294967281)(t0:List UInt8)(hc0:ag s=(ce,t0))(w t:List UInt8)(hc:ag t0=(w,t))(hw:w=iB)(ho:bg t=true):ab G 593 [.str s] [] (mR (ix 4 true (n32 t))):=by
 have h0:=am s (by omega)
 rw[hc0] at h0;have hl0:t0.length<=s.length:=by have:=(aW s).2;rw[hc0] at this;exact this
 have h1:=am t0 (by omega)
 rw[hc] at h1;have hl:t.length<=t0.length:=by have:=(aW t0).2;rw[hc] at this;exact this
 dsimp only at*;unfold ce at*;have h3:=aY t (by omega)
 rw[Ad ho] at h3;unfold iB at hw;subst hw;have h4:=bC t (by omega)
 cases hq:n32 t with
 |some v=>
  rw[hq] at h4;unfold vF at h4;refine gvC (F:=dw) ?_
  repeat' ((conv=>whnf);first|refine aQ (by decide) ?_|refine bf ?_|refine aq ?_|(refine ae ?_ ?_<;>intro h))
  refine ax ?_;(conv=>whnf);refine Go.AM.finC ?_;rfl
 |none=>
  rw[hq] at h4;replace h4:=λ(_:True)=>h4
  refine gvC (F:=dw) ?_
  repeat' ((conv=>whnf);first|refine aQ (by decide) ?_|refine bf ?_|refine aq ?_|(refine ae ?_ ?_<;>intro h))
  (conv=>whnf)
  refine CallG.stop ?_;refine aG 629 (h4 trivial) (λQ hr hg=>?_)
  refine kV hg ?_;rfl
theorem aaE (s:List UInt8)(hs:s.length<4294967281)(t0:List UInt8)(hc0:ag s=(ce,t0))(w t:List UInt8)(hc:ag t0=(w,t))(hw:w=ma)(ho:bg t=true):ab G 593 [.str s] [] (mR (ix 5 true (n32 t))):=by
 have h0:=am s (by omega)
 rw[hc0] at h0;have hl0:t0.length<=s.length:=by have:=(aW s).2;rw[hc0] at this;exact this
 have h1:=am t0 (by omega)
 rw[hc] at h1;have hl:t.length<=t0.length:=by have:=(aW t0).2;rw[hc] at this;exact this
 dsimp only at*;unfold ce at*;have h3:=aY t (by omega)
 rw[Ad ho] at h3;unfold ma at hw;subst hw;have h4:=bC t (by omega)
 cases hq:n32 t with
 |some v=>
  rw[hq] at h4;unfold vF at h4;refine gvC (F:=dw) ?_
  repeat' ((conv=>whnf);first|refine aQ (by decide) ?_|refine bf ?_|refine aq ?_|(refine ae ?_ ?_<;>intro h))
  refine ax ?_;(conv=>whnf);refine Go.AM.finC ?_;rfl
 |none=>
  rw[hq] at h4;replace h4:=λ(_:True)=>h4
  refine gvC (F:=dw) ?_
  repeat' ((conv=>whnf);first|refine aQ (by decide) ?_|refine bf ?_|refine aq ?_|(refine ae ?_ ?_<;>intro h))
  (conv=>whnf)
  refine CallG.stop ?_;refine aG 629 (h4 trivial) (λQ hr hg=>?_)
  refine kV hg ?_;rfl
theorem aaD (s:List UInt8)(hs:s.length<4294967281)(t0:List UInt8)(hc0:ag s=(ce,t0))(w t:List UInt8)(hc:ag t0=(w,t))(hw:w=gu)(ho:bg t=true):ab G 593 [.str s] [] (mR (ix 6 true (n32 t))):=by
 have h0:=am s (by omega)
 rw[hc0] at h0;have hl0:t0.length<=s.length:=by have:=(aW s).2;rw[hc0] at this;exact this
 have h1:=am t0 (by omega)
 rw[hc] at h1;have hl:t.length<=t0.length:=by have:=(aW t0).2;rw[hc] at this;exact this
 dsimp only at*;unfold ce at*;have h3:=aY t (by omega)
 rw[Ad ho] at h3;unfold gu at hw;subst hw;have h4:=bC t (by omega)
 cases hq:n32 t with
 |some v=>
  rw[hq] at h4;unfold vF at h4;refine gvC (F:=dw) ?_
  repeat' ((conv=>whnf);first|refine aQ (by decide) ?_|refine bf ?_|refine aq ?_|(refine ae ?_ ?_<;>intro h))
  refine ax ?_;(conv=>whnf);refine Go.AM.finC ?_;rfl
 |none=>
  rw[hq] at h4;replace h4:=λ(_:True)=>h4
  refine gvC (F:=dw) ?_
  repeat' ((conv=>whnf);first|refine aQ (by decide) ?_|refine bf ?_|refine aq ?_|(refine ae ?_ ?_<;>intro h))
  (conv=>whnf)
  refine CallG.stop ?_;refine aG 629 (h4 trivial) (λQ hr hg=>?_)
  refine kV hg ?_;rfl
theorem aaB (s:List UInt8)(hs:s.length<4294967281)(t0:List UInt8)(hc0:ag s=(ce,t0))(w t:List UInt8)(hc:ag t0=(w,t))(hw:w=iC)(ho:bg t=true):ab G 593 [.str s] [] (mR (ix 8 true (n32 t))):=by
 have h0:=am s (by omega)
 rw[hc0] at h0;have hl0:t0.length<=s.length:=by have:=(aW s).2;rw[hc0] at this;exact this
 have h1:=am t0 (by omega)
 rw[hc] at h1;have hl:t.length<=t0.length:=by have:=(aW t0).2;rw[hc] at this;exact this
 dsimp only at*;unfold ce at*;have h3:=aY t (by omega)
 rw[Ad ho] at h3;unfold iC at hw;subst hw;have h4:=bC t (by omega)
 cases hq:n32 t with
 |some v=>
  rw[hq] at h4;unfold vF at h4;refine gvC (F:=dw) ?_
  repeat' ((conv=>whnf);first|refine aQ (by decide) ?_|refine bf ?_|refine aq ?_|(refine ae ?_ ?_<;>intro h))
  refine ax ?_;(conv=>whnf);refine Go.AM.finC ?_;rfl
 |none=>
  rw[hq] at h4;replace h4:=λ(_:True)=>h4
  refine gvC (F:=dw) ?_
  repeat' ((conv=>whnf);first|refine aQ (by decide) ?_|refine bf ?_|refine aq ?_|(refine ae ?_ ?_<;>intro h))
  (conv=>whnf)
  refine CallG.stop ?_;refine aG 629 (h4 trivial) (λQ hr hg=>?_)
  refine kV hg ?_;rfl
theorem aaC (s:List UInt8)(hs:s.length<4294967281)(t0:List UInt8)(hc0:ag s=(ce,t0))(w t:List UInt8)(hc:ag t0=(w,t))(hw:w=iG)(ho:bg t=true):ab G 593 [.str s] [] (mR (if (J.psP t).2=0 then some ⟨7,[],0,(J.psP t).1,true⟩ else none)):=by
 have h0:=am s (by omega)
 rw[hc0] at h0;have hl0:t0.length<=s.length:=by have:=(aW s).2;rw[hc0] at this;exact this
 have h1:=am t0 (by omega)
 rw[hc] at h1;have hl:t.length<=t0.length:=by have:=(aW t0).2;rw[hc] at this;exact this
 dsimp only at*;unfold ce at*;have h3:=aY t (by omega)
 rw[Ad ho] at h3;unfold iG at hw;subst hw;have h4:=J.parse_gives233 t (by omega)
 have h5:=aM true;rw[Ad rfl] at h5;unfold J.pfR at h4;generalize J.psP t=x at*;obtain ⟨⟨a,l⟩,e⟩:=x;dsimp only at*
 by_cases he:e=0
 ·subst he
  rw[Ad rfl];refine gvC (F:=dw) ?_
  repeat' ((conv=>whnf);first|refine aQ (by decide) ?_|refine bf ?_|refine aq ?_|(refine ae ?_ ?_<;>intro h))
  refine ax ?_;(conv=>whnf);refine Go.AM.finC ?_;rfl
 ·have h6:=λ(_:True)=>aM false
  rw[Ac he];refine gvC (F:=dw) ?_
  repeat' ((conv=>whnf);first|refine iR he ?_|refine aQ (by decide) ?_|refine bf ?_|refine aq ?_|(refine ae ?_ ?_<;>intro h))
  (conv=>whnf)
  refine CallG.stop ?_;refine aG 586 (h6 trivial) (λQ hr hg=>?_)
  refine kV hg ?_;rfl
theorem aaJ (s:List UInt8)(hs:s.length<4294967281)(t0:List UInt8)(hc0:ag s=(ce,t0))(w t:List UInt8)(hc:ag t0=(w,t))(n0:w≠cn)(n1:w≠cm)(n2:w≠ck)(n3:w≠iB)(n4:w≠ma)(n5:w≠gu)(n6:w≠iC)(n7:w≠iG)(ho:bg t=true):ab G 593 [.str s] [] (pF 2):=by
 have h0:=am s (by omega)
 rw[hc0] at h0;have hl0:t0.length<=s.length:=by have:=(aW s).2;rw[hc0] at this;exact this
 have h1:=am t0 (by omega)
 rw[hc] at h1;have hl:t.length<=t0.length:=by have:=(aW t0).2;rw[hc] at this;exact this
 dsimp only at*;unfold ce at*;have h3:=aY t (by omega)
 rw[Ad ho] at h3;unfold cn at n0;unfold cm at n1;unfold ck at n2;unfold iB at n3;unfold ma at n4;unfold gu at n5;unfold iC at n6;unfold iG at n7;have h5:=λ(_:True)=>aM false
 refine gvC (F:=dw) ?_
 repeat' ((conv=>whnf);first|refine aQ n0 ?_|refine aQ n1 ?_|refine aQ n2 ?_|refine aQ n3 ?_|refine aQ n4 ?_|refine aQ n5 ?_|refine aQ n6 ?_|refine aQ n7 ?_|refine bf ?_|refine aq ?_|(refine ae ?_ ?_<;>intro h))
 (conv=>whnf)
 refine CallG.stop ?_;refine aG 586 (h5 trivial) (λQ hr hg=>?_)
 refine kV hg ?_;rfl
theorem R8 (s:List UInt8)(hs:s.length<4294967281)(w t:List UInt8)(hc:ag s=(w,t))(hn:w≠ce)(ho: ¬bg t=true):ab G 593 [.str s] [] (pF 2):=by
 have h1:=am s (by omega)
 rw[hc] at h1;have hl:t.length<=s.length:=by have:=(aW s).2;rw[hc] at this;exact this
 dsimp only at*;unfold ce at hn;have h3:=λ(_:True)=>aY t (by omega)
 rw[Ac ho] at h3;refine gvC (F:=dw) ?_
 repeat' ((conv=>whnf);first|refine aQ hn ?_|refine aq ?_|(refine ae ?_ ?_<;>intro h))
 (conv=>whnf)
 refine CallG.stop ?_;refine aG 597 (h3 trivial) (λQ hr hg=>?_)
 refine kV hg ?_;rfl
theorem aaz (s:List UInt8)(hs:s.length<4294967281)(w t:List UInt8)(hc:ag s=(w,t))(hn:w≠ce)(hw:w=cn)(ho:bg t=true):ab G 593 [.str s] [] ⟨.agg (Mat.enc ⟨1,t,0,⟨0,0⟩,false⟩),[]⟩:=by
 have h1:=am s (by omega)
 rw[hc] at h1;have hl:t.length<=s.length:=by have:=(aW s).2;rw[hc] at this;exact this
 dsimp only at*;unfold ce at hn;have h3:=aY t (by omega)
 rw[Ad ho] at h3;unfold cn at hw;subst hw;refine gvC (F:=dw) ?_
 repeat' ((conv=>whnf);first|refine aQ (by decide) ?_|refine bf ?_|refine aq ?_|(refine ae ?_ ?_<;>intro h))
 refine ax ?_;(conv=>whnf);refine Go.AM.finC ?_;rfl
theorem aay (s:List UInt8)(hs:s.length<4294967281)(w t:List UInt8)(hc:ag s=(w,t))(hn:w≠ce)(hw:w=cm)(ho:bg t=true):ab G 593 [.str s] [] ⟨.agg (Mat.enc ⟨2,t,0,⟨0,0⟩,false⟩),[]⟩:=by
 have h1:=am s (by omega)
 rw[hc] at h1;have hl:t.length<=s.length:=by have:=(aW s).2;rw[hc] at this;exact this
 dsimp only at*;unfold ce at hn;have h3:=aY t (by omega)
 rw[Ad ho] at h3;unfold cm at hw;subst hw;refine gvC (F:=dw) ?_
 repeat' ((conv=>whnf);first|refine aQ (by decide) ?_|refine bf ?_|refine aq ?_|(refine ae ?_ ?_<;>intro h))
 refine ax ?_;(conv=>whnf);refine Go.AM.finC ?_;rfl
theorem aax (s:List UInt8)(hs:s.length<4294967281)(w t:List UInt8)(hc:ag s=(w,t))(hn:w≠ce)(hw:w=ck)(ho:bg t=true):ab G 593 [.str s] [] ⟨.agg (Mat.enc ⟨3,t,0,⟨0,0⟩,false⟩),[]⟩:=by
 have h1:=am s (by omega)
 rw[hc] at h1;have hl:t.length<=s.length:=by have:=(aW s).2;rw[hc] at this;exact this
 dsimp only at*;unfold ce at hn;have h3:=aY t (by omega)
 rw[Ad ho] at h3;unfold ck at hw;subst hw;refine gvC (F:=dw) ?_
 repeat' ((conv=>whnf);first|refine aQ (by decide) ?_|refine bf ?_|refine aq ?_|(refine ae ?_ ?_<;>intro h))
 refine ax ?_;(conv=>whnf);refine Go.AM.finC ?_;rfl
theorem aaw (s:List UInt8)(hs:s.length<4294967281)(w t:List UInt8)(hc:ag s=(w,t))(hn:w≠ce)(hw:w=iB)(ho:bg t=true):ab G 593 [.str s] [] (mR (ix 4 false (n32 t))):=by
 have h1:=am s (by omega)
 rw[hc] at h1;have hl:t.length<=s.length:=by have:=(aW s).2;rw[hc] at this;exact this
 dsimp only at*;unfold ce at hn;have h3:=aY t (by omega)
 rw[Ad ho] at h3;unfold iB at hw;subst hw;have h4:=bC t (by omega)
 cases hq:n32 t with
 |some v=>
  rw[hq] at h4;unfold vF at h4;refine gvC (F:=dw) ?_
  repeat' ((conv=>whnf);first|refine aQ (by decide) ?_|refine bf ?_|refine aq ?_|(refine ae ?_ ?_<;>intro h))
  refine ax ?_;(conv=>whnf);refine Go.AM.finC ?_;rfl
 |none=>
  rw[hq] at h4;replace h4:=λ(_:True)=>h4
  refine gvC (F:=dw) ?_
  repeat' ((conv=>whnf);first|refine aQ (by decide) ?_|refine bf ?_|refine aq ?_|(refine ae ?_ ?_<;>intro h))
  (conv=>whnf)
  refine CallG.stop ?_;refine aG 629 (h4 trivial) (λQ hr hg=>?_)
  refine kV hg ?_;rfl
theorem aav (s:List UInt8)(hs:s.length<4294967281)(w t:List UInt8)(hc:ag s=(w,t))(hn:w≠ce)(hw:w=ma)(ho:bg t=true):ab G 593 [.str s] [] (mR (ix 5 false (n32 t))):=by
 have h1:=am s (by omega)
 rw[hc] at h1;have hl:t.length<=s.length:=by have:=(aW s).2;rw[hc] at this;exact this
 dsimp only at*;unfold ce at hn;have h3:=aY t (by omega)
 rw[Ad ho] at h3;unfold ma at hw;subst hw;have h4:=bC t (by omega)
 cases hq:n32 t with
 |some v=>
  rw[hq] at h4;unfold vF at h4;refine gvC (F:=dw) ?_
  repeat' ((conv=>whnf);first|refine aQ (by decide) ?_|refine bf ?_|refine aq ?_|(refine ae ?_ ?_<;>intro h))
  refine ax ?_;(conv=>whnf);refine Go.AM.finC ?_;rfl
 |none=>
  rw[hq] at h4;replace h4:=λ(_:True)=>h4
  refine gvC (F:=dw) ?_
  repeat' ((conv=>whnf);first|refine aQ (by decide) ?_|refine bf ?_|refine aq ?_|(refine ae ?_ ?_<;>intro h))
  (conv=>whnf)
  refine CallG.stop ?_;refine aG 629 (h4 trivial) (λQ hr hg=>?_)
  refine kV hg ?_;rfl
theorem aau (s:List UInt8)(hs:s.length<4294967281)(w t:List UInt8)(hc:ag s=(w,t))(hn:w≠ce)(hw:w=gu)(ho:bg t=true):ab G 593 [.str s] [] (mR (ix 6 false (n32 t))):=by
 have h1:=am s (by omega)
 rw[hc] at h1;have hl:t.length<=s.length:=by have:=(aW s).2;rw[hc] at this;exact this
 dsimp only at*;unfold ce at hn;have h3:=aY t (by omega)
 rw[Ad ho] at h3;unfold gu at hw;subst hw;have h4:=bC t (by omega)
 cases hq:n32 t with
 |some v=>
  rw[hq] at h4;unfold vF at h4;refine gvC (F:=dw) ?_
  repeat' ((conv=>whnf);first|refine aQ (by decide) ?_|refine bf ?_|refine aq ?_|(refine ae ?_ ?_<;>intro h))
  refine ax ?_;(conv=>whnf);refine Go.AM.finC ?_;rfl
 |none=>
  rw[hq] at h4;replace h4:=λ(_:True)=>h4
  refine gvC (F:=dw) ?_
  repeat' ((conv=>whnf);first|refine aQ (by decide) ?_|refine bf ?_|refine aq ?_|(refine ae ?_ ?_<;>intro h))
  (conv=>whnf)
  refine CallG.stop ?_;refine aG 629 (h4 trivial) (λQ hr hg=>?_)
  refine kV hg ?_;rfl
theorem aas (s:List UInt8)(hs:s.length<4294967281)(w t:List UInt8)(hc:ag s=(w,t))(hn:w≠ce)(hw:w=iC)(ho:bg t=true):ab G 593 [.str s] [] (mR (ix 8 false (n32 t))):=by
 have h1:=am s (by omega)
 rw[hc] at h1;have hl:t.length<=s.length:=by have:=(aW s).2;rw[hc] at this;exact this
 dsimp only at*;unfold ce at hn;have h3:=aY t (by omega)
 rw[Ad ho] at h3;unfold iC at hw;subst hw;have h4:=bC t (by omega)
 cases hq:n32 t with
 |some v=>
  rw[hq] at h4;unfold vF at h4;refine gvC (F:=dw) ?_
  repeat' ((conv=>whnf);first|refine aQ (by decide) ?_|refine bf ?_|refine aq ?_|(refine ae ?_ ?_<;>intro h))
  refine ax ?_;(conv=>whnf);refine Go.AM.finC ?_;rfl
 |none=>
  rw[hq] at h4;replace h4:=λ(_:True)=>h4
  refine gvC (F:=dw) ?_
  repeat' ((conv=>whnf);first|refine aQ (by decide) ?_|refine bf ?_|refine aq ?_|(refine ae ?_ ?_<;>intro h))
  (conv=>whnf)
  refine CallG.stop ?_;refine aG 629 (h4 trivial) (λQ hr hg=>?_)
  refine kV hg ?_;rfl
theorem aat (s:List UInt8)(hs:s.length<4294967281)(w t:List UInt8)(hc:ag s=(w,t))(hn:w≠ce)(hw:w=iG)(ho:bg t=true):ab G 593 [.str s] [] (mR (if (J.psP t).2=0 then some ⟨7,[],0,(J.psP t).1,false⟩ else none)):=by
 have h1:=am s (by omega)
 rw[hc] at h1;have hl:t.length<=s.length:=by have:=(aW s).2;rw[hc] at this;exact this
 dsimp only at*;unfold ce at hn;have h3:=aY t (by omega)
 rw[Ad ho] at h3;unfold iG at hw;subst hw;have h4:=J.parse_gives233 t (by omega)
 have h5:=aM true;rw[Ad rfl] at h5;unfold J.pfR at h4;generalize J.psP t=x at*;obtain ⟨⟨a,l⟩,e⟩:=x;dsimp only at*
 by_cases he:e=0
 ·subst he
  rw[Ad rfl];refine gvC (F:=dw) ?_
  repeat' ((conv=>whnf);first|refine aQ (by decide) ?_|refine bf ?_|refine aq ?_|(refine ae ?_ ?_<;>intro h))
  refine ax ?_;(conv=>whnf);refine Go.AM.finC ?_;rfl
 ·have h6:=λ(_:True)=>aM false
  rw[Ac he];refine gvC (F:=dw) ?_
  repeat' ((conv=>whnf);first|refine iR he ?_|refine aQ (by decide) ?_|refine bf ?_|refine aq ?_|(refine ae ?_ ?_<;>intro h))
  (conv=>whnf)
  refine CallG.stop ?_;refine aG 586 (h6 trivial) (λQ hr hg=>?_)
  refine kV hg ?_;rfl
theorem aaA (s:List UInt8)(hs:s.length<4294967281)(w t:List UInt8)(hc:ag s=(w,t))(hn:w≠ce)(n0:w≠cn)(n1:w≠cm)(n2:w≠ck)(n3:w≠iB)(n4:w≠ma)(n5:w≠gu)(n6:w≠iC)(n7:w≠iG)(ho:bg t=true):ab G 593 [.str s] [] (pF 2):=by
 have h1:=am s (by omega)
 rw[hc] at h1;have hl:t.length<=s.length:=by have:=(aW s).2;rw[hc] at this;exact this
 dsimp only at*;unfold ce at hn;have h3:=aY t (by omega)
 rw[Ad ho] at h3;unfold cn at n0;unfold cm at n1;unfold ck at n2;unfold iB at n3;unfold ma at n4;unfold gu at n5;unfold iC at n6;unfold iG at n7;have h5:=λ(_:True)=>aM false
 refine gvC (F:=dw) ?_
 repeat' ((conv=>whnf);first|refine aQ n0 ?_|refine aQ n1 ?_|refine aQ n2 ?_|refine aQ n3 ?_|refine aQ n4 ?_|refine aQ n5 ?_|refine aQ n6 ?_|refine aQ n7 ?_|refine aQ hn ?_|refine aq ?_|(refine ae ?_ ?_<;>intro h))
 (conv=>whnf)
 refine CallG.stop ?_;refine aG 586 (h5 trivial) (λQ hr hg=>?_)
 refine kV hg ?_;rfl
theorem Vx {s:List UInt8}{p:List UInt8×List UInt8}{ng:Bool}(hw: ¬bg p.2=true->ab G 593 [.str s] [] (pF 2))(h1:p.1=cn->bg p.2=true->ab G 593 [.str s] [] ⟨.agg (Mat.enc ⟨1,p.2,0,⟨0,0⟩,ng⟩),[]⟩)(h2:p.1=cm->bg p.2=true->ab G 593 [.str s] [] ⟨.agg (Mat.enc ⟨2,p.2,0,⟨0,0⟩,ng⟩),[]⟩)(h3:p.1=ck->bg p.2=true->ab G 593 [.str s] [] ⟨.agg (Mat.enc ⟨3,p.2,0,⟨0,0⟩,ng⟩),[]⟩)
  (h4:p.1=iB->bg p.2=true->ab G 593 [.str s] [] (mR (ix 4 ng (n32 p.2)))) (h5:p.1=ma->bg p.2=true->ab G 593 [.str s] [] (mR (ix 5 ng (n32 p.2)))) (h6:p.1=gu->bg p.2=true->ab G 593 [.str s] [] (mR (ix 6 ng (n32 p.2)))) (h8:p.1=iC->bg p.2=true->ab G 593 [.str s] [] (mR (ix 8 ng (n32 p.2))))
  (h7:p.1=iG->bg p.2=true->ab G 593 [.str s] [] (mR (if (J.psP p.2).2=0 then some ⟨7,[],0,(J.psP p.2).1,ng⟩ else none)))
  (h0:p.1≠cn->p.1≠cm->p.1≠ck->p.1≠iB->p.1≠ma->p.1≠gu->p.1≠iC->p.1≠iG->bg p.2=true->ab G 593 [.str s] [] (pF 2)):ab G 593 [.str s] [] (mR (qX p ng)):=by
 unfold qX qY
 by_cases ho:bg p.2=true
 ·rw[Ad ho]
  by_cases c1:p.1=cn
  ·rw[Ad c1];exact h1 c1 ho
  rw[Ac c1]
  by_cases c2:p.1=cm
  ·rw[Ad c2];exact h2 c2 ho
  rw[Ac c2]
  by_cases c3:p.1=ck
  ·rw[Ad c3];exact h3 c3 ho
  rw[Ac c3]
  by_cases c4:p.1=iB
  ·rw[Ad c4];exact h4 c4 ho
  rw[Ac c4]
  by_cases c5:p.1=ma
  ·rw[Ad c5];exact h5 c5 ho
  rw[Ac c5]
  by_cases c6:p.1=gu
  ·rw[Ad c6];exact h6 c6 ho
  rw[Ac c6]
  by_cases c8:p.1=iC
  ·rw[Ad c8];exact h8 c8 ho
  rw[Ac c8]
  by_cases c7:p.1=iG
  ·rw[Ad c7];exact h7 c7 ho
  rw[Ac c7];exact h0 c1 c2 c3 c4 c5 c6 c8 c7 ho
 ·rw[Ac ho];exact hw ho
theorem km (s:List UInt8)(hs:s.length<4294967281):ab G 593 [.str s] [] (mR (ic s)):=by
 unfold ic
 by_cases c:(ag s).1=ce
 ·rw[Ad c]
  have e:ag s=(ce,(ag s).2):=by rw[<-c]
  have f:=(rfl:ag (ag s).2=((ag (ag s).2).1,(ag (ag s).2).2));exact Vx (λa=>Sa s hs _ e _ _ f a) (λa b=>aaI s hs _ e _ _ f a b) (λa b=>aaH s hs _ e _ _ f a b) (λa b=>aaG s hs _ e _ _ f a b) (λa b=>aaF s hs _ e _ _ f a b) (λa b=>aaE s hs _ e _ _ f a b) (λa b=>aaD s hs _ e _ _ f a b) (λa b=>aaB s hs _ e _ _ f a b) (λa b=>aaC s hs _ e _ _ f a b) (λa1 a2 a3 a4 a5 a6 a7 a8 b=>aaJ s hs _ e _ _ f a1 a2 a3 a4 a5 a6 a7 a8 b)
 ·rw[Ac c]
  have f:=(rfl:ag s=((ag s).1,(ag s).2));exact Vx (λa=>R8 s hs _ _ f c a) (λa b=>aaz s hs _ _ f c a b) (λa b=>aay s hs _ _ f c a b) (λa b=>aax s hs _ _ f c a b) (λa b=>aaw s hs _ _ f c a b) (λa b=>aav s hs _ _ f c a b) (λa b=>aau s hs _ _ f c a b) (λa b=>aas s hs _ _ f c a b) (λa b=>aat s hs _ _ f c a b) (λa1 a2 a3 a4 a5 a6 a7 a8 b=>aaA s hs _ _ f c a1 a2 a3 a4 a5 a6 a7 a8 b)
end Go.AM.IR
namespace Go.AM.IR
theorem Sx (e1 e2 e3 e4 rl:List (List AV))(p1:aa e1=true)(p2:aa e2=true)(p3:aa e3=true)(p4:aa e4=true)(pr:aa rl=true)(k1 k2 k3 k4:List (List UInt8))(so:Int)(pol trm:Bool)(nm:List UInt8)(n:Nat)(l1:e1.length<2^30)(l2:e2.length<2^30)(l3:e3.length<2^30)(l4:e4.length<2^30)(hn:n=e1.length+1)(s:List UInt8)(hs:s.length<4294967281)(hq:br (ag s).1=0):ab G 585 [.ref 0 0 0,.str s] (bP n e2.length e3.length e4.length so pol trm (e1++[[AV.str nm,AV.vs 9 0 rl.length]]) e2 e3 e4 k1 k2 k3 k4 [.vec 5 rl]) ⟨.bool false,rP n e2.length e3.length e4.length so pol trm (.nest 2 e1 [[AV.str nm,AV.vs 9 0 rl.length]]) (.vec 2 e2) (.vec 2 e3) (.vec 3 e4) k1 k2 k3 k4 [(true,.vec 5 rl)]⟩:=by
 unfold bP rP;have h0:=am s (by omega)
 obtain ⟨h1,h2,h3,h4⟩:=nW hq;generalize ag s=ct at*;obtain ⟨w,t⟩:=ct;dsimp only at*;unfold cn at h1;unfold cm at h2;unfold ck at h3;unfold fg at h4;refine gvC (F:=fm) ?_
 repeat' ((conv=>whnf);first|refine aQ h1 ?_|refine aQ h2 ?_|refine aQ h3 ?_|refine aQ h4 ?_|refine aq ?_|(refine ae ?_ ?_<;>intro h))
 (first|refine cG kj [] [true,true,true,true,true,true,true,true,true,true] ?_|refine cH kj [] [true,true,true,true,true,true,true,true,true,true] ?_)
 rfl
theorem KM (e1 e2 e3 e4 rl:List (List AV))(p1:aa e1=true)(p2:aa e2=true)(p3:aa e3=true)(p4:aa e4=true)(pr:aa rl=true)(k1 k2 k3 k4:List (List UInt8))(so:Int)(pol trm:Bool)(nm:List UInt8)(n:Nat)(l1:e1.length<2^30)(l2:e2.length<2^30)(l3:e3.length<2^30)(l4:e4.length<2^30)(hn:n=e2.length+1)(s:List UInt8)(hs:s.length<4294967281)(hq:br (ag s).1=0):ab G 585 [.ref 0 0 0,.str s] (bP e1.length n e3.length e4.length so pol trm e1 (e2++[[AV.str nm,AV.vs 9 0 rl.length]]) e3 e4 k1 k2 k3 k4 [.vec 2 rl]) ⟨.bool false,rP e1.length n e3.length e4.length so pol trm (.vec 2 e1) (.nest 2 e2 [[AV.str nm,AV.vs 9 0 rl.length]]) (.vec 2 e3) (.vec 3 e4) k1 k2 k3 k4 [(true,.vec 2 rl)]⟩:=by
 unfold bP rP;have h0:=am s (by omega)
 obtain ⟨h1,h2,h3,h4⟩:=nW hq;generalize ag s=ct at*;obtain ⟨w,t⟩:=ct;dsimp only at*;unfold cn at h1;unfold cm at h2;unfold ck at h3;unfold fg at h4;refine gvC (F:=fm) ?_
 repeat' ((conv=>whnf);first|refine aQ h1 ?_|refine aQ h2 ?_|refine aQ h3 ?_|refine aQ h4 ?_|refine aq ?_|(refine ae ?_ ?_<;>intro h))
 (first|refine cG jx [] [true,true,true,true,true,true,true,true,true,true] ?_|refine cH jx [] [true,true,true,true,true,true,true,true,true,true] ?_)
 rfl
theorem hn_3 (e1 e2 e3 e4 rl:List (List AV))(p1:aa e1=true)(p2:aa e2=true)(p3:aa e3=true)(p4:aa e4=true)(pr:aa rl=true)(k1 k2 k3 k4:List (List UInt8))(so:Int)(pol trm:Bool)(nm:List UInt8)(n:Nat)(l1:e1.length<2^30)(l2:e2.length<2^30)(l3:e3.length<2^30)(l4:e4.length<2^30)(hn:n=e3.length+1)(s:List UInt8)(hs:s.length<4294967281)(hq:br (ag s).1=0):ab G 585 [.ref 0 0 0,.str s] (bP e1.length e2.length n e4.length so pol trm e1 e2 (e3++[[AV.str nm,AV.vs 9 0 rl.length]]) e4 k1 k2 k3 k4 [.vec 3 rl]) ⟨.bool false,rP e1.length e2.length n e4.length so pol trm (.vec 2 e1) (.vec 2 e2) (.nest 2 e3 [[AV.str nm,AV.vs 9 0 rl.length]]) (.vec 3 e4) k1 k2 k3 k4 [(true,.vec 3 rl)]⟩:=by
 unfold bP rP;have h0:=am s (by omega)
 obtain ⟨h1,h2,h3,h4⟩:=nW hq;generalize ag s=ct at*;obtain ⟨w,t⟩:=ct;dsimp only at*;unfold cn at h1;unfold cm at h2;unfold ck at h3;unfold fg at h4;refine gvC (F:=fm) ?_
 repeat' ((conv=>whnf);first|refine aQ h1 ?_|refine aQ h2 ?_|refine aQ h3 ?_|refine aQ h4 ?_|refine aq ?_|(refine ae ?_ ?_<;>intro h))
 (first|refine cG jb [] [true,true,true,true,true,true,true,true,true,true] ?_|refine cH jb [] [true,true,true,true,true,true,true,true,true,true] ?_)
 rfl
theorem Xb (e1 e2 e3 e4 rl:List (List AV))(p1:aa e1=true)(p2:aa e2=true)(p3:aa e3=true)(p4:aa e4=true)(pr:aa rl=true)(k1 k2 k3 k4:List (List UInt8))(pol trm:Bool)(nm:List UInt8)(n:Nat)(l1:e1.length<2^30)(l2:e2.length<2^30)(l3:e3.length<2^30)(l4:e4.length<2^30)(hn:n=e1.length+1)(s:List UInt8)(hs:s.length<4294967281)(hq:br (ag s).1=0)(hb:(J.plP s).2≠0):ab G 541 [.ref 0 0 0,.str s] (bP n e2.length e3.length e4.length 1 pol trm (e1++[[AV.str nm,AV.vs 9 0 rl.length]]) e2 e3 e4 k1 k2 k3 k4 [.vec 5 rl]) ⟨pnV (.ifc 138 (.agg [.int .i64 2])),rP n e2.length e3.length e4.length 1 pol trm (.nest 2 e1 [[AV.str nm,AV.vs 9 0 rl.length]]) (.vec 2 e2) (.vec 2 e3) (.vec 3 e4) k1 k2 k3 k4 [(true,.vec 5 rl)]⟩:=by
 unfold bP rP;have h0:=Sx e1 e2 e3 e4 rl p1 p2 p3 p4 pr k1 k2 k3 k4 1 pol trm nm n l1 l2 l3 l4 hn s hs hq;have hx:(e1++[[AV.str nm,AV.vs 9 0 rl.length]])[((n:Int)-1).toNat]? =some [AV.str nm,AV.vs 9 0 rl.length]:=by rw[hn];simp
 have hset: ∀y x:List AV,(e1++[y]).set ((n:Int)-1).toNat x=e1++[x]:=λy x=>by rw[hn];simp
 have h2:=λ(_:True)=>aM false
 have h3:=J.parse_gives334 s hs;unfold J.prR5 J.PRule.enc at h3;generalize J.plP s=x at*;obtain ⟨⟨v,⟨pa,pl⟩,mn,mx⟩,e⟩:=x;dsimp only at*;have hb': ¬e=0:=hb;refine gvB (F:=iP) ?_
 (conv=>whnf)
 refine kP kj [] ⟨rfl,rfl,rfl,rfl,rfl,rfl,rfl,rfl,rfl,rfl,trivial⟩ trivial h0 ?_
 repeat' ((conv=>whnf);first|refine iR hb' ?_|refine aq ?_|(refine ae ?_ ?_<;>intro h))
 (conv=>whnf)
 refine CallG.stop ?_;refine aG 586 (h2 trivial) (λQ hr hg=>?_)
 refine kV hg ?_;refine bl kj [] [true,true,true,true,true,true,true,true,true,true] ?_;rfl
theorem Ru (e1 e2 e3 e4 rl:List (List AV))(p1:aa e1=true)(p2:aa e2=true)(p3:aa e3=true)(p4:aa e4=true)(pr:aa rl=true)(k1 k2 k3 k4:List (List UInt8))(pol trm:Bool)(nm:List UInt8)(n:Nat)(l1:e1.length<2^30)(l2:e2.length<2^30)(l3:e3.length<2^30)(l4:e4.length<2^30)(hn:n=e1.length+1)(s:List UInt8)(hs:s.length<4294967281)(hq:br (ag s).1=0)(hb:(J.plP s).2=0)(hk:64<=rl.length):ab G 541 [.ref 0 0 0,.str s] (bP n e2.length e3.length e4.length 1 pol trm (e1++[[AV.str nm,AV.vs 9 0 rl.length]]) e2 e3 e4 k1 k2 k3 k4 [.vec 5 rl]) ⟨pnV (.ifc 138 (.agg [.int .i64 4])),rP n e2.length e3.length e4.length 1 pol trm (.nest 2 e1 [[AV.str nm,AV.vs 9 0 rl.length]]) (.vec 2 e2) (.vec 2 e3) (.vec 3 e4) k1 k2 k3 k4 [(true,.vec 5 rl)]⟩:=by
 unfold bP rP;have h0:=Sx e1 e2 e3 e4 rl p1 p2 p3 p4 pr k1 k2 k3 k4 1 pol trm nm n l1 l2 l3 l4 hn s hs hq;have hx:(e1++[[AV.str nm,AV.vs 9 0 rl.length]])[((n:Int)-1).toNat]? =some [AV.str nm,AV.vs 9 0 rl.length]:=by rw[hn];simp
 have hset: ∀y x:List AV,(e1++[y]).set ((n:Int)-1).toNat x=e1++[x]:=λy x=>by rw[hn];simp
 have h2:=aM true;rw[Ad rfl] at h2;have h3:=J.parse_gives334 s hs;unfold J.prR5 J.PRule.enc at h3;rw[hb] at h3;generalize (J.plP s).1=x at*;obtain ⟨v,⟨pa,pl⟩,mn,mx⟩:=x;dsimp only at*
 have h4:True->ab G 587 [.int .i64 (rl.length:Int)] [] (pF 4):=λ_=>by
  have:=bR (rl.length:Int);rwa [Ac (by omega)] at this
 refine gvB (F:=iP) ?_
 (conv=>whnf)
 refine kP kj [] ⟨rfl,rfl,rfl,rfl,rfl,rfl,rfl,rfl,rfl,rfl,trivial⟩ trivial h0 ?_
 repeat' (first|refine bb ?_|(refine ae ?_ ?_<;>intro h))
 (conv=>whnf)
 refine CallG.stop ?_;refine aG 587 (h4 trivial) (λQ hr hg=>?_)
 refine kV hg ?_;refine bl kj [] [true,true,true,true,true,true,true,true,true,true] ?_;rfl
theorem ZC (e1 e2 e3 e4 rl:List (List AV))(p1:aa e1=true)(p2:aa e2=true)(p3:aa e3=true)(p4:aa e4=true)(pr:aa rl=true)(k1 k2 k3 k4:List (List UInt8))(pol trm:Bool)(nm:List UInt8)(n:Nat)(l1:e1.length<2^30)(l2:e2.length<2^30)(l3:e3.length<2^30)(l4:e4.length<2^30)(hn:n=e1.length+1)(s:List UInt8)(hs:s.length<4294967281)(hq:br (ag s).1=0)(hb:(J.plP s).2=0)(hk:rl.length<64):ab G 541 [.ref 0 0 0,.str s] (bP n e2.length e3.length e4.length 1 pol trm (e1++[[AV.str nm,AV.vs 9 0 rl.length]]) e2 e3 e4 k1 k2 k3 k4 [.vec 5 rl]) ⟨.tup [],rP n e2.length e3.length e4.length 1 pol trm (.nest 2 e1 [[AV.str nm,AV.vs 9 0 (rl.length+1)]]) (.vec 2 e2) (.vec 2 e3) (.vec 3 e4) k1 k2 k3 k4 [(false,.vec 5 (rl++[(J.plP s).1.enc]))]⟩:=by
 unfold bP rP;have h0:=Sx e1 e2 e3 e4 rl p1 p2 p3 p4 pr k1 k2 k3 k4 1 pol trm nm n l1 l2 l3 l4 hn s hs hq;have hx:(e1++[[AV.str nm,AV.vs 9 0 rl.length]])[((n:Int)-1).toNat]? =some [AV.str nm,AV.vs 9 0 rl.length]:=by rw[hn];simp
 have hset: ∀y x:List AV,(e1++[y]).set ((n:Int)-1).toNat x=e1++[x]:=λy x=>by rw[hn];simp
 have h2:=aM true;rw[Ad rfl] at h2;have h3:=J.parse_gives334 s hs;unfold J.prR5 at h3;unfold J.PRule.enc at*;rw[hb] at h3;generalize (J.plP s).1=x at*;obtain ⟨v,⟨pa,pl⟩,mn,mx⟩:=x;dsimp only at*
 have h4:ab G 587 [.int .i64 (rl.length:Int)] [] ⟨.tup [],[]⟩:=by
  have:=bR (rl.length:Int);rwa [Ad (by omega)] at this
 refine gvB (F:=iP) ?_
 (conv=>whnf)
 refine kP kj [] ⟨rfl,rfl,rfl,rfl,rfl,rfl,rfl,rfl,rfl,rfl,trivial⟩ trivial h0 ?_
 repeat' (first|refine bb ?_|(refine ae ?_ ?_<;>intro h))
 (conv=>whnf)
 rw[hset]
 (first|refine cG kj [] [true,true,true,true,true,true,true,true,true,false] ?_|refine cH kj [] [true,true,true,true,true,true,true,true,true,false] ?_)
 rfl
theorem RB (e1 e2 e3 e4 rl:List (List AV))(p1:aa e1=true)(p2:aa e2=true)(p3:aa e3=true)(p4:aa e4=true)(pr:aa rl=true)(k1 k2 k3 k4:List (List UInt8))(pol trm:Bool)(nm:List UInt8)(n:Nat)(l1:e1.length<2^30)(l2:e2.length<2^30)(l3:e3.length<2^30)(l4:e4.length<2^30)(hn:n=e2.length+1)(s:List UInt8)(hs:s.length<4294967281)(hq:br (ag s).1=0)(hP:cR s=none):ab G 541 [.ref 0 0 0,.str s] (bP e1.length n e3.length e4.length 2 pol trm e1 (e2++[[AV.str nm,AV.vs 9 0 rl.length]]) e3 e4 k1 k2 k3 k4 [.vec 2 rl]) ⟨pnV (.ifc 138 (.agg [.int .i64 2])),rP e1.length n e3.length e4.length 2 pol trm (.vec 2 e1) (.nest 2 e2 [[AV.str nm,AV.vs 9 0 rl.length]]) (.vec 2 e3) (.vec 3 e4) k1 k2 k3 k4 [(true,.vec 2 rl)]⟩:=by
 unfold bP rP;have h0:=KM e1 e2 e3 e4 rl p1 p2 p3 p4 pr k1 k2 k3 k4 2 pol trm nm n l1 l2 l3 l4 hn s hs hq;have hx:(e2++[[AV.str nm,AV.vs 9 0 rl.length]])[((n:Int)-1).toNat]? =some [AV.str nm,AV.vs 9 0 rl.length]:=by rw[hn];simp
 have hset: ∀y x:List AV,(e2++[y]).set ((n:Int)-1).toNat x=e2++[x]:=λy x=>by rw[hn];simp
 have h3:=λ(_:True)=>fQ s (by omega)
 rw[hP] at h3;refine gvB (F:=iP) ?_
 (conv=>whnf)
 refine kP jx [] ⟨rfl,rfl,rfl,rfl,rfl,rfl,rfl,rfl,rfl,rfl,trivial⟩ trivial h0 ?_
 repeat' (first|refine bb ?_|(refine ae ?_ ?_<;>intro h))
 (conv=>whnf)
 refine CallG.stop ?_;refine aG 588 (h3 trivial) (λQ hr hg=>?_)
 refine kV hg ?_;refine bl jx [] [true,true,true,true,true,true,true,true,true,true] ?_;rfl
theorem Xg (e1 e2 e3 e4 rl:List (List AV))(p1:aa e1=true)(p2:aa e2=true)(p3:aa e3=true)(p4:aa e4=true)(pr:aa rl=true)(k1 k2 k3 k4:List (List UInt8))(pol trm:Bool)(nm:List UInt8)(n:Nat)(l1:e1.length<2^30)(l2:e2.length<2^30)(l3:e3.length<2^30)(l4:e4.length<2^30)(hn:n=e2.length+1)(s:List UInt8)(hs:s.length<4294967281)(hq:br (ag s).1=0)(b:Bool)(t:List UInt8)(hP:cR s=some (b,t))(hx5:fu t=none):ab G 541 [.ref 0 0 0,.str s] (bP e1.length n e3.length e4.length 2 pol trm e1 (e2++[[AV.str nm,AV.vs 9 0 rl.length]]) e3 e4 k1 k2 k3 k4 [.vec 2 rl]) ⟨pnV (.ifc 138 (.agg [.int .i64 2])),rP e1.length n e3.length e4.length 2 pol trm (.vec 2 e1) (.nest 2 e2 [[AV.str nm,AV.vs 9 0 rl.length]]) (.vec 2 e3) (.vec 3 e4) k1 k2 k3 k4 [(true,.vec 2 rl)]⟩:=by
 unfold bP rP;have h0:=KM e1 e2 e3 e4 rl p1 p2 p3 p4 pr k1 k2 k3 k4 2 pol trm nm n l1 l2 l3 l4 hn s hs hq;have hx:(e2++[[AV.str nm,AV.vs 9 0 rl.length]])[((n:Int)-1).toNat]? =some [AV.str nm,AV.vs 9 0 rl.length]:=by rw[hn];simp
 have hset: ∀y x:List AV,(e2++[y]).set ((n:Int)-1).toNat x=e2++[x]:=λy x=>by rw[hn];simp
 have ht:=nL hP;have h3:=fQ s (by omega)
 rw[hP] at h3;unfold u6 at h3;obtain ⟨k,lo,hi,l,h5⟩:=m8 t (by omega)
 rw[hx5,Ac (by simp)] at h5
 have h2:=λ(_:True)=>aM false
 refine gvB (F:=iP) ?_
 (conv=>whnf)
 refine kP jx [] ⟨rfl,rfl,rfl,rfl,rfl,rfl,rfl,rfl,rfl,rfl,trivial⟩ trivial h0 ?_
 repeat' (first|refine bb ?_|(refine ae ?_ ?_<;>intro h))
 (conv=>whnf)
 refine CallG.stop ?_;refine aG 586 (h2 trivial) (λQ hr hg=>?_)
 refine kV hg ?_;refine bl jx [] [true,true,true,true,true,true,true,true,true,true] ?_;rfl
theorem RC (e1 e2 e3 e4 rl:List (List AV))(p1:aa e1=true)(p2:aa e2=true)(p3:aa e3=true)(p4:aa e4=true)(pr:aa rl=true)(k1 k2 k3 k4:List (List UInt8))(pol trm:Bool)(nm:List UInt8)(n:Nat)(l1:e1.length<2^30)(l2:e2.length<2^30)(l3:e3.length<2^30)(l4:e4.length<2^30)(hn:n=e2.length+1)(s:List UInt8)(hs:s.length<4294967281)(hq:br (ag s).1=0)(b:Bool)(t:List UInt8)(hP:cR s=some (b,t))(hx5:(fu t).isSome=true)(hk:64<=rl.length):ab G 541 [.ref 0 0 0,.str s] (bP e1.length n e3.length e4.length 2 pol trm e1 (e2++[[AV.str nm,AV.vs 9 0 rl.length]]) e3 e4 k1 k2 k3 k4 [.vec 2 rl]) ⟨pnV (.ifc 138 (.agg [.int .i64 4])),rP e1.length n e3.length e4.length 2 pol trm (.vec 2 e1) (.nest 2 e2 [[AV.str nm,AV.vs 9 0 rl.length]]) (.vec 2 e3) (.vec 3 e4) k1 k2 k3 k4 [(true,.vec 2 rl)]⟩:=by
 unfold bP rP;have h0:=KM e1 e2 e3 e4 rl p1 p2 p3 p4 pr k1 k2 k3 k4 2 pol trm nm n l1 l2 l3 l4 hn s hs hq;have hx:(e2++[[AV.str nm,AV.vs 9 0 rl.length]])[((n:Int)-1).toNat]? =some [AV.str nm,AV.vs 9 0 rl.length]:=by rw[hn];simp
 have hset: ∀y x:List AV,(e2++[y]).set ((n:Int)-1).toNat x=e2++[x]:=λy x=>by rw[hn];simp
 have ht:=nL hP;have h3:=fQ s (by omega)
 rw[hP] at h3;unfold u6 at h3;obtain ⟨k,lo,hi,l,h5⟩:=m8 t (by omega)
 rw[Ad hx5] at h5;have h2:=aM true;rw[Ad rfl] at h2
 have h4:True->ab G 587 [.int .i64 (rl.length:Int)] [] (pF 4):=λ_=>by
  have:=bR (rl.length:Int);rwa [Ac (by omega)] at this
 refine gvB (F:=iP) ?_
 (conv=>whnf)
 refine kP jx [] ⟨rfl,rfl,rfl,rfl,rfl,rfl,rfl,rfl,rfl,rfl,trivial⟩ trivial h0 ?_
 repeat' (first|refine bb ?_|(refine ae ?_ ?_<;>intro h))
 (conv=>whnf)
 refine CallG.stop ?_;refine aG 587 (h4 trivial) (λQ hr hg=>?_)
 refine kV hg ?_;refine bl jx [] [true,true,true,true,true,true,true,true,true,true] ?_;rfl
theorem ZM (e1 e2 e3 e4 rl:List (List AV))(p1:aa e1=true)(p2:aa e2=true)(p3:aa e3=true)(p4:aa e4=true)(pr:aa rl=true)(k1 k2 k3 k4:List (List UInt8))(pol trm:Bool)(nm:List UInt8)(n:Nat)(l1:e1.length<2^30)(l2:e2.length<2^30)(l3:e3.length<2^30)(l4:e4.length<2^30)(hn:n=e2.length+1)(s:List UInt8)(hs:s.length<4294967281)(hq:br (ag s).1=0)(b:Bool)(t:List UInt8)(hP:cR s=some (b,t))(hx5:(fu t).isSome=true)(hk:rl.length<64):ab G 541 [.ref 0 0 0,.str s] (bP e1.length n e3.length e4.length 2 pol trm e1 (e2++[[AV.str nm,AV.vs 9 0 rl.length]]) e3 e4 k1 k2 k3 k4 [.vec 2 rl]) ⟨.tup [],rP e1.length n e3.length e4.length 2 pol trm (.vec 2 e1) (.nest 2 e2 [[AV.str nm,AV.vs 9 0 (rl.length+1)]]) (.vec 2 e3) (.vec 3 e4) k1 k2 k3 k4 [(false,.vec 2 (rl++[[.bool b,.str t]]))]⟩:=by
 unfold bP rP;have h0:=KM e1 e2 e3 e4 rl p1 p2 p3 p4 pr k1 k2 k3 k4 2 pol trm nm n l1 l2 l3 l4 hn s hs hq;have hx:(e2++[[AV.str nm,AV.vs 9 0 rl.length]])[((n:Int)-1).toNat]? =some [AV.str nm,AV.vs 9 0 rl.length]:=by rw[hn];simp
 have hset: ∀y x:List AV,(e2++[y]).set ((n:Int)-1).toNat x=e2++[x]:=λy x=>by rw[hn];simp
 have ht:=nL hP;have h3:=fQ s (by omega)
 rw[hP] at h3;unfold u6 at h3;obtain ⟨k,lo,hi,l,h5⟩:=m8 t (by omega)
 rw[Ad hx5] at h5;have h2:=aM true;rw[Ad rfl] at h2
 have h4:ab G 587 [.int .i64 (rl.length:Int)] [] ⟨.tup [],[]⟩:=by
  have:=bR (rl.length:Int);rwa [Ad (by omega)] at this
 refine gvB (F:=iP) ?_
 (conv=>whnf)
 refine kP jx [] ⟨rfl,rfl,rfl,rfl,rfl,rfl,rfl,rfl,rfl,rfl,trivial⟩ trivial h0 ?_
 repeat' (first|refine bb ?_|(refine ae ?_ ?_<;>intro h))
 (conv=>whnf)
 rw[hset]
 (first|refine cG jx [] [true,true,true,true,true,true,true,true,true,false] ?_|refine cH jx [] [true,true,true,true,true,true,true,true,true,false] ?_)
 rfl
theorem Rk {x lo:Opd}{g key:Nat}{l:List UInt8}{j:Int}{hg:Nat->Option (Nat×Blk)}(h0:0<=j)(h1:j<=l.length):aP (.slstr x (some lo) none) g key [.str l,.int .i64 j] hg=some {res:=.str ((l.drop j.toNat).take (l.length-j.toNat))}:=by
 simp[aP,aP.slBounds,bnd,h0,h1]
def jA:List UInt8->Option (List UInt8×List UInt8)
 | []=>none
 |c::r=>if c=58 then some ([],r) else (jA r).map λp=>(c::p.1,p.2)
theorem qf {d:List UInt8}(h: ∀c∈d,c≠58)(r:List UInt8):jA (d++r)=(jA r).map λp=>(d++p.1,p.2):=by
 induction d with
 |nil=>cases h2:jA r<;>simp[h2]
 |cons c d ih=>
  have hc:c≠58:=h c (by simp)
  simp only[B4,jA,Ac hc,ih λx hx=>h x (by simp[hx])]
  cases jA r<;>simp
def dH (b:Bool)(t:List UInt8)(n:Nat):Int×ComR:=match jA t with
 |none=>(2,⟨b,0,0⟩)
 |some (x,y)=>match iX x with
  |none=>(2,⟨b,0,0⟩)
  |some h=>match iX y with
   |none=>(2,⟨b,0,0⟩)
   |some l=>if n<64 then (dy ⟨b,h,l⟩,⟨b,h,l⟩) else (4,⟨b,0,0⟩)
theorem sY (e1 e2 e3 e4 rl:List (List AV))(p1:aa e1=true)(p2:aa e2=true)(p3:aa e3=true)(p4:aa e4=true)(pr:aa rl=true)(k1 k2 k3 k4:List (List UInt8))(pol trm:Bool)(nm:List UInt8)(n:Nat)(l1:e1.length<2^30)(l2:e2.length<2^30)(l3:e3.length<2^30)(l4:e4.length<2^30)(hn:n=e3.length+1)(b:Bool)(t:List UInt8)(ht:t.length<2^32)(R:Ret)(hbad: ∀e:Int,(dH b t rl.length).1=e->e≠0->R=⟨pnV (.ifc 138 (.agg [.int .i64 e])),mkR [(true,.cells [.vs 1 0 e1.length,.vs 2 0 e2.length,.vs 3 0 n,.vs 4 0 e4.length,.vs 5 0 k1.length,.vs 6 0 k2.length,.vs 7 0 k3.length,.vs 8 0 k4.length,.int .i64 3,.bool pol,.bool trm]),(true,.vec 2 e1),(true,.vec 2 e2),(true,.nest 2 e3 [[AV.str nm,AV.vs 9 0 rl.length]]),(true,.vec 3 e4),(true,.vec 1 (k1.map ah)),(true,.vec 1 (k2.map ah)),(true,.vec 1 (k3.map ah)),(true,.vec 1 (k4.map ah)),(true,.vec 3 rl)]⟩)(hok:(dH b t rl.length).1=0->R=⟨.tup [],mkR [(true,.cells [.vs 1 0 e1.length,.vs 2 0 e2.length,.vs 3 0 n,.vs 4 0 e4.length,.vs 5 0 k1.length,.vs 6 0 k2.length,.vs 7 0 k3.length,.vs 8 0 k4.length,.int .i64 3,.bool pol,.bool trm]),(true,.vec 2 e1),(true,.vec 2 e2),(true,.nest 2 e3 [[AV.str nm,AV.vs 9 0 (rl.length+1)]]),(true,.vec 3 e4),(true,.vec 1 (k1.map ah)),(true,.vec 1 (k2.map ah)),(true,.vec 1 (k3.map ah)),(true,.vec 1 (k4.map ah)),(false,.vec 3 (rl++[(dH b t rl.length).2.enc]))]⟩): ∀(rest done:List UInt8)(T:TV)(H:ap)(c:Nat)(i:Int)(e:t=done++rest)(hi:i=done.length)(hd: ∀x∈done,x≠58)(hc0:0<c),
  Ev G ⟨OL,⟨(15,.int .i64 i)::(12,.er 3 0 ((n:Int)-1).toNat 0)::(14,.str t)::(13,.bool b)::T,(0,some (0,.cells [.vs 1 0 e1.length,.vs 2 0 e2.length,.vs 3 0 n,.vs 4 0 e4.length,.vs 5 0 k1.length,.vs 6 0 k2.length,.vs 7 0 k3.length,.vs 8 0 k4.length,.int .i64 3,.bool pol,.bool trm]))::(1,some (0,.vec 2 e1))::(2,some (0,.vec 2 e2))::(3,some (0,.vec 2 (e3++[[AV.str nm,AV.vs 9 0 rl.length]])))::(4,some (0,.vec 3 e4))::(5,some (0,.vec 1 (k1.map ah)))::(6,some (0,.vec 1 (k2.map ah)))::(7,some (0,.vec 1 (k3.map ah)))::(8,some (0,.vec 1 (k4.map ah)))::(9,some (0,.vec 3 rl))::H,c⟩,[],10⟩ R
 | [],done,T,H,c,i,e,hi,hd,hc0=>by
  have htl:=md0 e;have h2:True->ab G 586 [.bool (decide (i<(t.length:Int)))] [] (pF 2):=λ_=>by rw[An (show¬i<(t.length:Int) by omega)];exact aM false
  have hv:dH b t rl.length=(2,⟨b,0,0⟩):=by rw[e];unfold dH;rw[qf hd];rfl
  rw[hbad 2 (by rw[hv]) (by decide)]
  refine evA ?_
  (conv=>whnf)
  refine CallG.stop ?_;refine aG 586 (h2 trivial) (λQ hr hg=>?_)
  refine kV hg ?_;refine bl jb [] [true,true,true,true,true,true,true,true,true,true] ?_;rfl
 |x::rest,done,T,H,c,i,e,hi,hd,hc0=>by
  have htl:=md e;have hb:t[i.toNat]? =some x:=by rw[e,hi];simp
  have hxl:=x.toNat_lt
  by_cases h:x=58
  ·subst h
   have hv:dH b t rl.length=(match iX done with
    |none=>(2,⟨b,0,0⟩)
    |some h=>match iX rest with
     |none=>(2,⟨b,0,0⟩)
     |some l=>if rl.length<64 then (dy ⟨b,h,l⟩,⟨b,h,l⟩) else (4,⟨b,0,0⟩)):=by
    rw[e];unfold dH;rw[qf hd];simp[jA]
   have ta:List.take (i.toNat-0) (List.drop 0 t)=done:=by rw[e,hi];simp
   have tb:List.take (t.length- (i+1).toNat) (List.drop (i+1).toNat t)=rest:=by
    rw[hi,show ((done.length:Int)+1).toNat=done.length+1 from by omega,e,show done++58::rest=(done++[58])++rest from by simp]
    rw[show done.length+1=(done++[58]).length from by simp,List.drop_left,List.take_of_length_le (by simp;omega)]
   have h6:ab G 589 [.str (List.take (i.toNat-0) (List.drop 0 t))] [] (vF (iX done)):=by rw[ta];exact qm done (by omega)
   have h7:ab G 589 [.str (List.take (t.length- (i+1).toNat) (List.drop (i+1).toNat t))] [] (vF (iX rest)):=by rw[tb];exact qm rest (by omega)
   have hT:ab G 586 [.bool (decide (i<(t.length:Int)))] [] ⟨.tup [],[]⟩:=by rw[Al (show i<(t.length:Int) by omega)];exact aM true
   have hwr:IntKind.wrap .i64 (i+1)=i+1:=jL (by omega) (by omega)
   clear ta tb;rcases ha:iX done with _|va
   ·rw[ha] at hv h6
    replace h6:=λ(_:True)=>h6
    clear h7;rw[hbad 2 (by rw[hv]) (by decide)]
    refine evl ?_
    repeat' (first|refine b8 ?_|(refine ae ?_ ?_<;>intro h))
    (conv=>whnf)
    refine CallG.stop ?_;refine ot 589 [(_,some _),(_,some _),(_,some _),(_,some _),(none,none),(none,none),(_,some _),(none,none)] (h6 trivial) (λQ hr hg=>?_) ⟨rfl,rfl,rfl,rfl,rfl,rfl,rfl,rfl,rfl,rfl,rfl,rfl,rfl,rfl,Rk (x:=.t 152) (g:=0) (key:=0) (hg:=λ_=>none) (by rw[hwr];omega) (by rw[hwr];omega),rfl,.inl rfl,rfl,.inr ⟨_,rfl,by decide⟩,rfl,rfl,rfl,rfl,rfl,.inl rfl,rfl,trivial⟩ (λx hx=>by cases hx)
    refine kV hg ?_;refine bl jb [] [true,true,true,true,true,true,true,true,true,true] ?_;rfl
   rcases hb2:iX rest with _|vb
   ·rw[ha] at hv h6
    rw[hb2] at hv h7;unfold vF at h6;replace h7:=λ(_:True)=>h7
    rw[hbad 2 (by rw[hv]) (by decide)]
    refine evl ?_
    repeat' (first|refine b8 ?_|(refine ae ?_ ?_<;>intro h))
    (conv=>whnf)
    refine CallG.stop ?_;refine ot 589 [(none,none),(_,some _),(none,none)] (h7 trivial) (λQ hr hg=>?_) ⟨.inr ⟨_,rfl,by decide⟩,rfl,rfl,rfl,rfl,rfl,.inl rfl,rfl,trivial⟩ (λx hx=>by cases hx)
    refine kV hg ?_;refine bl jb [] [true,true,true,true,true,true,true,true,true,true] ?_;rfl
   rw[ha] at hv h6;rw[hb2] at hv h7;unfold vF at h6 h7;dsimp only at hv;have hx:(e3++[[AV.str nm,AV.vs 9 0 rl.length]])[((n:Int)-1).toNat]? =some [AV.str nm,AV.vs 9 0 rl.length]:=by rw[hn];simp
   have hset: ∀y x:List AV,(e3++[y]).set ((n:Int)-1).toNat x=e3++[x]:=λy x=>by rw[hn];simp
   by_cases hk:rl.length<64
   case neg=>
    rw[Ac hk] at hv
    have h4:True->ab G 587 [.int .i64 (rl.length:Int)] [] (pF 4):=λ_=>by
     have:=bR (rl.length:Int);rwa [Ac (by omega)] at this
    rw[hbad 4 (by rw[hv]) (by decide)]
    refine evl ?_
    repeat' (first|refine b8 ?_|(refine ae ?_ ?_<;>intro h))
    (conv=>whnf)
    refine CallG.stop ?_;refine aG 587 (h4 trivial) (λQ hr hg=>?_)
    refine kV hg ?_;refine bl jb [] [true,true,true,true,true,true,true,true,true,true] ?_;rfl
   rw[Ad hk] at hv
   have h4:ab G 587 [.int .i64 (rl.length:Int)] [] ⟨.tup [],[]⟩:=by
    have:=bR (rl.length:Int);rwa [Ad (by omega)] at this
   have h8:=rz ⟨b,va,vb⟩
   by_cases hc1:dy ⟨b,va,vb⟩=0
   ·have h9:=bp 0
    rw[Ad rfl] at h9;rw[hc1] at h8 hv;rw[hok (by rw[hv]),hv]
    unfold ComR.enc at*;dsimp only at*;refine evl ?_
    repeat' (first|refine b8 ?_|(refine ae ?_ ?_<;>intro h))
    (conv=>whnf)
    rw[hset]
    (first|refine cG jb [] [true,true,true,true,true,true,true,true,true,false] ?_|refine cH jb [] [true,true,true,true,true,true,true,true,true,false] ?_)
    rfl
   ·have h9:=λ(_:True)=>bp (dy ⟨b,va,vb⟩)
    rw[Ac hc1] at h9;rw[hbad (dy ⟨b,va,vb⟩) (by rw[hv]) hc1]
    unfold ComR.enc at*;dsimp only at*;refine evl ?_
    repeat' (first|refine b8 ?_|(refine ae ?_ ?_<;>intro h))
    (conv=>whnf)
    refine CallG.stop ?_;refine aG 590 (h9 trivial) (λQ hr hg=>?_)
    refine kV hg ?_;refine bl jb [] [true,true,true,true,true,true,true,true,true,true] ?_;rfl
  ·have hne: ¬(x.toNat:Int)=58:=λq=>h (A8.1 (by simpa using (by omega:x.toNat=58)))
   have ih:=λT H c=>sY e1 e2 e3 e4 rl p1 p2 p3 p4 pr k1 k2 k3 k4 pol trm nm n l1 l2 l3 l4 hn b t ht R hbad hok rest (done++[x]) T H c (i+1) (by simp[e]) (by simp[hi]) (by
    intro y hy;rcases Cb.1 hy with hy|hy
    ·exact hd y hy
    ·rw[Cc.1 hy];exact h)
   refine evl ?_
   repeat' (first|refine b8 ?_|(refine ae ?_ ?_<;>intro h))
   refine au [15,12,14,13] [0,1,2,3,4,5,6,7,8,9] ?_;exact ih _ _ _ (by omega)
theorem UL (e1 e2 e3 e4 rl:List (List AV))(p1:aa e1=true)(p2:aa e2=true)(p3:aa e3=true)(p4:aa e4=true)(pr:aa rl=true)(k1 k2 k3 k4:List (List UInt8))(pol trm:Bool)(nm:List UInt8)(n:Nat)(l1:e1.length<2^30)(l2:e2.length<2^30)(l3:e3.length<2^30)(l4:e4.length<2^30)(hn:n=e3.length+1)(s:List UInt8)(hs:s.length<4294967281)(hq:br (ag s).1=0)(hP:cR s=none):ab G 541 [.ref 0 0 0,.str s] (bP e1.length e2.length n e4.length 3 pol trm e1 e2 (e3++[[AV.str nm,AV.vs 9 0 rl.length]]) e4 k1 k2 k3 k4 [.vec 3 rl]) ⟨pnV (.ifc 138 (.agg [.int .i64 2])),rP e1.length e2.length n e4.length 3 pol trm (.vec 2 e1) (.vec 2 e2) (.nest 2 e3 [[AV.str nm,AV.vs 9 0 rl.length]]) (.vec 3 e4) k1 k2 k3 k4 [(true,.vec 3 rl)]⟩:=by
 unfold bP rP;have h0:=hn_3 e1 e2 e3 e4 rl p1 p2 p3 p4 pr k1 k2 k3 k4 3 pol trm nm n l1 l2 l3 l4 hn s hs hq;have hx:(e3++[[AV.str nm,AV.vs 9 0 rl.length]])[((n:Int)-1).toNat]? =some [AV.str nm,AV.vs 9 0 rl.length]:=by rw[hn];simp
 have hset: ∀y x:List AV,(e3++[y]).set ((n:Int)-1).toNat x=e3++[x]:=λy x=>by rw[hn];simp
 have h3:=λ(_:True)=>fQ s (by omega)
 rw[hP] at h3;refine gvB (F:=iP) ?_
 (conv=>whnf)
 refine kP jb [] ⟨rfl,rfl,rfl,rfl,rfl,rfl,rfl,rfl,rfl,rfl,trivial⟩ trivial h0 ?_
 repeat' (first|refine bb ?_|(refine ae ?_ ?_<;>intro h))
 (conv=>whnf)
 refine CallG.stop ?_;refine aG 588 (h3 trivial) (λQ hr hg=>?_)
 refine kV hg ?_;refine bl jb [] [true,true,true,true,true,true,true,true,true,true] ?_;rfl
theorem zW (e1 e2 e3 e4 rl:List (List AV))(p1:aa e1=true)(p2:aa e2=true)(p3:aa e3=true)(p4:aa e4=true)(pr:aa rl=true)(k1 k2 k3 k4:List (List UInt8))(pol trm:Bool)(nm:List UInt8)(n:Nat)(l1:e1.length<2^30)(l2:e2.length<2^30)(l3:e3.length<2^30)(l4:e4.length<2^30)(hn:n=e3.length+1)(s:List UInt8)(hs:s.length<4294967281)(hq:br (ag s).1=0)(b:Bool)(t:List UInt8)(hP:cR s=some (b,t))(R:Ret)(hbad: ∀e:Int,(dH b t rl.length).1=e->e≠0->R=⟨pnV (.ifc 138 (.agg [.int .i64 e])),rP e1.length e2.length n e4.length 3 pol trm (.vec 2 e1) (.vec 2 e2) (.nest 2 e3 [[AV.str nm,AV.vs 9 0 rl.length]]) (.vec 3 e4) k1 k2 k3 k4 [(true,.vec 3 rl)]⟩)(hok:(dH b t rl.length).1=0->R=⟨.tup [],rP e1.length e2.length n e4.length 3 pol trm (.vec 2 e1) (.vec 2 e2) (.nest 2 e3 [[AV.str nm,AV.vs 9 0 (rl.length+1)]]) (.vec 3 e4) k1 k2 k3 k4 [(false,.vec 3 (rl++[(dH b t rl.length).2.enc]))]⟩):ab G 541 [.ref 0 0 0,.str s] (bP e1.length e2.length n e4.length 3 pol trm e1 e2 (e3++[[AV.str nm,AV.vs 9 0 rl.length]]) e4 k1 k2 k3 k4 [.vec 3 rl]) R:=by
 unfold bP;have h0:=hn_3 e1 e2 e3 e4 rl p1 p2 p3 p4 pr k1 k2 k3 k4 3 pol trm nm n l1 l2 l3 l4 hn s hs hq;have hx:(e3++[[AV.str nm,AV.vs 9 0 rl.length]])[((n:Int)-1).toNat]? =some [AV.str nm,AV.vs 9 0 rl.length]:=by rw[hn];simp
 have hset: ∀y x:List AV,(e3++[y]).set ((n:Int)-1).toNat x=e3++[x]:=λy x=>by rw[hn];simp
 have ht:=nL hP;have h3:=fQ s (by omega)
 rw[hP] at h3;unfold u6 at h3;refine gvB (F:=iP) ?_
 (conv=>whnf)
 refine kP jb [] ⟨rfl,rfl,rfl,rfl,rfl,rfl,rfl,rfl,rfl,rfl,trivial⟩ trivial h0 ?_
 repeat' (first|refine bb ?_|(refine ae ?_ ?_<;>intro h))
 refine au [15,12,14,13] [0,1,2,3,4,5,6,7,8,9] ?_;exact sY e1 e2 e3 e4 rl p1 p2 p3 p4 pr k1 k2 k3 k4 pol trm nm n l1 l2 l3 l4 hn b t (by omega) R hbad hok t [] _ _ _ 0 rfl rfl (by simp) (by omega)
end Go.AM.IR
