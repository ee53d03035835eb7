/- What functions of this program give. -/
import Derived.Test.YtomphmeopjpejaaGreatDoorDataI
set_option linter.unusedSectionVars false
set_option linter.unusedVariables false
set_option linter.unusedSimpArgs false
set_option maxHeartbeats 4000000
set_option maxRecDepth 20000
namespace Go.AM.IR
def bR:B5:=[110,111,116]
def ib:B5:=[112,114,111,116,111,99,111,108]
def kM:B5:=[116,97,103]
def fE:B5:=[109,101,116,114,105,99]
def ic:B5:=[112,97,116,104,45,108,101,110,103,116,104]
def gy:B5:=[110,101,120,116,45,104,111,112]
def gJ (k:Int)(ng:Bool)(o:Ds):Option Mat:=match o with
 |some n=>some ⟨k,[],n,⟨0,0⟩,ng⟩
 |none=>none
def Bn (h t:B5)(ng:Bool):Option Mat:=
 if h=cH then some ⟨1,t,0,⟨0,0⟩,ng⟩ else if h=cG then some ⟨2,t,0,⟨0,0⟩,ng⟩ else if h=cz then some ⟨3,t,0,⟨0,0⟩,ng⟩ else
 if h=ib then gJ 4 ng (n32 t) else if h=kM then gJ 5 ng (n32 t) else if h=fE then gJ 6 ng (n32 t) else if h=ic then gJ 8 ng (n32 t) else
 if h=gy then (if (J.psP t).2=0 then some ⟨7,[],0,(J.psP t).1,ng⟩ else none) else none
def uf (p:B5×B5)(ng:Bool):Option Mat:=if bx p.2=true then Bn p.1 p.2 ng else none
def lX (s:B5):Option Mat:=if (aw s).1=bR then uf (aw (aw s).2) true else uf (aw s) false
def mR:Option Mat->Ret
 |some m=>⟨.agg m.enc,[]⟩
 |none=>pF 2
section
variable (s:B5)(hs:s.length<4294967281)(t0:B5)(hc0:aw s=(bR,t0))(w t:B5)(hc:aw t0=(w,t))
include hs hc0 hc
theorem Yc (ho: ¬bx t=true):ag G 593 [.str s] [] (pF 2):=by
 have h0:=aE s (by omega)
 rw[hc0] at h0;have hl0:t0.length<=s.length:=by have:=(bc s).2;rw[hc0] at this;exact this
 have h1:=aE t0 (by omega)
 rw[hc] at h1;have hl:t.length<=t0.length:=by have:=(bc t0).2;rw[hc] at this;exact this
 dsimp only at*;unfold bR at*;have h3:=λ(_:True)=>ba t (by omega)
 rw[Aa ho] at h3;refine gvC (F:=ec) ?_
 repeat' ((conv=>whnf);first|refine bj ?_|refine aq ?_|apply ae<;>intro h)
 (conv=>whnf)
 refine CallG.stop ?_;refine aH 597 (h3 trivial) (λQ hr hg=>?_)
 refine kV hg ?_;rfl
theorem ae2 (hw:w=cH)(ho:bx t=true):ag G 593 [.str s] [] ⟨.agg (Mat.enc ⟨1,t,0,⟨0,0⟩,true⟩),[]⟩:=by
 have h0:=aE s (by omega)
 rw[hc0] at h0;have hl0:t0.length<=s.length:=by have:=(bc s).2;rw[hc0] at this;exact this
 have h1:=aE t0 (by omega)
 rw[hc] at h1;have hl:t.length<=t0.length:=by have:=(bc t0).2;rw[hc] at this;exact this
 dsimp only at*;unfold bR at*;have h3:=ba t (by omega)
 rw[Ac ho] at h3;unfold cH at hw;subst hw;refine gvC (F:=ec) ?_
 repeat' ((conv=>whnf);first|refine bj ?_|refine aq ?_|apply ae<;>intro h)
 refine ap ?_;(conv=>whnf);refine Go.AM.finC ?_;rfl
theorem ae1 (hw:w=cG)(ho:bx t=true):ag G 593 [.str s] [] ⟨.agg (Mat.enc ⟨2,t,0,⟨0,0⟩,true⟩),[]⟩:=by
 have h0:=aE s (by omega)
 rw[hc0] at h0;have hl0:t0.length<=s.length:=by have:=(bc s).2;rw[hc0] at this;exact this
 have h1:=aE t0 (by omega)
 rw[hc] at h1;have hl:t.length<=t0.length:=by have:=(bc t0).2;rw[hc] at this;exact this
 dsimp only at*;unfold bR at*;have h3:=ba t (by omega)
 rw[Ac ho] at h3;unfold cG at hw;subst hw;refine gvC (F:=ec) ?_
 repeat' ((conv=>whnf);first|refine aG (by decide) ?_|refine bj ?_|refine aq ?_|apply ae<;>intro h)
 refine ap ?_;(conv=>whnf);refine Go.AM.finC ?_;rfl
theorem ae0 (hw:w=cz)(ho:bx t=true):ag G 593 [.str s] [] ⟨.agg (Mat.enc ⟨3,t,0,⟨0,0⟩,true⟩),[]⟩:=by
 have h0:=aE s (by omega)
 rw[hc0] at h0;have hl0:t0.length<=s.length:=by have:=(bc s).2;rw[hc0] at this;exact this
 have h1:=aE t0 (by omega)
 rw[hc] at h1;have hl:t.length<=t0.length:=by have:=(bc t0).2;rw[hc] at this;exact this
 dsimp only at*;unfold bR at*;have h3:=ba t (by omega)
 rw[Ac ho] at h3;unfold cz at hw;subst hw;refine gvC (F:=ec) ?_
 repeat' ((conv=>whnf);first|refine aG (by decide) ?_|refine bj ?_|refine aq ?_|apply ae<;>intro h)
 refine ap ?_;(conv=>whnf);refine Go.AM.finC ?_;rfl
theorem aeZ (hw:w=ib)(ho:bx t=true):ag G 593 [.str s] [] (mR (gJ 4 true (n32 t))):=by
 have h0:=aE s (by omega)
 rw[hc0] at h0;have hl0:t0.length<=s.length:=by have:=(bc s).2;rw[hc0] at this;exact this
 have h1:=aE t0 (by omega)
 rw[hc] at h1;have hl:t.length<=t0.length:=by have:=(bc t0).2;rw[hc] at this;exact this
 dsimp only at*;unfold bR at*;have h3:=ba t (by omega)
 rw[Ac ho] at h3;unfold ib at hw;subst hw;have h4:=bJ t (by omega)
 cases hq:n32 t with
 |some v=>
  rw[hq] at h4;unfold vF at h4;refine gvC (F:=ec) ?_
  repeat' ((conv=>whnf);first|refine aG (by decide) ?_|refine bj ?_|refine aq ?_|apply ae<;>intro h)
  refine ap ?_;(conv=>whnf);refine Go.AM.finC ?_;rfl
 |none=>
  rw[hq] at h4;replace h4:=λ(_:True)=>h4
  refine gvC (F:=ec) ?_
  repeat' ((conv=>whnf);first|refine aG (by decide) ?_|refine bj ?_|refine aq ?_|apply ae<;>intro h)
  (conv=>whnf)
  refine CallG.stop ?_;refine aH 629 (h4 trivial) (λQ hr hg=>?_)
  refine kV hg ?_;rfl
theorem aeY (hw:w=kM)(ho:bx t=true):ag G 593 [.str s] [] (mR (gJ 5 true (n32 t))):=by
 have h0:=aE s (by omega)
 rw[hc0] at h0;have hl0:t0.length<=s.length:=by have:=(bc s).2;rw[hc0] at this;exact this
 have h1:=aE t0 (by omega)
 rw[hc] at h1;have hl:t.length<=t0.length:=by have:=(bc t0).2;rw[hc] at this;exact this
 dsimp only at*;unfold bR at*;have h3:=ba t (by omega)
 rw[Ac ho] at h3;unfold kM at hw;subst hw;have h4:=bJ t (by omega)
 cases hq:n32 t with
 |some v=>
  rw[hq] at h4;unfold vF at h4;refine gvC (F:=ec) ?_
  repeat' ((conv=>whnf);first|refine aG (by decide) ?_|refine bj ?_|refine aq ?_|apply ae<;>intro h)
  refine ap ?_;(conv=>whnf);refine Go.AM.finC ?_;rfl
 |none=>
  rw[hq] at h4;replace h4:=λ(_:True)=>h4
  refine gvC (F:=ec) ?_
  repeat' ((conv=>whnf);first|refine aG (by decide) ?_|refine bj ?_|refine aq ?_|apply ae<;>intro h)
  (conv=>whnf)
  refine CallG.stop ?_;refine aH 629 (h4 trivial) (λQ hr hg=>?_)
  refine kV hg ?_;rfl
theorem aeX (hw:w=fE)(ho:bx t=true):ag G 593 [.str s] [] (mR (gJ 6 true (n32 t))):=by
 have h0:=aE s (by omega)
 rw[hc0] at h0;have hl0:t0.length<=s.length:=by have:=(bc s).2;rw[hc0] at this;exact this
 have h1:=aE t0 (by omega)
 rw[hc] at h1;have hl:t.length<=t0.length:=by have:=(bc t0).2;rw[hc] at this;exact this
 dsimp only at*;unfold bR at*;have h3:=ba t (by omega)
 rw[Ac ho] at h3;unfold fE at hw;subst hw;have h4:=bJ t (by omega)
 cases hq:n32 t with
 |some v=>
  rw[hq] at h4;unfold vF at h4;refine gvC (F:=ec) ?_
  repeat' ((conv=>whnf);first|refine aG (by decide) ?_|refine bj ?_|refine aq ?_|apply ae<;>intro h)
  refine ap ?_;(conv=>whnf);refine Go.AM.finC ?_;rfl
 |none=>
  rw[hq] at h4;replace h4:=λ(_:True)=>h4
  refine gvC (F:=ec) ?_
  repeat' ((conv=>whnf);first|refine aG (by decide) ?_|refine bj ?_|refine aq ?_|apply ae<;>intro h)
  (conv=>whnf)
  refine CallG.stop ?_;refine aH 629 (h4 trivial) (λQ hr hg=>?_)
  refine kV hg ?_;rfl
theorem aeV (hw:w=ic)(ho:bx t=true):ag G 593 [.str s] [] (mR (gJ 8 true (n32 t))):=by
 have h0:=aE s (by omega)
 rw[hc0] at h0;have hl0:t0.length<=s.length:=by have:=(bc s).2;rw[hc0] at this;exact this
 have h1:=aE t0 (by omega)
 rw[hc] at h1;have hl:t.length<=t0.length:=by have:=(bc t0).2;rw[hc] at this;exact this
 dsimp only at*;unfold bR at*;have h3:=ba t (by omega)
 rw[Ac ho] at h3;unfold ic at hw;subst hw;have h4:=bJ t (by omega)
 cases hq:n32 t with
 |some v=>
  rw[hq] at h4;unfold vF at h4;refine gvC (F:=ec) ?_
  repeat' ((conv=>whnf);first|refine aG (by decide) ?_|refine bj ?_|refine aq ?_|apply ae<;>intro h)
  refine ap ?_;(conv=>whnf);refine Go.AM.finC ?_;rfl
 |none=>
  rw[hq] at h4;replace h4:=λ(_:True)=>h4
  refine gvC (F:=ec) ?_
  repeat' ((conv=>whnf);first|refine aG (by decide) ?_|refine bj ?_|refine aq ?_|apply ae<;>intro h)
  (conv=>whnf)
  refine CallG.stop ?_;refine aH 629 (h4 trivial) (λQ hr hg=>?_)
  refine kV hg ?_;rfl
theorem aeW (hw:w=gy)(ho:bx t=true):ag G 593 [.str s] [] (mR (if (J.psP t).2=0 then some ⟨7,[],0,(J.psP t).1,true⟩ else none)):=by
 have h0:=aE s (by omega)
 rw[hc0] at h0;have hl0:t0.length<=s.length:=by have:=(bc s).2;rw[hc0] at this;exact this
 have h1:=aE t0 (by omega)
 rw[hc] at h1;have hl:t.length<=t0.length:=by have:=(bc t0).2;rw[hc] at this;exact this
 dsimp only at*;unfold bR at*;have h3:=ba t (by omega)
 rw[Ac ho] at h3;unfold gy at hw;subst hw;have h4:=J.parse_gives233 t (by omega)
 have h5:=aU true;rw[Ac rfl] at h5;unfold J.pfR at h4;generalize J.psP t=x at*;obtain ⟨⟨a,l⟩,e⟩:=x;dsimp only at*
 by_cases he:e=0
 ·subst he
  rw[Ac rfl];refine gvC (F:=ec) ?_
  repeat' ((conv=>whnf);first|refine aG (by decide) ?_|refine bj ?_|refine aq ?_|apply ae<;>intro h)
  refine ap ?_;(conv=>whnf);refine Go.AM.finC ?_;rfl
 ·have h6:=λ(_:True)=>aU false
  rw[Aa he];refine gvC (F:=ec) ?_
  repeat' ((conv=>whnf);first|refine fu he ?_|refine aG (by decide) ?_|refine bj ?_|refine aq ?_|apply ae<;>intro h)
  (conv=>whnf)
  refine CallG.stop ?_;refine aH 586 (h6 trivial) (λQ hr hg=>?_)
  refine kV hg ?_;rfl
theorem ae3 (n0:w≠cH)(n1:w≠cG)(n2:w≠cz)(n3:w≠ib)(n4:w≠kM)(n5:w≠fE)(n6:w≠ic)(n7:w≠gy)(ho:bx t=true):ag G 593 [.str s] [] (pF 2):=by
 have h0:=aE s (by omega)
 rw[hc0] at h0;have hl0:t0.length<=s.length:=by have:=(bc s).2;rw[hc0] at this;exact this
 have h1:=aE t0 (by omega)
 rw[hc] at h1;have hl:t.length<=t0.length:=by have:=(bc t0).2;rw[hc] at this;exact this
 dsimp only at*;unfold bR at*;have h3:=ba t (by omega)
 rw[Ac ho] at h3;unfold cH at n0;unfold cG at n1;unfold cz at n2;unfold ib at n3;unfold kM at n4;unfold fE at n5;unfold ic at n6;unfold gy at n7;have h5:=λ(_:True)=>aU false
 refine gvC (F:=ec) ?_
 repeat' ((conv=>whnf);first|refine aG n0 ?_|refine aG n1 ?_|refine aG n2 ?_|refine aG n3 ?_|refine aG n4 ?_|refine aG n5 ?_|refine aG n6 ?_|refine aG n7 ?_|refine bj ?_|refine aq ?_|apply ae<;>intro h)
 (conv=>whnf)
 refine CallG.stop ?_;refine aH 586 (h5 trivial) (λQ hr hg=>?_)
 refine kV hg ?_;rfl
end
section
variable (s:B5)(hs:s.length<4294967281)(w t:B5)(hc:aw s=(w,t))(hn:w≠bR)
include hs hc hn
theorem Yb (ho: ¬bx t=true):ag G 593 [.str s] [] (pF 2):=by
 have h1:=aE s (by omega)
 rw[hc] at h1;have hl:t.length<=s.length:=by have:=(bc s).2;rw[hc] at this;exact this
 dsimp only at*;unfold bR at hn;have h3:=λ(_:True)=>ba t (by omega)
 rw[Aa ho] at h3;refine gvC (F:=ec) ?_
 repeat' ((conv=>whnf);first|refine aG hn ?_|refine aq ?_|apply ae<;>intro h)
 (conv=>whnf)
 refine CallG.stop ?_;refine aH 597 (h3 trivial) (λQ hr hg=>?_)
 refine kV hg ?_;rfl
theorem aeT (hw:w=cH)(ho:bx t=true):ag G 593 [.str s] [] ⟨.agg (Mat.enc ⟨1,t,0,⟨0,0⟩,false⟩),[]⟩:=by
 have h1:=aE s (by omega)
 rw[hc] at h1;have hl:t.length<=s.length:=by have:=(bc s).2;rw[hc] at this;exact this
 dsimp only at*;unfold bR at hn;have h3:=ba t (by omega)
 rw[Ac ho] at h3;unfold cH at hw;subst hw;refine gvC (F:=ec) ?_
 repeat' ((conv=>whnf);first|refine aG (by decide) ?_|refine bj ?_|refine aq ?_|apply ae<;>intro h)
 refine ap ?_;(conv=>whnf);refine Go.AM.finC ?_;rfl
theorem aeS (hw:w=cG)(ho:bx t=true):ag G 593 [.str s] [] ⟨.agg (Mat.enc ⟨2,t,0,⟨0,0⟩,false⟩),[]⟩:=by
 have h1:=aE s (by omega)
 rw[hc] at h1;have hl:t.length<=s.length:=by have:=(bc s).2;rw[hc] at this;exact this
 dsimp only at*;unfold bR at hn;have h3:=ba t (by omega)
 rw[Ac ho] at h3;unfold cG at hw;subst hw;refine gvC (F:=ec) ?_
 repeat' ((conv=>whnf);first|refine aG (by decide) ?_|refine bj ?_|refine aq ?_|apply ae<;>intro h)
 refine ap ?_;(conv=>whnf);refine Go.AM.finC ?_;rfl
theorem aeR (hw:w=cz)(ho:bx t=true):ag G 593 [.str s] [] ⟨.agg (Mat.enc ⟨3,t,0,⟨0,0⟩,false⟩),[]⟩:=by
 have h1:=aE s (by omega)
 rw[hc] at h1;have hl:t.length<=s.length:=by have:=(bc s).2;rw[hc] at this;exact this
 dsimp only at*;unfold bR at hn;have h3:=ba t (by omega)
 rw[Ac ho] at h3;unfold cz at hw;subst hw;refine gvC (F:=ec) ?_
 repeat' ((conv=>whnf);first|refine aG (by decide) ?_|refine bj ?_|refine aq ?_|apply ae<;>intro h)
 refine ap ?_;(conv=>whnf);refine Go.AM.finC ?_;rfl
theorem aeQ (hw:w=ib)(ho:bx t=true):ag G 593 [.str s] [] (mR (gJ 4 false (n32 t))):=by
 have h1:=aE s (by omega)
 rw[hc] at h1;have hl:t.length<=s.length:=by have:=(bc s).2;rw[hc] at this;exact this
 dsimp only at*;unfold bR at hn;have h3:=ba t (by omega)
 rw[Ac ho] at h3;unfold ib at hw;subst hw;have h4:=bJ t (by omega)
 cases hq:n32 t with
 |some v=>
  rw[hq] at h4;unfold vF at h4;refine gvC (F:=ec) ?_
  repeat' ((conv=>whnf);first|refine aG (by decide) ?_|refine bj ?_|refine aq ?_|apply ae<;>intro h)
  refine ap ?_;(conv=>whnf);refine Go.AM.finC ?_;rfl
 |none=>
  rw[hq] at h4;replace h4:=λ(_:True)=>h4
  refine gvC (F:=ec) ?_
  repeat' ((conv=>whnf);first|refine aG (by decide) ?_|refine bj ?_|refine aq ?_|apply ae<;>intro h)
  (conv=>whnf)
  refine CallG.stop ?_;refine aH 629 (h4 trivial) (λQ hr hg=>?_)
  refine kV hg ?_;rfl
theorem aeP (hw:w=kM)(ho:bx t=true):ag G 593 [.str s] [] (mR (gJ 5 false (n32 t))):=by
 have h1:=aE s (by omega)
 rw[hc] at h1;have hl:t.length<=s.length:=by have:=(bc s).2;rw[hc] at this;exact this
 dsimp only at*;unfold bR at hn;have h3:=ba t (by omega)
 rw[Ac ho] at h3;unfold kM at hw;subst hw;have h4:=bJ t (by omega)
 cases hq:n32 t with
 |some v=>
  rw[hq] at h4;unfold vF at h4;refine gvC (F:=ec) ?_
  repeat' ((conv=>whnf);first|refine aG (by decide) ?_|refine bj ?_|refine aq ?_|apply ae<;>intro h)
  refine ap ?_;(conv=>whnf);refine Go.AM.finC ?_;rfl
 |none=>
  rw[hq] at h4;replace h4:=λ(_:True)=>h4
  refine gvC (F:=ec) ?_
  repeat' ((conv=>whnf);first|refine aG (by decide) ?_|refine bj ?_|refine aq ?_|apply ae<;>intro h)
  (conv=>whnf)
  refine CallG.stop ?_;refine aH 629 (h4 trivial) (λQ hr hg=>?_)
  refine kV hg ?_;rfl
theorem aeO (hw:w=fE)(ho:bx t=true):ag G 593 [.str s] [] (mR (gJ 6 false (n32 t))):=by
 have h1:=aE s (by omega)
 rw[hc] at h1;have hl:t.length<=s.length:=by have:=(bc s).2;rw[hc] at this;exact this
 dsimp only at*;unfold bR at hn;have h3:=ba t (by omega)
 rw[Ac ho] at h3;unfold fE at hw;subst hw;have h4:=bJ t (by omega)
 cases hq:n32 t with
 |some v=>
  rw[hq] at h4;unfold vF at h4;refine gvC (F:=ec) ?_
  repeat' ((conv=>whnf);first|refine aG (by decide) ?_|refine bj ?_|refine aq ?_|apply ae<;>intro h)
  refine ap ?_;(conv=>whnf);refine Go.AM.finC ?_;rfl
 |none=>
  rw[hq] at h4;replace h4:=λ(_:True)=>h4
  refine gvC (F:=ec) ?_
  repeat' ((conv=>whnf);first|refine aG (by decide) ?_|refine bj ?_|refine aq ?_|apply ae<;>intro h)
  (conv=>whnf)
  refine CallG.stop ?_;refine aH 629 (h4 trivial) (λQ hr hg=>?_)
  refine kV hg ?_;rfl
theorem aeM (hw:w=ic)(ho:bx t=true):ag G 593 [.str s] [] (mR (gJ 8 false (n32 t))):=by
 have h1:=aE s (by omega)
 rw[hc] at h1;have hl:t.length<=s.length:=by have:=(bc s).2;rw[hc] at this;exact this
 dsimp only at*;unfold bR at hn;have h3:=ba t (by omega)
 rw[Ac ho] at h3;unfold ic at hw;subst hw;have h4:=bJ t (by omega)
 cases hq:n32 t with
 |some v=>
  rw[hq] at h4;unfold vF at h4;refine gvC (F:=ec) ?_
  repeat' ((conv=>whnf);first|refine aG (by decide) ?_|refine bj ?_|refine aq ?_|apply ae<;>intro h)
  refine ap ?_;(conv=>whnf);refine Go.AM.finC ?_;rfl
 |none=>
  rw[hq] at h4;replace h4:=λ(_:True)=>h4
  refine gvC (F:=ec) ?_
  repeat' ((conv=>whnf);first|refine aG (by decide) ?_|refine bj ?_|refine aq ?_|apply ae<;>intro h)
  (conv=>whnf)
  refine CallG.stop ?_;refine aH 629 (h4 trivial) (λQ hr hg=>?_)
  refine kV hg ?_;rfl
theorem aeN (hw:w=gy)(ho:bx t=true):ag G 593 [.str s] [] (mR (if (J.psP t).2=0 then some ⟨7,[],0,(J.psP t).1,false⟩ else none)):=by
 have h1:=aE s (by omega)
 rw[hc] at h1;have hl:t.length<=s.length:=by have:=(bc s).2;rw[hc] at this;exact this
 dsimp only at*;unfold bR at hn;have h3:=ba t (by omega)
 rw[Ac ho] at h3;unfold gy at hw;subst hw;have h4:=J.parse_gives233 t (by omega)
 have h5:=aU true;rw[Ac rfl] at h5;unfold J.pfR at h4;generalize J.psP t=x at*;obtain ⟨⟨a,l⟩,e⟩:=x;dsimp only at*
 by_cases he:e=0
 ·subst he
  rw[Ac rfl];refine gvC (F:=ec) ?_
  repeat' ((conv=>whnf);first|refine aG (by decide) ?_|refine bj ?_|refine aq ?_|apply ae<;>intro h)
  refine ap ?_;(conv=>whnf);refine Go.AM.finC ?_;rfl
 ·have h6:=λ(_:True)=>aU false
  rw[Aa he];refine gvC (F:=ec) ?_
  repeat' ((conv=>whnf);first|refine fu he ?_|refine aG (by decide) ?_|refine bj ?_|refine aq ?_|apply ae<;>intro h)
  (conv=>whnf)
  refine CallG.stop ?_;refine aH 586 (h6 trivial) (λQ hr hg=>?_)
  refine kV hg ?_;rfl
theorem aeU (n0:w≠cH)(n1:w≠cG)(n2:w≠cz)(n3:w≠ib)(n4:w≠kM)(n5:w≠fE)(n6:w≠ic)(n7:w≠gy)(ho:bx t=true):ag G 593 [.str s] [] (pF 2):=by
 have h1:=aE s (by omega)
 rw[hc] at h1;have hl:t.length<=s.length:=by have:=(bc s).2;rw[hc] at this;exact this
 dsimp only at*;unfold bR at hn;have h3:=ba t (by omega)
 rw[Ac ho] at h3;unfold cH at n0;unfold cG at n1;unfold cz at n2;unfold ib at n3;unfold kM at n4;unfold fE at n5;unfold ic at n6;unfold gy at n7;have h5:=λ(_:True)=>aU false
 refine gvC (F:=ec) ?_
 repeat' ((conv=>whnf);first|refine aG n0 ?_|refine aG n1 ?_|refine aG n2 ?_|refine aG n3 ?_|refine aG n4 ?_|refine aG n5 ?_|refine aG n6 ?_|refine aG n7 ?_|refine aG hn ?_|refine aq ?_|apply ae<;>intro h)
 (conv=>whnf)
 refine CallG.stop ?_;refine aH 586 (h5 trivial) (λQ hr hg=>?_)
 refine kV hg ?_;rfl
end
theorem abr {s:B5}{p:B5×B5}{ng:Bool}(hw: ¬bx p.2=true->ag G 593 [.str s] [] (pF 2))(h1:p.1=cH->bx p.2=true->ag G 593 [.str s] [] ⟨.agg (Mat.enc ⟨1,p.2,0,⟨0,0⟩,ng⟩),[]⟩)(h2:p.1=cG->bx p.2=true->ag G 593 [.str s] [] ⟨.agg (Mat.enc ⟨2,p.2,0,⟨0,0⟩,ng⟩),[]⟩)(h3:p.1=cz->bx p.2=true->ag G 593 [.str s] [] ⟨.agg (Mat.enc ⟨3,p.2,0,⟨0,0⟩,ng⟩),[]⟩)(h4:p.1=ib->bx p.2=true->ag G 593 [.str s] [] (mR (gJ 4 ng (n32 p.2))))(h5:p.1=kM->bx p.2=true->ag G 593 [.str s] [] (mR (gJ 5 ng (n32 p.2))))(h6:p.1=fE->bx p.2=true->ag G 593 [.str s] [] (mR (gJ 6 ng (n32 p.2))))(h8:p.1=ic->bx p.2=true->ag G 593 [.str s] [] (mR (gJ 8 ng (n32 p.2))))(h7:p.1=gy->bx p.2=true->ag G 593 [.str s] [] (mR (if (J.psP p.2).2=0 then some ⟨7,[],0,(J.psP p.2).1,ng⟩ else none)))(h0:p.1≠cH->p.1≠cG->p.1≠cz->p.1≠ib->p.1≠kM->p.1≠fE->p.1≠ic->p.1≠gy->bx p.2=true->ag G 593 [.str s] [] (pF 2)):ag G 593 [.str s] [] (mR (uf p ng)):=by
 unfold uf Bn
 by_cases ho:bx p.2=true
 ·rw[Ac ho]
  by_cases c1:p.1=cH
  ·rw[Ac c1];exact h1 c1 ho
  rw[Aa c1]
  by_cases c2:p.1=cG
  ·rw[Ac c2];exact h2 c2 ho
  rw[Aa c2]
  by_cases c3:p.1=cz
  ·rw[Ac c3];exact h3 c3 ho
  rw[Aa c3]
  by_cases c4:p.1=ib
  ·rw[Ac c4];exact h4 c4 ho
  rw[Aa c4]
  by_cases c5:p.1=kM
  ·rw[Ac c5];exact h5 c5 ho
  rw[Aa c5]
  by_cases c6:p.1=fE
  ·rw[Ac c6];exact h6 c6 ho
  rw[Aa c6]
  by_cases c8:p.1=ic
  ·rw[Ac c8];exact h8 c8 ho
  rw[Aa c8]
  by_cases c7:p.1=gy
  ·rw[Ac c7];exact h7 c7 ho
  rw[Aa c7];exact h0 c1 c2 c3 c4 c5 c6 c8 c7 ho
 ·rw[Aa ho];exact hw ho
theorem lW (s:B5)(hs:s.length<4294967281):ag G 593 [.str s] [] (mR (lX s)):=by
 unfold lX
 by_cases c:(aw s).1=bR
 ·rw[Ac c]
  have e:aw s=(bR,(aw s).2):=by rw[<-c]
  have f:=(rfl:aw (aw s).2=((aw (aw s).2).1,(aw (aw s).2).2));exact abr (λa=>Yc s hs _ e _ _ f a) (λa b=>ae2 s hs _ e _ _ f a b) (λa b=>ae1 s hs _ e _ _ f a b) (λa b=>ae0 s hs _ e _ _ f a b) (λa b=>aeZ s hs _ e _ _ f a b) (λa b=>aeY s hs _ e _ _ f a b) (λa b=>aeX s hs _ e _ _ f a b) (λa b=>aeV s hs _ e _ _ f a b) (λa b=>aeW s hs _ e _ _ f a b) (λa1 a2 a3 a4 a5 a6 a7 a8 b=>ae3 s hs _ e _ _ f a1 a2 a3 a4 a5 a6 a7 a8 b)
 ·rw[Aa c]
  have f:=(rfl:aw s=((aw s).1,(aw s).2));exact abr (λa=>Yb s hs _ _ f c a) (λa b=>aeT s hs _ _ f c a b) (λa b=>aeS s hs _ _ f c a b) (λa b=>aeR s hs _ _ f c a b) (λa b=>aeQ s hs _ _ f c a b) (λa b=>aeP s hs _ _ f c a b) (λa b=>aeO s hs _ _ f c a b) (λa b=>aeM s hs _ _ f c a b) (λa b=>aeN s hs _ _ f c a b) (λa1 a2 a3 a4 a5 a6 a7 a8 b=>aeU s hs _ _ f c a1 a2 a3 a4 a5 a6 a7 a8 b)
section
variable (e1 e2 e3 e4 rl:B6)(p1:ab e1=true)(p2:ab e2=true)(p3:ab e3=true)(p4:ab e4=true)(pr:ab rl=true)(k1 k2 k3 k4:CF)(so:Int)(pol trm:Bool)(nm:B5)(n:Nat)(l1:e1.length<2^30)(l2:e2.length<2^30)(l3:e3.length<2^30)(l4:e4.length<2^30)
include p1 p2 p3 p4 pr l1 l2 l3 l4
theorem Yt (hn:n=e1.length+1)(s:B5)(hs:s.length<4294967281)(hq:bn (aw s).1=0):ag G 585 [.ref 0 0 0,.str s] (bP n e2.length e3.length e4.length so pol trm (e1++[[AV.str nm,AV.vs 9 0 rl.length]]) e2 e3 e4 k1 k2 k3 k4 [.vec 5 rl]) ⟨.bool false,rP n e2.length e3.length e4.length so pol trm (.nest 2 e1 [[AV.str nm,AV.vs 9 0 rl.length]]) (.vec 2 e2) (.vec 2 e3) (.vec 3 e4) k1 k2 k3 k4 [(true,.vec 5 rl)]⟩:=by
 unfold bP rP;have h0:=aE s (by omega)
 obtain ⟨h1,h2,h3,h4⟩:=qq hq;generalize aw s=ct at*;obtain ⟨w,t⟩:=ct;dsimp only at*;unfold cH at h1;unfold cG at h2;unfold cz at h3;unfold gv at h4;refine gvC (F:=gh) ?_
 repeat' ((conv=>whnf);first|refine aG h1 ?_|refine aG h2 ?_|refine aG h3 ?_|refine aG h4 ?_|refine aq ?_|apply ae<;>intro h)
 (first|refine da lJ [] de ?_|refine db lJ [] de ?_)
 rfl
theorem Qq (hn:n=e2.length+1)(s:B5)(hs:s.length<4294967281)(hq:bn (aw s).1=0):ag G 585 [.ref 0 0 0,.str s] (bP e1.length n e3.length e4.length so pol trm e1 (e2++[[AV.str nm,AV.vs 9 0 rl.length]]) e3 e4 k1 k2 k3 k4 [.vec 2 rl]) ⟨.bool false,rP e1.length n e3.length e4.length so pol trm (.vec 2 e1) (.nest 2 e2 [[AV.str nm,AV.vs 9 0 rl.length]]) (.vec 2 e3) (.vec 3 e4) k1 k2 k3 k4 [(true,.vec 2 rl)]⟩:=by
 unfold bP rP;have h0:=aE s (by omega)
 obtain ⟨h1,h2,h3,h4⟩:=qq hq;generalize aw s=ct at*;obtain ⟨w,t⟩:=ct;dsimp only at*;unfold cH at h1;unfold cG at h2;unfold cz at h3;unfold gv at h4;refine gvC (F:=gh) ?_
 repeat' ((conv=>whnf);first|refine aG h1 ?_|refine aG h2 ?_|refine aG h3 ?_|refine aG h4 ?_|refine aq ?_|apply ae<;>intro h)
 (first|refine da j4 [] de ?_|refine db j4 [] de ?_)
 rfl
theorem hn_3 (hn:n=e3.length+1)(s:B5)(hs:s.length<4294967281)(hq:bn (aw s).1=0):ag G 585 [.ref 0 0 0,.str s] (bP e1.length e2.length n e4.length so pol trm e1 e2 (e3++[[AV.str nm,AV.vs 9 0 rl.length]]) e4 k1 k2 k3 k4 [.vec 3 rl]) ⟨.bool false,rP e1.length e2.length n e4.length so pol trm (.vec 2 e1) (.vec 2 e2) (.nest 2 e3 [[AV.str nm,AV.vs 9 0 rl.length]]) (.vec 3 e4) k1 k2 k3 k4 [(true,.vec 3 rl)]⟩:=by
 unfold bP rP;have h0:=aE s (by omega)
 obtain ⟨h1,h2,h3,h4⟩:=qq hq;generalize aw s=ct at*;obtain ⟨w,t⟩:=ct;dsimp only at*;unfold cH at h1;unfold cG at h2;unfold cz at h3;unfold gv at h4;refine gvC (F:=gh) ?_
 repeat' ((conv=>whnf);first|refine aG h1 ?_|refine aG h2 ?_|refine aG h3 ?_|refine aG h4 ?_|refine aq ?_|apply ae<;>intro h)
 (first|refine da jD [] de ?_|refine db jD [] de ?_)
 rfl
section
variable (hn:n=e1.length+1)(s:B5)(hs:s.length<4294967281)(hq:bn (aw s).1=0)
include hn hs hq
theorem acq (hb:(J.plP s).2≠0):ag G 541 [.ref 0 0 0,.str s] (bP n e2.length e3.length e4.length 1 pol trm (e1++[[AV.str nm,AV.vs 9 0 rl.length]]) e2 e3 e4 k1 k2 k3 k4 [.vec 5 rl]) ⟨pnV (.ifc 138 (.agg [.int .i64 2])),rP n e2.length e3.length e4.length 1 pol trm (.nest 2 e1 [[AV.str nm,AV.vs 9 0 rl.length]]) (.vec 2 e2) (.vec 2 e3) (.vec 3 e4) k1 k2 k3 k4 [(true,.vec 5 rl)]⟩:=by
 unfold bP rP;have h0:=Yt e1 e2 e3 e4 rl p1 p2 p3 p4 pr k1 k2 k3 k4 1 pol trm nm n l1 l2 l3 l4 hn s hs hq;have hx:(e1++[[AV.str nm,AV.vs 9 0 rl.length]])[((n:Int)-1).toNat]? =some [AV.str nm,AV.vs 9 0 rl.length]:=by rw[hn];simp
 have hset: ∀y x:B7,(e1++[y]).set ((n:Int)-1).toNat x=e1++[x]:=λy x=>by rw[hn];simp
 have h2:=λ(_:True)=>aU false
 have h3:=J.parse_gives334 s hs;unfold J.prR5 J.PRule.enc at h3;generalize J.plP s=x at*;obtain ⟨⟨v,⟨pa,pl⟩,mn,mx⟩,e⟩:=x;dsimp only at*;have hb': ¬e=0:=hb;refine gvB (F:=jw) ?_
 (conv=>whnf)
 refine kP lJ [] cu trivial h0 ?_
 repeat' ((conv=>whnf);first|refine fu hb' ?_|refine aq ?_|apply ae<;>intro h)
 (conv=>whnf)
 refine CallG.stop ?_;refine aH 586 (h2 trivial) (λQ hr hg=>?_)
 refine kV hg ?_;refine bt lJ [] de ?_;rfl
theorem Xb (hb:(J.plP s).2=0)(hk:64<=rl.length):ag G 541 [.ref 0 0 0,.str s] (bP n e2.length e3.length e4.length 1 pol trm (e1++[[AV.str nm,AV.vs 9 0 rl.length]]) e2 e3 e4 k1 k2 k3 k4 [.vec 5 rl]) ⟨pnV (.ifc 138 (.agg [.int .i64 4])),rP n e2.length e3.length e4.length 1 pol trm (.nest 2 e1 [[AV.str nm,AV.vs 9 0 rl.length]]) (.vec 2 e2) (.vec 2 e3) (.vec 3 e4) k1 k2 k3 k4 [(true,.vec 5 rl)]⟩:=by
 unfold bP rP;have h0:=Yt e1 e2 e3 e4 rl p1 p2 p3 p4 pr k1 k2 k3 k4 1 pol trm nm n l1 l2 l3 l4 hn s hs hq;have hx:(e1++[[AV.str nm,AV.vs 9 0 rl.length]])[((n:Int)-1).toNat]? =some [AV.str nm,AV.vs 9 0 rl.length]:=by rw[hn];simp
 have hset: ∀y x:B7,(e1++[y]).set ((n:Int)-1).toNat x=e1++[x]:=λy x=>by rw[hn];simp
 have h2:=aU true;rw[Ac rfl] at h2;have h3:=J.parse_gives334 s hs;unfold J.prR5 J.PRule.enc at h3;rw[hb] at h3;generalize (J.plP s).1=x at*;obtain ⟨v,⟨pa,pl⟩,mn,mx⟩:=x;dsimp only at*
 have h4:True->ag G 587 [.int .i64 (rl.length:Int)] [] (pF 4):=λ_=>by
  have:=b8 (rl.length:Int);rwa [Aa (by omega)] at this
 refine gvB (F:=jw) ?_
 (conv=>whnf)
 refine kP lJ [] cu trivial h0 ?_
 repeat' (first|refine aW ?_|apply ae<;>intro h)
 (conv=>whnf)
 refine CallG.stop ?_;refine aH 587 (h4 trivial) (λQ hr hg=>?_)
 refine kV hg ?_;refine bt lJ [] de ?_;rfl
theorem aed (hb:(J.plP s).2=0)(hk:rl.length<64):ag G 541 [.ref 0 0 0,.str s] (bP n e2.length e3.length e4.length 1 pol trm (e1++[[AV.str nm,AV.vs 9 0 rl.length]]) e2 e3 e4 k1 k2 k3 k4 [.vec 5 rl]) ⟨.tup [],rP n e2.length e3.length e4.length 1 pol trm (.nest 2 e1 [[AV.str nm,AV.vs 9 0 (rl.length+1)]]) (.vec 2 e2) (.vec 2 e3) (.vec 3 e4) k1 k2 k3 k4 [(false,.vec 5 (rl++[(J.plP s).1.enc]))]⟩:=by
 unfold bP rP;have h0:=Yt e1 e2 e3 e4 rl p1 p2 p3 p4 pr k1 k2 k3 k4 1 pol trm nm n l1 l2 l3 l4 hn s hs hq;have hx:(e1++[[AV.str nm,AV.vs 9 0 rl.length]])[((n:Int)-1).toNat]? =some [AV.str nm,AV.vs 9 0 rl.length]:=by rw[hn];simp
 have hset: ∀y x:B7,(e1++[y]).set ((n:Int)-1).toNat x=e1++[x]:=λy x=>by rw[hn];simp
 have h2:=aU true;rw[Ac rfl] at h2;have h3:=J.parse_gives334 s hs;unfold J.prR5 at h3;unfold J.PRule.enc at*;rw[hb] at h3;generalize (J.plP s).1=x at*;obtain ⟨v,⟨pa,pl⟩,mn,mx⟩:=x;dsimp only at*
 have h4:ag G 587 [.int .i64 (rl.length:Int)] [] ⟨.tup [],[]⟩:=by
  have:=b8 (rl.length:Int);rwa [Ac (by omega)] at this
 refine gvB (F:=jw) ?_
 (conv=>whnf)
 refine kP lJ [] cu trivial h0 ?_
 repeat' (first|refine aW ?_|apply ae<;>intro h)
 (conv=>whnf)
 rw[hset]
 (first|refine da lJ [] [true,true,true,true,true,true,true,true,true,false] ?_|refine db lJ [] [true,true,true,true,true,true,true,true,true,false] ?_)
 rfl
end
section
variable (hn:n=e2.length+1)(s:B5)(hs:s.length<4294967281)(hq:bn (aw s).1=0)(b:Bool)(t:B5)
include hn hs hq
theorem Xg (hP:dJ s=none):ag G 541 [.ref 0 0 0,.str s] (bP e1.length n e3.length e4.length 2 pol trm e1 (e2++[[AV.str nm,AV.vs 9 0 rl.length]]) e3 e4 k1 k2 k3 k4 [.vec 2 rl]) ⟨pnV (.ifc 138 (.agg [.int .i64 2])),rP e1.length n e3.length e4.length 2 pol trm (.vec 2 e1) (.nest 2 e2 [[AV.str nm,AV.vs 9 0 rl.length]]) (.vec 2 e3) (.vec 3 e4) k1 k2 k3 k4 [(true,.vec 2 rl)]⟩:=by
 unfold bP rP;have h0:=Qq e1 e2 e3 e4 rl p1 p2 p3 p4 pr k1 k2 k3 k4 2 pol trm nm n l1 l2 l3 l4 hn s hs hq;have hx:(e2++[[AV.str nm,AV.vs 9 0 rl.length]])[((n:Int)-1).toNat]? =some [AV.str nm,AV.vs 9 0 rl.length]:=by rw[hn];simp
 have hset: ∀y x:B7,(e2++[y]).set ((n:Int)-1).toNat x=e2++[x]:=λy x=>by rw[hn];simp
 have h3:=λ(_:True)=>gY s (by omega)
 rw[hP] at h3;refine gvB (F:=jw) ?_
 (conv=>whnf)
 refine kP j4 [] cu trivial h0 ?_
 repeat' (first|refine aW ?_|apply ae<;>intro h)
 (conv=>whnf)
 refine CallG.stop ?_;refine aH 588 (h3 trivial) (λQ hr hg=>?_)
 refine kV hg ?_;refine bt j4 [] de ?_;rfl
section
variable (hP:dJ s=some (b,t))
include hP
theorem acv (hx5:ff t=none):ag G 541 [.ref 0 0 0,.str s] (bP e1.length n e3.length e4.length 2 pol trm e1 (e2++[[AV.str nm,AV.vs 9 0 rl.length]]) e3 e4 k1 k2 k3 k4 [.vec 2 rl]) ⟨pnV (.ifc 138 (.agg [.int .i64 2])),rP e1.length n e3.length e4.length 2 pol trm (.vec 2 e1) (.nest 2 e2 [[AV.str nm,AV.vs 9 0 rl.length]]) (.vec 2 e3) (.vec 3 e4) k1 k2 k3 k4 [(true,.vec 2 rl)]⟩:=by
 unfold bP rP;have h0:=Qq e1 e2 e3 e4 rl p1 p2 p3 p4 pr k1 k2 k3 k4 2 pol trm nm n l1 l2 l3 l4 hn s hs hq;have hx:(e2++[[AV.str nm,AV.vs 9 0 rl.length]])[((n:Int)-1).toNat]? =some [AV.str nm,AV.vs 9 0 rl.length]:=by rw[hn];simp
 have hset: ∀y x:B7,(e2++[y]).set ((n:Int)-1).toNat x=e2++[x]:=λy x=>by rw[hn];simp
 have ht:=qh hP;have h3:=gY s (by omega)
 rw[hP] at h3;unfold yy at h3;obtain ⟨k,lo,hi,l,h5⟩:=oX t (by omega)
 rw[hx5,Aa (by simp)] at h5
 have h2:=λ(_:True)=>aU false
 refine gvB (F:=jw) ?_
 (conv=>whnf)
 refine kP j4 [] cu trivial h0 ?_
 repeat' (first|refine aW ?_|apply ae<;>intro h)
 (conv=>whnf)
 refine CallG.stop ?_;refine aH 586 (h2 trivial) (λQ hr hg=>?_)
 refine kV hg ?_;refine bt j4 [] de ?_;rfl
theorem Xh (hx5:(ff t).isSome=true)(hk:64<=rl.length):ag G 541 [.ref 0 0 0,.str s] (bP e1.length n e3.length e4.length 2 pol trm e1 (e2++[[AV.str nm,AV.vs 9 0 rl.length]]) e3 e4 k1 k2 k3 k4 [.vec 2 rl]) ⟨pnV (.ifc 138 (.agg [.int .i64 4])),rP e1.length n e3.length e4.length 2 pol trm (.vec 2 e1) (.nest 2 e2 [[AV.str nm,AV.vs 9 0 rl.length]]) (.vec 2 e3) (.vec 3 e4) k1 k2 k3 k4 [(true,.vec 2 rl)]⟩:=by
 unfold bP rP;have h0:=Qq e1 e2 e3 e4 rl p1 p2 p3 p4 pr k1 k2 k3 k4 2 pol trm nm n l1 l2 l3 l4 hn s hs hq;have hx:(e2++[[AV.str nm,AV.vs 9 0 rl.length]])[((n:Int)-1).toNat]? =some [AV.str nm,AV.vs 9 0 rl.length]:=by rw[hn];simp
 have hset: ∀y x:B7,(e2++[y]).set ((n:Int)-1).toNat x=e2++[x]:=λy x=>by rw[hn];simp
 have ht:=qh hP;have h3:=gY s (by omega)
 rw[hP] at h3;unfold yy at h3;obtain ⟨k,lo,hi,l,h5⟩:=oX t (by omega)
 rw[Ac hx5] at h5;have h2:=aU true;rw[Ac rfl] at h2
 have h4:True->ag G 587 [.int .i64 (rl.length:Int)] [] (pF 4):=λ_=>by
  have:=b8 (rl.length:Int);rwa [Aa (by omega)] at this
 refine gvB (F:=jw) ?_
 (conv=>whnf)
 refine kP j4 [] cu trivial h0 ?_
 repeat' (first|refine aW ?_|apply ae<;>intro h)
 (conv=>whnf)
 refine CallG.stop ?_;refine aH 587 (h4 trivial) (λQ hr hg=>?_)
 refine kV hg ?_;refine bt j4 [] de ?_;rfl
theorem aei (hx5:(ff t).isSome=true)(hk:rl.length<64):ag G 541 [.ref 0 0 0,.str s] (bP e1.length n e3.length e4.length 2 pol trm e1 (e2++[[AV.str nm,AV.vs 9 0 rl.length]]) e3 e4 k1 k2 k3 k4 [.vec 2 rl]) ⟨.tup [],rP e1.length n e3.length e4.length 2 pol trm (.vec 2 e1) (.nest 2 e2 [[AV.str nm,AV.vs 9 0 (rl.length+1)]]) (.vec 2 e3) (.vec 3 e4) k1 k2 k3 k4 [(false,.vec 2 (rl++[[.bool b,.str t]]))]⟩:=by
 unfold bP rP;have h0:=Qq e1 e2 e3 e4 rl p1 p2 p3 p4 pr k1 k2 k3 k4 2 pol trm nm n l1 l2 l3 l4 hn s hs hq;have hx:(e2++[[AV.str nm,AV.vs 9 0 rl.length]])[((n:Int)-1).toNat]? =some [AV.str nm,AV.vs 9 0 rl.length]:=by rw[hn];simp
 have hset: ∀y x:B7,(e2++[y]).set ((n:Int)-1).toNat x=e2++[x]:=λy x=>by rw[hn];simp
 have ht:=qh hP;have h3:=gY s (by omega)
 rw[hP] at h3;unfold yy at h3;obtain ⟨k,lo,hi,l,h5⟩:=oX t (by omega)
 rw[Ac hx5] at h5;have h2:=aU true;rw[Ac rfl] at h2
 have h4:ag G 587 [.int .i64 (rl.length:Int)] [] ⟨.tup [],[]⟩:=by
  have:=b8 (rl.length:Int);rwa [Ac (by omega)] at this
 refine gvB (F:=jw) ?_
 (conv=>whnf)
 refine kP j4 [] cu trivial h0 ?_
 repeat' (first|refine aW ?_|apply ae<;>intro h)
 (conv=>whnf)
 rw[hset]
 (first|refine da j4 [] [true,true,true,true,true,true,true,true,true,false] ?_|refine db j4 [] [true,true,true,true,true,true,true,true,true,false] ?_)
 rfl
end
end
end
theorem W7 {x lo:Opd}{g key:Nat}{l:B5}{j:Int}{hg:Nat->Cl}(h0:0<=j)(h1:j<=l.length):aX (.slstr x (some lo) none) g key [.str l,.int .i64 j] hg=some {res:=.str ((l.drop j.toNat).take (l.length-j.toNat))}:=by
 simp[aX,aX.slBounds,bnd,h0,h1]
def fM:B5->Option (B5×B5)
 | []=>none
 |c::r=>if c=58 then some ([],r) else (fM r).map λp=>(c::p.1,p.2)
theorem pJ {d:B5}(h: ∀c∈d,c≠58)(r:B5):fM (d++r)=(fM r).map λp=>(d++p.1,p.2):=by
 induction d with
 |nil=>cases h2:fM r<;>simp[h2]
 |cons c d ih=>
  have hc:c≠58:=h c (by simp)
  simp only[BD,fM,Aa hc,ih λx hx=>h x (by simp[hx])]
  cases fM r<;>simp
def eY (b:Bool)(t:B5)(n:Nat):Int×ComR:=match fM t with
 |none=>(2,⟨b,0,0⟩)
 |some (x,y)=>match eN x with
  |none=>(2,⟨b,0,0⟩)
  |some h=>match eN y with
   |none=>(2,⟨b,0,0⟩)
   |some l=>if n<64 then (jP ⟨b,h,l⟩,⟨b,h,l⟩) else (4,⟨b,0,0⟩)
theorem wy (e1 e2 e3 e4 rl:B6)(p1:ab e1=true)(p2:ab e2=true)(p3:ab e3=true)(p4:ab e4=true)(pr:ab rl=true)(k1 k2 k3 k4:CF)(pol trm:Bool)(nm:B5)(n:Nat)(l1:e1.length<2^30)(l2:e2.length<2^30)(l3:e3.length<2^30)(l4:e4.length<2^30)(hn:n=e3.length+1)(b:Bool)(t:B5)(ht:t.length<2^32)(R:Ret)(hbad: ∀e:Int,(eY b t rl.length).1=e->e≠0->R=⟨pnV (.ifc 138 (.agg [.int .i64 e])),mkR [(true,.cells [.vs 1 0 e1.length,.vs 2 0 e2.length,.vs 3 0 n,.vs 4 0 e4.length,.vs 5 0 k1.length,.vs 6 0 k2.length,.vs 7 0 k3.length,.vs 8 0 k4.length,.int .i64 3,.bool pol,.bool trm]),(true,.vec 2 e1),(true,.vec 2 e2),(true,.nest 2 e3 [[AV.str nm,AV.vs 9 0 rl.length]]),(true,.vec 3 e4),(true,.vec 1 (k1.map ah)),(true,.vec 1 (k2.map ah)),(true,.vec 1 (k3.map ah)),(true,.vec 1 (k4.map ah)),(true,.vec 3 rl)]⟩)(hok:(eY b t rl.length).1=0->R=⟨.tup [],mkR [(true,.cells [.vs 1 0 e1.length,.vs 2 0 e2.length,.vs 3 0 n,.vs 4 0 e4.length,.vs 5 0 k1.length,.vs 6 0 k2.length,.vs 7 0 k3.length,.vs 8 0 k4.length,.int .i64 3,.bool pol,.bool trm]),(true,.vec 2 e1),(true,.vec 2 e2),(true,.nest 2 e3 [[AV.str nm,AV.vs 9 0 (rl.length+1)]]),(true,.vec 3 e4),(true,.vec 1 (k1.map ah)),(true,.vec 1 (k2.map ah)),(true,.vec 1 (k3.map ah)),(true,.vec 1 (k4.map ah)),(false,.vec 3 (rl++[(eY b t rl.length).2.enc]))]⟩): ∀(rest done:B5)(T:TV)(H:az)(c:Nat)(i:Int)(e:t=done++rest)(hi:i=done.length)(hd: ∀x∈done,x≠58)(hc0:0<c),
  Ev G ⟨UW,⟨(15,.int .i64 i)::(12,.er 3 0 ((n:Int)-1).toNat 0)::(14,.str t)::(13,.bool b)::T,(0,some (0,.cells [.vs 1 0 e1.length,.vs 2 0 e2.length,.vs 3 0 n,.vs 4 0 e4.length,.vs 5 0 k1.length,.vs 6 0 k2.length,.vs 7 0 k3.length,.vs 8 0 k4.length,.int .i64 3,.bool pol,.bool trm]))::(1,some (0,.vec 2 e1))::(2,some (0,.vec 2 e2))::(3,some (0,.vec 2 (e3++[[AV.str nm,AV.vs 9 0 rl.length]])))::(4,some (0,.vec 3 e4))::(5,some (0,.vec 1 (k1.map ah)))::(6,some (0,.vec 1 (k2.map ah)))::(7,some (0,.vec 1 (k3.map ah)))::(8,some (0,.vec 1 (k4.map ah)))::(9,some (0,.vec 3 rl))::H,c⟩,[],10⟩ R
 | [],done,T,H,c,i,e,hi,hd,hc0=>by
  have htl:=md0 e;have h2:True->ag G 586 [.bool (decide (i<(t.length:Int)))] [] (pF 2):=λ_=>by rw[Al (show¬i<(t.length:Int) by omega)];exact aU false
  have hv:eY b t rl.length=(2,⟨b,0,0⟩):=by rw[e];unfold eY;rw[pJ hd];rfl
  rw[hbad 2 (by rw[hv]) (by decide)]
  refine evA ?_
  (conv=>whnf)
  refine CallG.stop ?_;refine aH 586 (h2 trivial) (λQ hr hg=>?_)
  refine kV hg ?_;refine bt jD [] de ?_;rfl
 |x::rest,done,T,H,c,i,e,hi,hd,hc0=>by
  have htl:=md e;have hb:t[i.toNat]? =some x:=by rw[e,hi];simp
  have hxl:=x.toNat_lt
  by_cases h:x=58
  ·subst h
   have hv:eY b t rl.length=(match eN done with
    |none=>(2,⟨b,0,0⟩)
    |some h=>match eN rest with
     |none=>(2,⟨b,0,0⟩)
     |some l=>if rl.length<64 then (jP ⟨b,h,l⟩,⟨b,h,l⟩) else (4,⟨b,0,0⟩)):=by
    rw[e];unfold eY;rw[pJ hd];simp[fM]
   have ta:List.take (i.toNat-0) (List.drop 0 t)=done:=by rw[e,hi];simp
   have tb:List.take (t.length- (i+1).toNat) (List.drop (i+1).toNat t)=rest:=by
    rw[hi,show ((done.length:Int)+1).toNat=done.length+1 from by omega,e,show done++58::rest=(done++[58])++rest from by simp]
    rw[show done.length+1=(done++[58]).length from by simp,List.drop_left,List.take_of_length_le (by simp;omega)]
   have h6:ag G 589 [.str (List.take (i.toNat-0) (List.drop 0 t))] [] (vF (eN done)):=by rw[ta];exact sN done (by omega)
   have h7:ag G 589 [.str (List.take (t.length- (i+1).toNat) (List.drop (i+1).toNat t))] [] (vF (eN rest)):=by rw[tb];exact sN rest (by omega)
   have hT:ag G 586 [.bool (decide (i<(t.length:Int)))] [] ⟨.tup [],[]⟩:=by rw[Ak (show i<(t.length:Int) by omega)];exact aU true
   have hwr:IntKind.wrap .i64 (i+1)=i+1:=kC (by omega) (by omega)
   clear ta tb;rcases ha:eN done with _|va
   ·rw[ha] at hv h6
    replace h6:=λ(_:True)=>h6
    clear h7;rw[hbad 2 (by rw[hv]) (by decide)]
    refine evl ?_
    repeat' (first|refine bp ?_|apply ae<;>intro h)
    (conv=>whnf)
    refine CallG.stop ?_;refine qQ 589 [(_,some _),(_,some _),(_,some _),(_,some _),(none,none),(none,none),(_,some _),(none,none)] (h6 trivial) (λQ hr hg=>?_) ⟨rfl,rfl,rfl,rfl,rfl,rfl,rfl,rfl,rfl,rfl,rfl,rfl,rfl,rfl,W7 (x:=.t 152) (g:=0) (key:=0) (hg:=λ_=>none) (by rw[hwr];omega) (by rw[hwr];omega),rfl,.inl rfl,rfl,.inr ⟨_,rfl,by decide⟩,rfl,rfl,rfl,rfl,rfl,.inl rfl,rfl,trivial⟩ (λx hx=>by cases hx)
    refine kV hg ?_;refine bt jD [] de ?_;rfl
   rcases hb2:eN rest with _|vb
   ·rw[ha] at hv h6
    rw[hb2] at hv h7;unfold vF at h6;replace h7:=λ(_:True)=>h7
    rw[hbad 2 (by rw[hv]) (by decide)]
    refine evl ?_
    repeat' (first|refine bp ?_|apply ae<;>intro h)
    (conv=>whnf)
    refine CallG.stop ?_;refine qQ 589 [(none,none),(_,some _),(none,none)] (h7 trivial) (λQ hr hg=>?_) ⟨.inr ⟨_,rfl,by decide⟩,rfl,rfl,rfl,rfl,rfl,.inl rfl,rfl,trivial⟩ (λx hx=>by cases hx)
    refine kV hg ?_;refine bt jD [] de ?_;rfl
   rw[ha] at hv h6;rw[hb2] at hv h7;unfold vF at h6 h7;dsimp only at hv;have hx:(e3++[[AV.str nm,AV.vs 9 0 rl.length]])[((n:Int)-1).toNat]? =some [AV.str nm,AV.vs 9 0 rl.length]:=by rw[hn];simp
   have hset: ∀y x:B7,(e3++[y]).set ((n:Int)-1).toNat x=e3++[x]:=λy x=>by rw[hn];simp
   by_cases hk:rl.length<64
   case neg=>
    rw[Aa hk] at hv
    have h4:True->ag G 587 [.int .i64 (rl.length:Int)] [] (pF 4):=λ_=>by
     have:=b8 (rl.length:Int);rwa [Aa (by omega)] at this
    rw[hbad 4 (by rw[hv]) (by decide)]
    refine evl ?_
    repeat' (first|refine bp ?_|apply ae<;>intro h)
    (conv=>whnf)
    refine CallG.stop ?_;refine aH 587 (h4 trivial) (λQ hr hg=>?_)
    refine kV hg ?_;refine bt jD [] de ?_;rfl
   rw[Ac hk] at hv
   have h4:ag G 587 [.int .i64 (rl.length:Int)] [] ⟨.tup [],[]⟩:=by
    have:=b8 (rl.length:Int);rwa [Ac (by omega)] at this
   have h8:=Kw ⟨b,va,vb⟩
   by_cases hc1:jP ⟨b,va,vb⟩=0
   ·have h9:=bC 0
    rw[Ac rfl] at h9;rw[hc1] at h8 hv;rw[hok (by rw[hv]),hv]
    unfold ComR.enc at*;dsimp only at*;refine evl ?_
    repeat' (first|refine bp ?_|apply ae<;>intro h)
    (conv=>whnf)
    rw[hset]
    (first|refine da jD [] [true,true,true,true,true,true,true,true,true,false] ?_|refine db jD [] [true,true,true,true,true,true,true,true,true,false] ?_)
    rfl
   ·have h9:=λ(_:True)=>bC (jP ⟨b,va,vb⟩)
    rw[Aa hc1] at h9;rw[hbad (jP ⟨b,va,vb⟩) (by rw[hv]) hc1]
    unfold ComR.enc at*;dsimp only at*;refine evl ?_
    repeat' (first|refine bp ?_|apply ae<;>intro h)
    (conv=>whnf)
    refine CallG.stop ?_;refine aH 590 (h9 trivial) (λQ hr hg=>?_)
    refine kV hg ?_;refine bt jD [] de ?_;rfl
  ·have hne: ¬(x.toNat:Int)=58:=λq=>h (A5.1 (by simpa using (by omega:x.toNat=58)))
   have ih:=λT H c=>wy e1 e2 e3 e4 rl p1 p2 p3 p4 pr k1 k2 k3 k4 pol trm nm n l1 l2 l3 l4 hn b t ht R hbad hok rest (done++[x]) T H c (i+1) (by simp[e]) (by simp[hi]) (by
    intro y hy;rcases BE.1 hy with hy|hy
    ·exact hd y hy
    ·rw[BO.1 hy];exact h)
   refine evl ?_
   repeat' (first|refine bp ?_|apply ae<;>intro h)
   refine au [15,12,14,13] [0,1,2,3,4,5,6,7,8,9] ?_;exact ih _ _ _ (by omega)
section
variable (e1 e2 e3 e4 rl:B6)(p1:ab e1=true)(p2:ab e2=true)(p3:ab e3=true)(p4:ab e4=true)(pr:ab rl=true)(k1 k2 k3 k4:CF)(pol trm:Bool)(nm:B5)(n:Nat)(l1:e1.length<2^30)(l2:e2.length<2^30)(l3:e3.length<2^30)(l4:e4.length<2^30)(hn:n=e3.length+1)(s:B5)(hs:s.length<4294967281)(hq:bn (aw s).1=0)
include p1 p2 p3 p4 pr l1 l2 l3 l4 hn hs hq
theorem aaS (hP:dJ s=none):ag G 541 [.ref 0 0 0,.str s] (bP e1.length e2.length n e4.length 3 pol trm e1 e2 (e3++[[AV.str nm,AV.vs 9 0 rl.length]]) e4 k1 k2 k3 k4 [.vec 3 rl]) ⟨pnV (.ifc 138 (.agg [.int .i64 2])),rP e1.length e2.length n e4.length 3 pol trm (.vec 2 e1) (.vec 2 e2) (.nest 2 e3 [[AV.str nm,AV.vs 9 0 rl.length]]) (.vec 3 e4) k1 k2 k3 k4 [(true,.vec 3 rl)]⟩:=by
 unfold bP rP;have h0:=hn_3 e1 e2 e3 e4 rl p1 p2 p3 p4 pr k1 k2 k3 k4 3 pol trm nm n l1 l2 l3 l4 hn s hs hq;have hx:(e3++[[AV.str nm,AV.vs 9 0 rl.length]])[((n:Int)-1).toNat]? =some [AV.str nm,AV.vs 9 0 rl.length]:=by rw[hn];simp
 have hset: ∀y x:B7,(e3++[y]).set ((n:Int)-1).toNat x=e3++[x]:=λy x=>by rw[hn];simp
 have h3:=λ(_:True)=>gY s (by omega)
 rw[hP] at h3;refine gvB (F:=jw) ?_
 (conv=>whnf)
 refine kP jD [] cu trivial h0 ?_
 repeat' (first|refine aW ?_|apply ae<;>intro h)
 (conv=>whnf)
 refine CallG.stop ?_;refine aH 588 (h3 trivial) (λQ hr hg=>?_)
 refine kV hg ?_;refine bt jD [] de ?_;rfl
theorem DV (b:Bool)(t:B5)(hP:dJ s=some (b,t))(R:Ret)(hbad: ∀e:Int,(eY b t rl.length).1=e->e≠0->R=⟨pnV (.ifc 138 (.agg [.int .i64 e])),rP e1.length e2.length n e4.length 3 pol trm (.vec 2 e1) (.vec 2 e2) (.nest 2 e3 [[AV.str nm,AV.vs 9 0 rl.length]]) (.vec 3 e4) k1 k2 k3 k4 [(true,.vec 3 rl)]⟩)(hok:(eY b t rl.length).1=0->R=⟨.tup [],rP e1.length e2.length n e4.length 3 pol trm (.vec 2 e1) (.vec 2 e2) (.nest 2 e3 [[AV.str nm,AV.vs 9 0 (rl.length+1)]]) (.vec 3 e4) k1 k2 k3 k4 [(false,.vec 3 (rl++[(eY b t rl.length).2.enc]))]⟩):ag G 541 [.ref 0 0 0,.str s] (bP e1.length e2.length n e4.length 3 pol trm e1 e2 (e3++[[AV.str nm,AV.vs 9 0 rl.length]]) e4 k1 k2 k3 k4 [.vec 3 rl]) R:=by
 unfold bP;have h0:=hn_3 e1 e2 e3 e4 rl p1 p2 p3 p4 pr k1 k2 k3 k4 3 pol trm nm n l1 l2 l3 l4 hn s hs hq;have hx:(e3++[[AV.str nm,AV.vs 9 0 rl.length]])[((n:Int)-1).toNat]? =some [AV.str nm,AV.vs 9 0 rl.length]:=by rw[hn];simp
 have hset: ∀y x:B7,(e3++[y]).set ((n:Int)-1).toNat x=e3++[x]:=λy x=>by rw[hn];simp
 have ht:=qh hP;have h3:=gY s (by omega)
 rw[hP] at h3;unfold yy at h3;refine gvB (F:=jw) ?_
 (conv=>whnf)
 refine kP jD [] cu trivial h0 ?_
 repeat' (first|refine aW ?_|apply ae<;>intro h)
 refine au [15,12,14,13] [0,1,2,3,4,5,6,7,8,9] ?_;exact wy e1 e2 e3 e4 rl p1 p2 p3 p4 pr k1 k2 k3 k4 pol trm nm n l1 l2 l3 l4 hn b t (by omega) R hbad hok t [] _ _ _ 0 rfl rfl (by simp) (by omega)
end
end Go.AM.IR
