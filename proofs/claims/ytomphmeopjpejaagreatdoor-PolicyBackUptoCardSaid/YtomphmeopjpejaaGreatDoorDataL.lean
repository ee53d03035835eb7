/- What functions of this program give. -/
import Derived.Test.YtomphmeopjpejaaGreatDoorDataI
set_option linter.unusedSectionVars false
set_option linter.unusedVariables false
set_option linter.unusedSimpArgs false
set_option maxHeartbeats 4000000
set_option maxRecDepth 20000
namespace Go.AM.IR
def cn:CF:=[110,111,116]
def iq:CF:=[112,114,111,116,111,99,111,108]
def lz:CF:=[116,97,103]
def gv:CF:=[109,101,116,114,105,99]
def ir:CF:=[112,97,116,104,45,108,101,110,103,116,104]
def iZ:CF:=[110,101,120,116,45,104,111,112]
def ii (k:Int)(ng:Bool)(o:D3):Option Mat:=match o with
 |some n=>some ⟨k,[],n,⟨0,0⟩,ng⟩
 |none=>none
def Jm (h t:CF)(ng:Bool):Option Mat:=
 if h=cR then some ⟨1,t,0,⟨0,0⟩,ng⟩ else if h=cQ then some ⟨2,t,0,⟨0,0⟩,ng⟩ else if h=cP then some ⟨3,t,0,⟨0,0⟩,ng⟩ else
 if h=iq then ii 4 ng (n32 t) else if h=lz then ii 5 ng (n32 t) else if h=gv then ii 6 ng (n32 t) else if h=ir then ii 8 ng (n32 t) else
 if h=iZ then (if (J.psP t).2=0 then some ⟨7,[],0,(J.psP t).1,ng⟩ else none) else none
def sI (p:CF×CF)(ng:Bool):Option Mat:=if bv p.2=true then Jm p.1 p.2 ng else none
def j4 (s:CF):Option Mat:=if (ax s).1=cn then sI (ax (ax s).2) true else sI (ax s) false
def mR:Option Mat->Ret
 |some m=>⟨.agg m.enc,[]⟩
 |none=>pF 2
section
variable (s:CF)(hs:s.length<4294967281)(t0:CF)(hc0:ax s=(cn,t0))(w t:CF)(hc:ax t0=(w,t))
include hs hc0 hc
theorem YX (ho: ¬bv t=true):ab G 593 [.str s] [] (pF 2):=by
 have h0:=az s (by omega)
 rw[hc0] at h0;have hl0:t0.length<=s.length:=by have:=(ba s).2;rw[hc0] at this;exact this
 have h1:=az t0 (by omega)
 rw[hc] at h1;have hl:t.length<=t0.length:=by have:=(ba t0).2;rw[hc] at this;exact this
 dsimp only at*;unfold cn at*;have h3:=λ(_:True)=>aZ t (by omega)
 rw[Ac ho] at h3;refine gvC (F:=ef) ?_
 repeat' ((conv=>whnf);first|refine bl ?_|refine ay ?_|apply ae<;>intro h)
 (conv=>whnf)
 refine CallG.stop ?_;refine aE 597 (h3 trivial) (λQ hr hg=>?_)
 refine kV hg ?_;rfl
theorem aeW (hw:w=cR)(ho:bv t=true):ab G 593 [.str s] [] ⟨.agg (Mat.enc ⟨1,t,0,⟨0,0⟩,true⟩),[]⟩:=by
 have h0:=az s (by omega)
 rw[hc0] at h0;have hl0:t0.length<=s.length:=by have:=(ba s).2;rw[hc0] at this;exact this
 have h1:=az t0 (by omega)
 rw[hc] at h1;have hl:t.length<=t0.length:=by have:=(ba t0).2;rw[hc] at this;exact this
 dsimp only at*;unfold cn at*;have h3:=aZ t (by omega)
 rw[Ad ho] at h3;unfold cR at hw;subst hw;refine gvC (F:=ef) ?_
 repeat' ((conv=>whnf);first|refine bl ?_|refine ay ?_|apply ae<;>intro h)
 refine au ?_;(conv=>whnf);refine Go.AM.finC ?_;rfl
theorem aeV (hw:w=cQ)(ho:bv t=true):ab G 593 [.str s] [] ⟨.agg (Mat.enc ⟨2,t,0,⟨0,0⟩,true⟩),[]⟩:=by
 have h0:=az s (by omega)
 rw[hc0] at h0;have hl0:t0.length<=s.length:=by have:=(ba s).2;rw[hc0] at this;exact this
 have h1:=az t0 (by omega)
 rw[hc] at h1;have hl:t.length<=t0.length:=by have:=(ba t0).2;rw[hc] at this;exact this
 dsimp only at*;unfold cn at*;have h3:=aZ t (by omega)
 rw[Ad ho] at h3;unfold cQ at hw;subst hw;refine gvC (F:=ef) ?_
 repeat' ((conv=>whnf);first|refine aU (by decide) ?_|refine bl ?_|refine ay ?_|apply ae<;>intro h)
 refine au ?_;(conv=>whnf);refine Go.AM.finC ?_;rfl
theorem aeU (hw:w=cP)(ho:bv t=true):ab G 593 [.str s] [] ⟨.agg (Mat.enc ⟨3,t,0,⟨0,0⟩,true⟩),[]⟩:=by
 have h0:=az s (by omega)
 rw[hc0] at h0;have hl0:t0.length<=s.length:=by have:=(ba s).2;rw[hc0] at this;exact this
 have h1:=az t0 (by omega)
 rw[hc] at h1;have hl:t.length<=t0.length:=by have:=(ba t0).2;rw[hc] at this;exact this
 dsimp only at*;unfold cn at*;have h3:=aZ t (by omega)
 rw[Ad ho] at h3;unfold cP at hw;subst hw;refine gvC (F:=ef) ?_
 repeat' ((conv=>whnf);first|refine aU (by decide) ?_|refine bl ?_|refine ay ?_|apply ae<;>intro h)
 refine au ?_;(conv=>whnf);refine Go.AM.finC ?_;rfl
theorem aeT (hw:w=iq)(ho:bv t=true):ab G 593 [.str s] [] (mR (ii 4 true (n32 t))):=by
 have h0:=az s (by omega)
 rw[hc0] at h0;have hl0:t0.length<=s.length:=by have:=(ba s).2;rw[hc0] at this;exact this
 have h1:=az t0 (by omega)
 rw[hc] at h1;have hl:t.length<=t0.length:=by have:=(ba t0).2;rw[hc] at this;exact this
 dsimp only at*;unfold cn at*;have h3:=aZ t (by omega)
 rw[Ad ho] at h3;unfold iq at hw;subst hw;have h4:=bM t (by omega)
 cases hq:n32 t with
 |some v=>
  rw[hq] at h4;unfold vF at h4;refine gvC (F:=ef) ?_
  repeat' ((conv=>whnf);first|refine aU (by decide) ?_|refine bl ?_|refine ay ?_|apply ae<;>intro h)
  refine au ?_;(conv=>whnf);refine Go.AM.finC ?_;rfl
 |none=>
  rw[hq] at h4;replace h4:=λ(_:True)=>h4
  refine gvC (F:=ef) ?_
  repeat' ((conv=>whnf);first|refine aU (by decide) ?_|refine bl ?_|refine ay ?_|apply ae<;>intro h)
  (conv=>whnf)
  refine CallG.stop ?_;refine aE 629 (h4 trivial) (λQ hr hg=>?_)
  refine kV hg ?_;rfl
theorem aeS (hw:w=lz)(ho:bv t=true):ab G 593 [.str s] [] (mR (ii 5 true (n32 t))):=by
 have h0:=az s (by omega)
 rw[hc0] at h0;have hl0:t0.length<=s.length:=by have:=(ba s).2;rw[hc0] at this;exact this
 have h1:=az t0 (by omega)
 rw[hc] at h1;have hl:t.length<=t0.length:=by have:=(ba t0).2;rw[hc] at this;exact this
 dsimp only at*;unfold cn at*;have h3:=aZ t (by omega)
 rw[Ad ho] at h3;unfold lz at hw;subst hw;have h4:=bM t (by omega)
 cases hq:n32 t with
 |some v=>
  rw[hq] at h4;unfold vF at h4;refine gvC (F:=ef) ?_
  repeat' ((conv=>whnf);first|refine aU (by decide) ?_|refine bl ?_|refine ay ?_|apply ae<;>intro h)
  refine au ?_;(conv=>whnf);refine Go.AM.finC ?_;rfl
 |none=>
  rw[hq] at h4;replace h4:=λ(_:True)=>h4
  refine gvC (F:=ef) ?_
  repeat' ((conv=>whnf);first|refine aU (by decide) ?_|refine bl ?_|refine ay ?_|apply ae<;>intro h)
  (conv=>whnf)
  refine CallG.stop ?_;refine aE 629 (h4 trivial) (λQ hr hg=>?_)
  refine kV hg ?_;rfl
theorem aeR (hw:w=gv)(ho:bv t=true):ab G 593 [.str s] [] (mR (ii 6 true (n32 t))):=by
 have h0:=az s (by omega)
 rw[hc0] at h0;have hl0:t0.length<=s.length:=by have:=(ba s).2;rw[hc0] at this;exact this
 have h1:=az t0 (by omega)
 rw[hc] at h1;have hl:t.length<=t0.length:=by have:=(ba t0).2;rw[hc] at this;exact this
 dsimp only at*;unfold cn at*;have h3:=aZ t (by omega)
 rw[Ad ho] at h3;unfold gv at hw;subst hw;have h4:=bM t (by omega)
 cases hq:n32 t with
 |some v=>
  rw[hq] at h4;unfold vF at h4;refine gvC (F:=ef) ?_
  repeat' ((conv=>whnf);first|refine aU (by decide) ?_|refine bl ?_|refine ay ?_|apply ae<;>intro h)
  refine au ?_;(conv=>whnf);refine Go.AM.finC ?_;rfl
 |none=>
  rw[hq] at h4;replace h4:=λ(_:True)=>h4
  refine gvC (F:=ef) ?_
  repeat' ((conv=>whnf);first|refine aU (by decide) ?_|refine bl ?_|refine ay ?_|apply ae<;>intro h)
  (conv=>whnf)
  refine CallG.stop ?_;refine aE 629 (h4 trivial) (λQ hr hg=>?_)
  refine kV hg ?_;rfl
theorem aeP (hw:w=ir)(ho:bv t=true):ab G 593 [.str s] [] (mR (ii 8 true (n32 t))):=by
 have h0:=az s (by omega)
 rw[hc0] at h0;have hl0:t0.length<=s.length:=by have:=(ba s).2;rw[hc0] at this;exact this
 have h1:=az t0 (by omega)
 rw[hc] at h1;have hl:t.length<=t0.length:=by have:=(ba t0).2;rw[hc] at this;exact this
 dsimp only at*;unfold cn at*;have h3:=aZ t (by omega)
 rw[Ad ho] at h3;unfold ir at hw;subst hw;have h4:=bM t (by omega)
 cases hq:n32 t with
 |some v=>
  rw[hq] at h4;unfold vF at h4;refine gvC (F:=ef) ?_
  repeat' ((conv=>whnf);first|refine aU (by decide) ?_|refine bl ?_|refine ay ?_|apply ae<;>intro h)
  refine au ?_;(conv=>whnf);refine Go.AM.finC ?_;rfl
 |none=>
  rw[hq] at h4;replace h4:=λ(_:True)=>h4
  refine gvC (F:=ef) ?_
  repeat' ((conv=>whnf);first|refine aU (by decide) ?_|refine bl ?_|refine ay ?_|apply ae<;>intro h)
  (conv=>whnf)
  refine CallG.stop ?_;refine aE 629 (h4 trivial) (λQ hr hg=>?_)
  refine kV hg ?_;rfl
theorem aeQ (hw:w=iZ)(ho:bv t=true):ab G 593 [.str s] [] (mR (if (J.psP t).2=0 then some ⟨7,[],0,(J.psP t).1,true⟩ else none)):=by
 have h0:=az s (by omega)
 rw[hc0] at h0;have hl0:t0.length<=s.length:=by have:=(ba s).2;rw[hc0] at this;exact this
 have h1:=az t0 (by omega)
 rw[hc] at h1;have hl:t.length<=t0.length:=by have:=(ba t0).2;rw[hc] at this;exact this
 dsimp only at*;unfold cn at*;have h3:=aZ t (by omega)
 rw[Ad ho] at h3;unfold iZ at hw;subst hw;have h4:=J.parse_gives233 t (by omega)
 have h5:=aM true;rw[Ad rfl] at h5;unfold J.pfR at h4;generalize J.psP t=x at*;obtain ⟨⟨a,l⟩,e⟩:=x;dsimp only at*
 by_cases he:e=0
 ·subst he
  rw[Ad rfl];refine gvC (F:=ef) ?_
  repeat' ((conv=>whnf);first|refine aU (by decide) ?_|refine bl ?_|refine ay ?_|apply ae<;>intro h)
  refine au ?_;(conv=>whnf);refine Go.AM.finC ?_;rfl
 ·have h6:=λ(_:True)=>aM false
  rw[Ac he];refine gvC (F:=ef) ?_
  repeat' ((conv=>whnf);first|refine jf he ?_|refine aU (by decide) ?_|refine bl ?_|refine ay ?_|apply ae<;>intro h)
  (conv=>whnf)
  refine CallG.stop ?_;refine aE 586 (h6 trivial) (λQ hr hg=>?_)
  refine kV hg ?_;rfl
theorem aeX (n0:w≠cR)(n1:w≠cQ)(n2:w≠cP)(n3:w≠iq)(n4:w≠lz)(n5:w≠gv)(n6:w≠ir)(n7:w≠iZ)(ho:bv t=true):ab G 593 [.str s] [] (pF 2):=by
 have h0:=az s (by omega)
 rw[hc0] at h0;have hl0:t0.length<=s.length:=by have:=(ba s).2;rw[hc0] at this;exact this
 have h1:=az t0 (by omega)
 rw[hc] at h1;have hl:t.length<=t0.length:=by have:=(ba t0).2;rw[hc] at this;exact this
 dsimp only at*;unfold cn at*;have h3:=aZ t (by omega)
 rw[Ad ho] at h3;unfold cR at n0;unfold cQ at n1;unfold cP at n2;unfold iq at n3;unfold lz at n4;unfold gv at n5;unfold ir at n6;unfold iZ at n7;have h5:=λ(_:True)=>aM false
 refine gvC (F:=ef) ?_
 repeat' ((conv=>whnf);first|refine aU n0 ?_|refine aU n1 ?_|refine aU n2 ?_|refine aU n3 ?_|refine aU n4 ?_|refine aU n5 ?_|refine aU n6 ?_|refine aU n7 ?_|refine bl ?_|refine ay ?_|apply ae<;>intro h)
 (conv=>whnf)
 refine CallG.stop ?_;refine aE 586 (h5 trivial) (λQ hr hg=>?_)
 refine kV hg ?_;rfl
end
section
variable (s:CF)(hs:s.length<4294967281)(w t:CF)(hc:ax s=(w,t))(hn:w≠cn)
include hs hc hn
theorem YW (ho: ¬bv t=true):ab G 593 [.str s] [] (pF 2):=by
 have h1:=az s (by omega)
 rw[hc] at h1;have hl:t.length<=s.length:=by have:=(ba s).2;rw[hc] at this;exact this
 dsimp only at*;unfold cn at hn;have h3:=λ(_:True)=>aZ t (by omega)
 rw[Ac ho] at h3;refine gvC (F:=ef) ?_
 repeat' ((conv=>whnf);first|refine aU hn ?_|refine ay ?_|apply ae<;>intro h)
 (conv=>whnf)
 refine CallG.stop ?_;refine aE 597 (h3 trivial) (λQ hr hg=>?_)
 refine kV hg ?_;rfl
theorem aeN (hw:w=cR)(ho:bv t=true):ab G 593 [.str s] [] ⟨.agg (Mat.enc ⟨1,t,0,⟨0,0⟩,false⟩),[]⟩:=by
 have h1:=az s (by omega)
 rw[hc] at h1;have hl:t.length<=s.length:=by have:=(ba s).2;rw[hc] at this;exact this
 dsimp only at*;unfold cn at hn;have h3:=aZ t (by omega)
 rw[Ad ho] at h3;unfold cR at hw;subst hw;refine gvC (F:=ef) ?_
 repeat' ((conv=>whnf);first|refine aU (by decide) ?_|refine bl ?_|refine ay ?_|apply ae<;>intro h)
 refine au ?_;(conv=>whnf);refine Go.AM.finC ?_;rfl
theorem aeM (hw:w=cQ)(ho:bv t=true):ab G 593 [.str s] [] ⟨.agg (Mat.enc ⟨2,t,0,⟨0,0⟩,false⟩),[]⟩:=by
 have h1:=az s (by omega)
 rw[hc] at h1;have hl:t.length<=s.length:=by have:=(ba s).2;rw[hc] at this;exact this
 dsimp only at*;unfold cn at hn;have h3:=aZ t (by omega)
 rw[Ad ho] at h3;unfold cQ at hw;subst hw;refine gvC (F:=ef) ?_
 repeat' ((conv=>whnf);first|refine aU (by decide) ?_|refine bl ?_|refine ay ?_|apply ae<;>intro h)
 refine au ?_;(conv=>whnf);refine Go.AM.finC ?_;rfl
theorem aeL (hw:w=cP)(ho:bv t=true):ab G 593 [.str s] [] ⟨.agg (Mat.enc ⟨3,t,0,⟨0,0⟩,false⟩),[]⟩:=by
 have h1:=az s (by omega)
 rw[hc] at h1;have hl:t.length<=s.length:=by have:=(ba s).2;rw[hc] at this;exact this
 dsimp only at*;unfold cn at hn;have h3:=aZ t (by omega)
 rw[Ad ho] at h3;unfold cP at hw;subst hw;refine gvC (F:=ef) ?_
 repeat' ((conv=>whnf);first|refine aU (by decide) ?_|refine bl ?_|refine ay ?_|apply ae<;>intro h)
 refine au ?_;(conv=>whnf);refine Go.AM.finC ?_;rfl
theorem aeK (hw:w=iq)(ho:bv t=true):ab G 593 [.str s] [] (mR (ii 4 false (n32 t))):=by
 have h1:=az s (by omega)
 rw[hc] at h1;have hl:t.length<=s.length:=by have:=(ba s).2;rw[hc] at this;exact this
 dsimp only at*;unfold cn at hn;have h3:=aZ t (by omega)
 rw[Ad ho] at h3;unfold iq at hw;subst hw;have h4:=bM t (by omega)
 cases hq:n32 t with
 |some v=>
  rw[hq] at h4;unfold vF at h4;refine gvC (F:=ef) ?_
  repeat' ((conv=>whnf);first|refine aU (by decide) ?_|refine bl ?_|refine ay ?_|apply ae<;>intro h)
  refine au ?_;(conv=>whnf);refine Go.AM.finC ?_;rfl
 |none=>
  rw[hq] at h4;replace h4:=λ(_:True)=>h4
  refine gvC (F:=ef) ?_
  repeat' ((conv=>whnf);first|refine aU (by decide) ?_|refine bl ?_|refine ay ?_|apply ae<;>intro h)
  (conv=>whnf)
  refine CallG.stop ?_;refine aE 629 (h4 trivial) (λQ hr hg=>?_)
  refine kV hg ?_;rfl
theorem aeJ (hw:w=lz)(ho:bv t=true):ab G 593 [.str s] [] (mR (ii 5 false (n32 t))):=by
 have h1:=az s (by omega)
 rw[hc] at h1;have hl:t.length<=s.length:=by have:=(ba s).2;rw[hc] at this;exact this
 dsimp only at*;unfold cn at hn;have h3:=aZ t (by omega)
 rw[Ad ho] at h3;unfold lz at hw;subst hw;have h4:=bM t (by omega)
 cases hq:n32 t with
 |some v=>
  rw[hq] at h4;unfold vF at h4;refine gvC (F:=ef) ?_
  repeat' ((conv=>whnf);first|refine aU (by decide) ?_|refine bl ?_|refine ay ?_|apply ae<;>intro h)
  refine au ?_;(conv=>whnf);refine Go.AM.finC ?_;rfl
 |none=>
  rw[hq] at h4;replace h4:=λ(_:True)=>h4
  refine gvC (F:=ef) ?_
  repeat' ((conv=>whnf);first|refine aU (by decide) ?_|refine bl ?_|refine ay ?_|apply ae<;>intro h)
  (conv=>whnf)
  refine CallG.stop ?_;refine aE 629 (h4 trivial) (λQ hr hg=>?_)
  refine kV hg ?_;rfl
theorem aeI (hw:w=gv)(ho:bv t=true):ab G 593 [.str s] [] (mR (ii 6 false (n32 t))):=by
 have h1:=az s (by omega)
 rw[hc] at h1;have hl:t.length<=s.length:=by have:=(ba s).2;rw[hc] at this;exact this
 dsimp only at*;unfold cn at hn;have h3:=aZ t (by omega)
 rw[Ad ho] at h3;unfold gv at hw;subst hw;have h4:=bM t (by omega)
 cases hq:n32 t with
 |some v=>
  rw[hq] at h4;unfold vF at h4;refine gvC (F:=ef) ?_
  repeat' ((conv=>whnf);first|refine aU (by decide) ?_|refine bl ?_|refine ay ?_|apply ae<;>intro h)
  refine au ?_;(conv=>whnf);refine Go.AM.finC ?_;rfl
 |none=>
  rw[hq] at h4;replace h4:=λ(_:True)=>h4
  refine gvC (F:=ef) ?_
  repeat' ((conv=>whnf);first|refine aU (by decide) ?_|refine bl ?_|refine ay ?_|apply ae<;>intro h)
  (conv=>whnf)
  refine CallG.stop ?_;refine aE 629 (h4 trivial) (λQ hr hg=>?_)
  refine kV hg ?_;rfl
theorem aeG (hw:w=ir)(ho:bv t=true):ab G 593 [.str s] [] (mR (ii 8 false (n32 t))):=by
 have h1:=az s (by omega)
 rw[hc] at h1;have hl:t.length<=s.length:=by have:=(ba s).2;rw[hc] at this;exact this
 dsimp only at*;unfold cn at hn;have h3:=aZ t (by omega)
 rw[Ad ho] at h3;unfold ir at hw;subst hw;have h4:=bM t (by omega)
 cases hq:n32 t with
 |some v=>
  rw[hq] at h4;unfold vF at h4;refine gvC (F:=ef) ?_
  repeat' ((conv=>whnf);first|refine aU (by decide) ?_|refine bl ?_|refine ay ?_|apply ae<;>intro h)
  refine au ?_;(conv=>whnf);refine Go.AM.finC ?_;rfl
 |none=>
  rw[hq] at h4;replace h4:=λ(_:True)=>h4
  refine gvC (F:=ef) ?_
  repeat' ((conv=>whnf);first|refine aU (by decide) ?_|refine bl ?_|refine ay ?_|apply ae<;>intro h)
  (conv=>whnf)
  refine CallG.stop ?_;refine aE 629 (h4 trivial) (λQ hr hg=>?_)
  refine kV hg ?_;rfl
theorem aeH (hw:w=iZ)(ho:bv t=true):ab G 593 [.str s] [] (mR (if (J.psP t).2=0 then some ⟨7,[],0,(J.psP t).1,false⟩ else none)):=by
 have h1:=az s (by omega)
 rw[hc] at h1;have hl:t.length<=s.length:=by have:=(ba s).2;rw[hc] at this;exact this
 dsimp only at*;unfold cn at hn;have h3:=aZ t (by omega)
 rw[Ad ho] at h3;unfold iZ at hw;subst hw;have h4:=J.parse_gives233 t (by omega)
 have h5:=aM true;rw[Ad rfl] at h5;unfold J.pfR at h4;generalize J.psP t=x at*;obtain ⟨⟨a,l⟩,e⟩:=x;dsimp only at*
 by_cases he:e=0
 ·subst he
  rw[Ad rfl];refine gvC (F:=ef) ?_
  repeat' ((conv=>whnf);first|refine aU (by decide) ?_|refine bl ?_|refine ay ?_|apply ae<;>intro h)
  refine au ?_;(conv=>whnf);refine Go.AM.finC ?_;rfl
 ·have h6:=λ(_:True)=>aM false
  rw[Ac he];refine gvC (F:=ef) ?_
  repeat' ((conv=>whnf);first|refine jf he ?_|refine aU (by decide) ?_|refine bl ?_|refine ay ?_|apply ae<;>intro h)
  (conv=>whnf)
  refine CallG.stop ?_;refine aE 586 (h6 trivial) (λQ hr hg=>?_)
  refine kV hg ?_;rfl
theorem aeO (n0:w≠cR)(n1:w≠cQ)(n2:w≠cP)(n3:w≠iq)(n4:w≠lz)(n5:w≠gv)(n6:w≠ir)(n7:w≠iZ)(ho:bv t=true):ab G 593 [.str s] [] (pF 2):=by
 have h1:=az s (by omega)
 rw[hc] at h1;have hl:t.length<=s.length:=by have:=(ba s).2;rw[hc] at this;exact this
 dsimp only at*;unfold cn at hn;have h3:=aZ t (by omega)
 rw[Ad ho] at h3;unfold cR at n0;unfold cQ at n1;unfold cP at n2;unfold iq at n3;unfold lz at n4;unfold gv at n5;unfold ir at n6;unfold iZ at n7;have h5:=λ(_:True)=>aM false
 refine gvC (F:=ef) ?_
 repeat' ((conv=>whnf);first|refine aU n0 ?_|refine aU n1 ?_|refine aU n2 ?_|refine aU n3 ?_|refine aU n4 ?_|refine aU n5 ?_|refine aU n6 ?_|refine aU n7 ?_|refine aU hn ?_|refine ay ?_|apply ae<;>intro h)
 (conv=>whnf)
 refine CallG.stop ?_;refine aE 586 (h5 trivial) (λQ hr hg=>?_)
 refine kV hg ?_;rfl
end
theorem abS {s:CF}{p:CF×CF}{ng:Bool}(hw: ¬bv p.2=true->ab G 593 [.str s] [] (pF 2))(h1:p.1=cR->bv p.2=true->ab G 593 [.str s] [] ⟨.agg (Mat.enc ⟨1,p.2,0,⟨0,0⟩,ng⟩),[]⟩)(h2:p.1=cQ->bv p.2=true->ab G 593 [.str s] [] ⟨.agg (Mat.enc ⟨2,p.2,0,⟨0,0⟩,ng⟩),[]⟩)(h3:p.1=cP->bv p.2=true->ab G 593 [.str s] [] ⟨.agg (Mat.enc ⟨3,p.2,0,⟨0,0⟩,ng⟩),[]⟩)(h4:p.1=iq->bv p.2=true->ab G 593 [.str s] [] (mR (ii 4 ng (n32 p.2))))(h5:p.1=lz->bv p.2=true->ab G 593 [.str s] [] (mR (ii 5 ng (n32 p.2))))(h6:p.1=gv->bv p.2=true->ab G 593 [.str s] [] (mR (ii 6 ng (n32 p.2))))(h8:p.1=ir->bv p.2=true->ab G 593 [.str s] [] (mR (ii 8 ng (n32 p.2))))(h7:p.1=iZ->bv p.2=true->ab G 593 [.str s] [] (mR (if (J.psP p.2).2=0 then some ⟨7,[],0,(J.psP p.2).1,ng⟩ else none)))(h0:p.1≠cR->p.1≠cQ->p.1≠cP->p.1≠iq->p.1≠lz->p.1≠gv->p.1≠ir->p.1≠iZ->bv p.2=true->ab G 593 [.str s] [] (pF 2)):ab G 593 [.str s] [] (mR (sI p ng)):=by
 unfold sI Jm
 by_cases ho:bv p.2=true
 ·rw[Ad ho]
  by_cases c1:p.1=cR
  ·rw[Ad c1];exact h1 c1 ho
  rw[Ac c1]
  by_cases c2:p.1=cQ
  ·rw[Ad c2];exact h2 c2 ho
  rw[Ac c2]
  by_cases c3:p.1=cP
  ·rw[Ad c3];exact h3 c3 ho
  rw[Ac c3]
  by_cases c4:p.1=iq
  ·rw[Ad c4];exact h4 c4 ho
  rw[Ac c4]
  by_cases c5:p.1=lz
  ·rw[Ad c5];exact h5 c5 ho
  rw[Ac c5]
  by_cases c6:p.1=gv
  ·rw[Ad c6];exact h6 c6 ho
  rw[Ac c6]
  by_cases c8:p.1=ir
  ·rw[Ad c8];exact h8 c8 ho
  rw[Ac c8]
  by_cases c7:p.1=iZ
  ·rw[Ad c7];exact h7 c7 ho
  rw[Ac c7];exact h0 c1 c2 c3 c4 c5 c6 c8 c7 ho
 ·rw[Ac ho];exact hw ho
theorem lJ (s:CF)(hs:s.length<4294967281):ab G 593 [.str s] [] (mR (j4 s)):=by
 unfold j4
 by_cases c:(ax s).1=cn
 ·rw[Ad c]
  have e:ax s=(cn,(ax s).2):=by rw[<-c]
  have f:=(rfl:ax (ax s).2=((ax (ax s).2).1,(ax (ax s).2).2));exact abS (λa=>YX s hs _ e _ _ f a) (λa b=>aeW s hs _ e _ _ f a b) (λa b=>aeV s hs _ e _ _ f a b) (λa b=>aeU s hs _ e _ _ f a b) (λa b=>aeT s hs _ e _ _ f a b) (λa b=>aeS s hs _ e _ _ f a b) (λa b=>aeR s hs _ e _ _ f a b) (λa b=>aeP s hs _ e _ _ f a b) (λa b=>aeQ s hs _ e _ _ f a b) (λa1 a2 a3 a4 a5 a6 a7 a8 b=>aeX s hs _ e _ _ f a1 a2 a3 a4 a5 a6 a7 a8 b)
 ·rw[Ac c]
  have f:=(rfl:ax s=((ax s).1,(ax s).2));exact abS (λa=>YW s hs _ _ f c a) (λa b=>aeN s hs _ _ f c a b) (λa b=>aeM s hs _ _ f c a b) (λa b=>aeL s hs _ _ f c a b) (λa b=>aeK s hs _ _ f c a b) (λa b=>aeJ s hs _ _ f c a b) (λa b=>aeI s hs _ _ f c a b) (λa b=>aeG s hs _ _ f c a b) (λa b=>aeH s hs _ _ f c a b) (λa1 a2 a3 a4 a5 a6 a7 a8 b=>aeO s hs _ _ f c a1 a2 a3 a4 a5 a6 a7 a8 b)
section
variable (e1 e2 e3 e4 rl:CS)(p1:aa e1=true)(p2:aa e2=true)(p3:aa e3=true)(p4:aa e4=true)(pr:aa rl=true)(k1 k2 k3 k4:C5)(so:Int)(pol trm:Bool)(nm:CF)(n:Nat)(l1:e1.length<2^30)(l2:e2.length<2^30)(l3:e3.length<2^30)(l4:e4.length<2^30)
include p1 p2 p3 p4 pr l1 l2 l3 l4
theorem Zp (hn:n=e1.length+1)(s:CF)(hs:s.length<4294967281)(hq:bH (ax s).1=0):ab G 585 [.ref 0 0 0,.str s] (bP n e2.length e3.length e4.length so pol trm (e1++[[AV.str nm,AV.vs 9 0 rl.length]]) e2 e3 e4 k1 k2 k3 k4 [.vec 5 rl]) ⟨.bool false,rP n e2.length e3.length e4.length so pol trm (.nest 2 e1 [[AV.str nm,AV.vs 9 0 rl.length]]) (.vec 2 e2) (.vec 2 e3) (.vec 3 e4) k1 k2 k3 k4 [(true,.vec 5 rl)]⟩:=by
 unfold bP rP;have h0:=az s (by omega)
 obtain ⟨h1,h2,h3,h4⟩:=py hq;generalize ax s=ct at*;obtain ⟨w,t⟩:=ct;dsimp only at*;unfold cR at h1;unfold cQ at h2;unfold cP at h3;unfold gH at h4;refine gvC (F:=gj) ?_
 repeat' ((conv=>whnf);first|refine aU h1 ?_|refine aU h2 ?_|refine aU h3 ?_|refine aU h4 ?_|refine ay ?_|apply ae<;>intro h)
 (first|refine cY lC [] cW ?_|refine cZ lC [] cW ?_)
 rfl
theorem RF (hn:n=e2.length+1)(s:CF)(hs:s.length<4294967281)(hq:bH (ax s).1=0):ab G 585 [.ref 0 0 0,.str s] (bP e1.length n e3.length e4.length so pol trm e1 (e2++[[AV.str nm,AV.vs 9 0 rl.length]]) e3 e4 k1 k2 k3 k4 [.vec 2 rl]) ⟨.bool false,rP e1.length n e3.length e4.length so pol trm (.vec 2 e1) (.nest 2 e2 [[AV.str nm,AV.vs 9 0 rl.length]]) (.vec 2 e3) (.vec 3 e4) k1 k2 k3 k4 [(true,.vec 2 rl)]⟩:=by
 unfold bP rP;have h0:=az s (by omega)
 obtain ⟨h1,h2,h3,h4⟩:=py hq;generalize ax s=ct at*;obtain ⟨w,t⟩:=ct;dsimp only at*;unfold cR at h1;unfold cQ at h2;unfold cP at h3;unfold gH at h4;refine gvC (F:=gj) ?_
 repeat' ((conv=>whnf);first|refine aU h1 ?_|refine aU h2 ?_|refine aU h3 ?_|refine aU h4 ?_|refine ay ?_|apply ae<;>intro h)
 (first|refine cY j3 [] cW ?_|refine cZ j3 [] cW ?_)
 rfl
theorem hn_3 (hn:n=e3.length+1)(s:CF)(hs:s.length<4294967281)(hq:bH (ax s).1=0):ab G 585 [.ref 0 0 0,.str s] (bP e1.length e2.length n e4.length so pol trm e1 e2 (e3++[[AV.str nm,AV.vs 9 0 rl.length]]) e4 k1 k2 k3 k4 [.vec 3 rl]) ⟨.bool false,rP e1.length e2.length n e4.length so pol trm (.vec 2 e1) (.vec 2 e2) (.nest 2 e3 [[AV.str nm,AV.vs 9 0 rl.length]]) (.vec 3 e4) k1 k2 k3 k4 [(true,.vec 3 rl)]⟩:=by
 unfold bP rP;have h0:=az s (by omega)
 obtain ⟨h1,h2,h3,h4⟩:=py hq;generalize ax s=ct at*;obtain ⟨w,t⟩:=ct;dsimp only at*;unfold cR at h1;unfold cQ at h2;unfold cP at h3;unfold gH at h4;refine gvC (F:=gj) ?_
 repeat' ((conv=>whnf);first|refine aU h1 ?_|refine aU h2 ?_|refine aU h3 ?_|refine aU h4 ?_|refine ay ?_|apply ae<;>intro h)
 (first|refine cY jG [] cW ?_|refine cZ jG [] cW ?_)
 rfl
section
variable (hn:n=e1.length+1)(s:CF)(hs:s.length<4294967281)(hq:bH (ax s).1=0)
include hn hs hq
theorem acL (hb:(J.plP s).2≠0):ab G 541 [.ref 0 0 0,.str s] (bP n e2.length e3.length e4.length 1 pol trm (e1++[[AV.str nm,AV.vs 9 0 rl.length]]) e2 e3 e4 k1 k2 k3 k4 [.vec 5 rl]) ⟨pnV (.ifc 138 (.agg [.int .i64 2])),rP n e2.length e3.length e4.length 1 pol trm (.nest 2 e1 [[AV.str nm,AV.vs 9 0 rl.length]]) (.vec 2 e2) (.vec 2 e3) (.vec 3 e4) k1 k2 k3 k4 [(true,.vec 5 rl)]⟩:=by
 unfold bP rP;have h0:=Zp e1 e2 e3 e4 rl p1 p2 p3 p4 pr k1 k2 k3 k4 1 pol trm nm n l1 l2 l3 l4 hn s hs hq;have hx:(e1++[[AV.str nm,AV.vs 9 0 rl.length]])[((n:Int)-1).toNat]? =some [AV.str nm,AV.vs 9 0 rl.length]:=by rw[hn];simp
 have hset: ∀y x:CL,(e1++[y]).set ((n:Int)-1).toNat x=e1++[x]:=λy x=>by rw[hn];simp
 have h2:=λ(_:True)=>aM false
 have h3:=J.parse_gives334 s hs;unfold J.prR5 J.PRule.enc at h3;generalize J.plP s=x at*;obtain ⟨⟨v,⟨pa,pl⟩,mn,mx⟩,e⟩:=x;dsimp only at*;have hb': ¬e=0:=hb;refine gvB (F:=jx) ?_
 (conv=>whnf)
 refine kP lC [] ck trivial h0 ?_
 repeat' ((conv=>whnf);first|refine jf hb' ?_|refine ay ?_|apply ae<;>intro h)
 (conv=>whnf)
 refine CallG.stop ?_;refine aE 586 (h2 trivial) (λQ hr hg=>?_)
 refine kV hg ?_;refine bn lC [] cW ?_;rfl
theorem Yi (hb:(J.plP s).2=0)(hk:64<=rl.length):ab G 541 [.ref 0 0 0,.str s] (bP n e2.length e3.length e4.length 1 pol trm (e1++[[AV.str nm,AV.vs 9 0 rl.length]]) e2 e3 e4 k1 k2 k3 k4 [.vec 5 rl]) ⟨pnV (.ifc 138 (.agg [.int .i64 4])),rP n e2.length e3.length e4.length 1 pol trm (.nest 2 e1 [[AV.str nm,AV.vs 9 0 rl.length]]) (.vec 2 e2) (.vec 2 e3) (.vec 3 e4) k1 k2 k3 k4 [(true,.vec 5 rl)]⟩:=by
 unfold bP rP;have h0:=Zp e1 e2 e3 e4 rl p1 p2 p3 p4 pr k1 k2 k3 k4 1 pol trm nm n l1 l2 l3 l4 hn s hs hq;have hx:(e1++[[AV.str nm,AV.vs 9 0 rl.length]])[((n:Int)-1).toNat]? =some [AV.str nm,AV.vs 9 0 rl.length]:=by rw[hn];simp
 have hset: ∀y x:CL,(e1++[y]).set ((n:Int)-1).toNat x=e1++[x]:=λy x=>by rw[hn];simp
 have h2:=aM true;rw[Ad rfl] at h2;have h3:=J.parse_gives334 s hs;unfold J.prR5 J.PRule.enc at h3;rw[hb] at h3;generalize (J.plP s).1=x at*;obtain ⟨v,⟨pa,pl⟩,mn,mx⟩:=x;dsimp only at*
 have h4:True->ab G 587 [.int .i64 (rl.length:Int)] [] (pF 4):=λ_=>by
  have:=b9 (rl.length:Int);rwa [Ac (by omega)] at this
 refine gvB (F:=jx) ?_
 (conv=>whnf)
 refine kP lC [] ck trivial h0 ?_
 repeat' (first|refine aQ ?_|apply ae<;>intro h)
 (conv=>whnf)
 refine CallG.stop ?_;refine aE 587 (h4 trivial) (λQ hr hg=>?_)
 refine kV hg ?_;refine bn lC [] cW ?_;rfl
theorem aei (hb:(J.plP s).2=0)(hk:rl.length<64):ab G 541 [.ref 0 0 0,.str s] (bP n e2.length e3.length e4.length 1 pol trm (e1++[[AV.str nm,AV.vs 9 0 rl.length]]) e2 e3 e4 k1 k2 k3 k4 [.vec 5 rl]) ⟨.tup [],rP n e2.length e3.length e4.length 1 pol trm (.nest 2 e1 [[AV.str nm,AV.vs 9 0 (rl.length+1)]]) (.vec 2 e2) (.vec 2 e3) (.vec 3 e4) k1 k2 k3 k4 [(false,.vec 5 (rl++[(J.plP s).1.enc]))]⟩:=by
 unfold bP rP;have h0:=Zp e1 e2 e3 e4 rl p1 p2 p3 p4 pr k1 k2 k3 k4 1 pol trm nm n l1 l2 l3 l4 hn s hs hq;have hx:(e1++[[AV.str nm,AV.vs 9 0 rl.length]])[((n:Int)-1).toNat]? =some [AV.str nm,AV.vs 9 0 rl.length]:=by rw[hn];simp
 have hset: ∀y x:CL,(e1++[y]).set ((n:Int)-1).toNat x=e1++[x]:=λy x=>by rw[hn];simp
 have h2:=aM true;rw[Ad rfl] at h2;have h3:=J.parse_gives334 s hs;unfold J.prR5 at h3;unfold J.PRule.enc at*;rw[hb] at h3;generalize (J.plP s).1=x at*;obtain ⟨v,⟨pa,pl⟩,mn,mx⟩:=x;dsimp only at*
 have h4:ab G 587 [.int .i64 (rl.length:Int)] [] ⟨.tup [],[]⟩:=by
  have:=b9 (rl.length:Int);rwa [Ad (by omega)] at this
 refine gvB (F:=jx) ?_
 (conv=>whnf)
 refine kP lC [] ck trivial h0 ?_
 repeat' (first|refine aQ ?_|apply ae<;>intro h)
 (conv=>whnf)
 rw[hset]
 (first|refine cY lC [] [true,true,true,true,true,true,true,true,true,false] ?_|refine cZ lC [] [true,true,true,true,true,true,true,true,true,false] ?_)
 rfl
end
section
variable (hn:n=e2.length+1)(s:CF)(hs:s.length<4294967281)(hq:bH (ax s).1=0)(b:Bool)(t:CF)
include hn hs hq
theorem Yl (hP:fQ s=none):ab G 541 [.ref 0 0 0,.str s] (bP e1.length n e3.length e4.length 2 pol trm e1 (e2++[[AV.str nm,AV.vs 9 0 rl.length]]) e3 e4 k1 k2 k3 k4 [.vec 2 rl]) ⟨pnV (.ifc 138 (.agg [.int .i64 2])),rP e1.length n e3.length e4.length 2 pol trm (.vec 2 e1) (.nest 2 e2 [[AV.str nm,AV.vs 9 0 rl.length]]) (.vec 2 e3) (.vec 3 e4) k1 k2 k3 k4 [(true,.vec 2 rl)]⟩:=by
 unfold bP rP;have h0:=RF e1 e2 e3 e4 rl p1 p2 p3 p4 pr k1 k2 k3 k4 2 pol trm nm n l1 l2 l3 l4 hn s hs hq;have hx:(e2++[[AV.str nm,AV.vs 9 0 rl.length]])[((n:Int)-1).toNat]? =some [AV.str nm,AV.vs 9 0 rl.length]:=by rw[hn];simp
 have hset: ∀y x:CL,(e2++[y]).set ((n:Int)-1).toNat x=e2++[x]:=λy x=>by rw[hn];simp
 have h3:=λ(_:True)=>gW s (by omega)
 rw[hP] at h3;refine gvB (F:=jx) ?_
 (conv=>whnf)
 refine kP j3 [] ck trivial h0 ?_
 repeat' (first|refine aQ ?_|apply ae<;>intro h)
 (conv=>whnf)
 refine CallG.stop ?_;refine aE 588 (h3 trivial) (λQ hr hg=>?_)
 refine kV hg ?_;refine bn j3 [] cW ?_;rfl
section
variable (hP:fQ s=some (b,t))
include hP
theorem acQ (hx5:fx t=none):ab G 541 [.ref 0 0 0,.str s] (bP e1.length n e3.length e4.length 2 pol trm e1 (e2++[[AV.str nm,AV.vs 9 0 rl.length]]) e3 e4 k1 k2 k3 k4 [.vec 2 rl]) ⟨pnV (.ifc 138 (.agg [.int .i64 2])),rP e1.length n e3.length e4.length 2 pol trm (.vec 2 e1) (.nest 2 e2 [[AV.str nm,AV.vs 9 0 rl.length]]) (.vec 2 e3) (.vec 3 e4) k1 k2 k3 k4 [(true,.vec 2 rl)]⟩:=by
 unfold bP rP;have h0:=RF e1 e2 e3 e4 rl p1 p2 p3 p4 pr k1 k2 k3 k4 2 pol trm nm n l1 l2 l3 l4 hn s hs hq;have hx:(e2++[[AV.str nm,AV.vs 9 0 rl.length]])[((n:Int)-1).toNat]? =some [AV.str nm,AV.vs 9 0 rl.length]:=by rw[hn];simp
 have hset: ∀y x:CL,(e2++[y]).set ((n:Int)-1).toNat x=e2++[x]:=λy x=>by rw[hn];simp
 have ht:=pc hP;have h3:=gW s (by omega)
 rw[hP] at h3;unfold xV at h3;obtain ⟨k,lo,hi,l,h5⟩:=oe t (by omega)
 rw[hx5,Ac (by simp)] at h5
 have h2:=λ(_:True)=>aM false
 refine gvB (F:=jx) ?_
 (conv=>whnf)
 refine kP j3 [] ck trivial h0 ?_
 repeat' (first|refine aQ ?_|apply ae<;>intro h)
 (conv=>whnf)
 refine CallG.stop ?_;refine aE 586 (h2 trivial) (λQ hr hg=>?_)
 refine kV hg ?_;refine bn j3 [] cW ?_;rfl
theorem Ym (hx5:(fx t).isSome=true)(hk:64<=rl.length):ab G 541 [.ref 0 0 0,.str s] (bP e1.length n e3.length e4.length 2 pol trm e1 (e2++[[AV.str nm,AV.vs 9 0 rl.length]]) e3 e4 k1 k2 k3 k4 [.vec 2 rl]) ⟨pnV (.ifc 138 (.agg [.int .i64 4])),rP e1.length n e3.length e4.length 2 pol trm (.vec 2 e1) (.nest 2 e2 [[AV.str nm,AV.vs 9 0 rl.length]]) (.vec 2 e3) (.vec 3 e4) k1 k2 k3 k4 [(true,.vec 2 rl)]⟩:=by
 unfold bP rP;have h0:=RF e1 e2 e3 e4 rl p1 p2 p3 p4 pr k1 k2 k3 k4 2 pol trm nm n l1 l2 l3 l4 hn s hs hq;have hx:(e2++[[AV.str nm,AV.vs 9 0 rl.length]])[((n:Int)-1).toNat]? =some [AV.str nm,AV.vs 9 0 rl.length]:=by rw[hn];simp
 have hset: ∀y x:CL,(e2++[y]).set ((n:Int)-1).toNat x=e2++[x]:=λy x=>by rw[hn];simp
 have ht:=pc hP;have h3:=gW s (by omega)
 rw[hP] at h3;unfold xV at h3;obtain ⟨k,lo,hi,l,h5⟩:=oe t (by omega)
 rw[Ad hx5] at h5;have h2:=aM true;rw[Ad rfl] at h2
 have h4:True->ab G 587 [.int .i64 (rl.length:Int)] [] (pF 4):=λ_=>by
  have:=b9 (rl.length:Int);rwa [Ac (by omega)] at this
 refine gvB (F:=jx) ?_
 (conv=>whnf)
 refine kP j3 [] ck trivial h0 ?_
 repeat' (first|refine aQ ?_|apply ae<;>intro h)
 (conv=>whnf)
 refine CallG.stop ?_;refine aE 587 (h4 trivial) (λQ hr hg=>?_)
 refine kV hg ?_;refine bn j3 [] cW ?_;rfl
theorem aen (hx5:(fx t).isSome=true)(hk:rl.length<64):ab G 541 [.ref 0 0 0,.str s] (bP e1.length n e3.length e4.length 2 pol trm e1 (e2++[[AV.str nm,AV.vs 9 0 rl.length]]) e3 e4 k1 k2 k3 k4 [.vec 2 rl]) ⟨.tup [],rP e1.length n e3.length e4.length 2 pol trm (.vec 2 e1) (.nest 2 e2 [[AV.str nm,AV.vs 9 0 (rl.length+1)]]) (.vec 2 e3) (.vec 3 e4) k1 k2 k3 k4 [(false,.vec 2 (rl++[[.bool b,.str t]]))]⟩:=by
 unfold bP rP;have h0:=RF e1 e2 e3 e4 rl p1 p2 p3 p4 pr k1 k2 k3 k4 2 pol trm nm n l1 l2 l3 l4 hn s hs hq;have hx:(e2++[[AV.str nm,AV.vs 9 0 rl.length]])[((n:Int)-1).toNat]? =some [AV.str nm,AV.vs 9 0 rl.length]:=by rw[hn];simp
 have hset: ∀y x:CL,(e2++[y]).set ((n:Int)-1).toNat x=e2++[x]:=λy x=>by rw[hn];simp
 have ht:=pc hP;have h3:=gW s (by omega)
 rw[hP] at h3;unfold xV at h3;obtain ⟨k,lo,hi,l,h5⟩:=oe t (by omega)
 rw[Ad hx5] at h5;have h2:=aM true;rw[Ad rfl] at h2
 have h4:ab G 587 [.int .i64 (rl.length:Int)] [] ⟨.tup [],[]⟩:=by
  have:=b9 (rl.length:Int);rwa [Ad (by omega)] at this
 refine gvB (F:=jx) ?_
 (conv=>whnf)
 refine kP j3 [] ck trivial h0 ?_
 repeat' (first|refine aQ ?_|apply ae<;>intro h)
 (conv=>whnf)
 rw[hset]
 (first|refine cY j3 [] [true,true,true,true,true,true,true,true,true,false] ?_|refine cZ j3 [] [true,true,true,true,true,true,true,true,true,false] ?_)
 rfl
end
end
end
theorem Yd {x lo:Opd}{g key:Nat}{l:CF}{j:Int}{hg:Nat->C0}(h0:0<=j)(h1:j<=l.length):aX (.slstr x (some lo) none) g key [.str l,.int .i64 j] hg=some {res:=.str ((l.drop j.toNat).take (l.length-j.toNat))}:=by
 simp[aX,aX.slBounds,bnd,h0,h1]
def mz:CF->Option (CF×CF)
 | []=>none
 |c::r=>if c=58 then some ([],r) else (mz r).map λp=>(c::p.1,p.2)
theorem oU {d:CF}(h: ∀c∈d,c≠58)(r:CF):mz (d++r)=(mz r).map λp=>(d++p.1,p.2):=by
 induction d with
 |nil=>cases h2:mz r<;>simp[h2]
 |cons c d ih=>
  have hc:c≠58:=h c (by simp)
  simp only[B4,mz,Ac hc,ih λx hx=>h x (by simp[hx])]
  cases mz r<;>simp
def jc (b:Bool)(t:CF)(n:Nat):Int×ComR:=match mz t with
 |none=>(2,⟨b,0,0⟩)
 |some (x,y)=>match ko x with
  |none=>(2,⟨b,0,0⟩)
  |some h=>match ko y with
   |none=>(2,⟨b,0,0⟩)
   |some l=>if n<64 then (bW ⟨b,h,l⟩,⟨b,h,l⟩) else (4,⟨b,0,0⟩)
theorem vr (e1 e2 e3 e4 rl:CS)(p1:aa e1=true)(p2:aa e2=true)(p3:aa e3=true)(p4:aa e4=true)(pr:aa rl=true)(k1 k2 k3 k4:C5)(pol trm:Bool)(nm:CF)(n:Nat)(l1:e1.length<2^30)(l2:e2.length<2^30)(l3:e3.length<2^30)(l4:e4.length<2^30)(hn:n=e3.length+1)(b:Bool)(t:CF)(ht:t.length<2^32)(R:Ret)(hbad: ∀e:Int,(jc b t rl.length).1=e->e≠0->R=⟨pnV (.ifc 138 (.agg [.int .i64 e])),mkR [(true,.cells [.vs 1 0 e1.length,.vs 2 0 e2.length,.vs 3 0 n,.vs 4 0 e4.length,.vs 5 0 k1.length,.vs 6 0 k2.length,.vs 7 0 k3.length,.vs 8 0 k4.length,.int .i64 3,.bool pol,.bool trm]),(true,.vec 2 e1),(true,.vec 2 e2),(true,.nest 2 e3 [[AV.str nm,AV.vs 9 0 rl.length]]),(true,.vec 3 e4),(true,.vec 1 (k1.map am)),(true,.vec 1 (k2.map am)),(true,.vec 1 (k3.map am)),(true,.vec 1 (k4.map am)),(true,.vec 3 rl)]⟩)(hok:(jc b t rl.length).1=0->R=⟨.tup [],mkR [(true,.cells [.vs 1 0 e1.length,.vs 2 0 e2.length,.vs 3 0 n,.vs 4 0 e4.length,.vs 5 0 k1.length,.vs 6 0 k2.length,.vs 7 0 k3.length,.vs 8 0 k4.length,.int .i64 3,.bool pol,.bool trm]),(true,.vec 2 e1),(true,.vec 2 e2),(true,.nest 2 e3 [[AV.str nm,AV.vs 9 0 (rl.length+1)]]),(true,.vec 3 e4),(true,.vec 1 (k1.map am)),(true,.vec 1 (k2.map am)),(true,.vec 1 (k3.map am)),(true,.vec 1 (k4.map am)),(false,.vec 3 (rl++[(jc b t rl.length).2.enc]))]⟩): ∀(rest done:CF)(T:TV)(H:aq)(c:Nat)(i:Int)(e:t=done++rest)(hi:i=done.length)(hd: ∀x∈done,x≠58)(hc0:0<c),
  Ev G ⟨Vy,⟨(15,.int .i64 i)::(12,.er 3 0 ((n:Int)-1).toNat 0)::(14,.str t)::(13,.bool b)::T,(0,some (0,.cells [.vs 1 0 e1.length,.vs 2 0 e2.length,.vs 3 0 n,.vs 4 0 e4.length,.vs 5 0 k1.length,.vs 6 0 k2.length,.vs 7 0 k3.length,.vs 8 0 k4.length,.int .i64 3,.bool pol,.bool trm]))::(1,some (0,.vec 2 e1))::(2,some (0,.vec 2 e2))::(3,some (0,.vec 2 (e3++[[AV.str nm,AV.vs 9 0 rl.length]])))::(4,some (0,.vec 3 e4))::(5,some (0,.vec 1 (k1.map am)))::(6,some (0,.vec 1 (k2.map am)))::(7,some (0,.vec 1 (k3.map am)))::(8,some (0,.vec 1 (k4.map am)))::(9,some (0,.vec 3 rl))::H,c⟩,[],10⟩ R
 | [],done,T,H,c,i,e,hi,hd,hc0=>by
  have htl:=md0 e;have h2:True->ab G 586 [.bool (decide (i<(t.length:Int)))] [] (pF 2):=λ_=>by rw[An (show¬i<(t.length:Int) by omega)];exact aM false
  have hv:jc b t rl.length=(2,⟨b,0,0⟩):=by rw[e];unfold jc;rw[oU hd];rfl
  rw[hbad 2 (by rw[hv]) (by decide)]
  refine evA ?_
  (conv=>whnf)
  refine CallG.stop ?_;refine aE 586 (h2 trivial) (λQ hr hg=>?_)
  refine kV hg ?_;refine bn jG [] cW ?_;rfl
 |x::rest,done,T,H,c,i,e,hi,hd,hc0=>by
  have htl:=md e;have hb:t[i.toNat]? =some x:=by rw[e,hi];simp
  have hxl:=x.toNat_lt
  by_cases h:x=58
  ·subst h
   have hv:jc b t rl.length=(match ko done with
    |none=>(2,⟨b,0,0⟩)
    |some h=>match ko rest with
     |none=>(2,⟨b,0,0⟩)
     |some l=>if rl.length<64 then (bW ⟨b,h,l⟩,⟨b,h,l⟩) else (4,⟨b,0,0⟩)):=by
    rw[e];unfold jc;rw[oU hd];simp[mz]
   have ta:List.take (i.toNat-0) (List.drop 0 t)=done:=by rw[e,hi];simp
   have tb:List.take (t.length- (i+1).toNat) (List.drop (i+1).toNat t)=rest:=by
    rw[hi,show ((done.length:Int)+1).toNat=done.length+1 from by omega,e,show done++58::rest=(done++[58])++rest from by simp]
    rw[show done.length+1=(done++[58]).length from by simp,List.drop_left,List.take_of_length_le (by simp;omega)]
   have h6:ab G 589 [.str (List.take (i.toNat-0) (List.drop 0 t))] [] (vF (ko done)):=by rw[ta];exact rJ done (by omega)
   have h7:ab G 589 [.str (List.take (t.length- (i+1).toNat) (List.drop (i+1).toNat t))] [] (vF (ko rest)):=by rw[tb];exact rJ rest (by omega)
   have hT:ab G 586 [.bool (decide (i<(t.length:Int)))] [] ⟨.tup [],[]⟩:=by rw[Al (show i<(t.length:Int) by omega)];exact aM true
   have hwr:IntKind.wrap .i64 (i+1)=i+1:=ky (by omega) (by omega)
   clear ta tb;rcases ha:ko done with _|va
   ·rw[ha] at hv h6
    replace h6:=λ(_:True)=>h6
    clear h7;rw[hbad 2 (by rw[hv]) (by decide)]
    refine evl ?_
    repeat' (first|refine bz ?_|apply ae<;>intro h)
    (conv=>whnf)
    refine CallG.stop ?_;refine qc 589 [(_,some _),(_,some _),(_,some _),(_,some _),(none,none),(none,none),(_,some _),(none,none)] (h6 trivial) (λQ hr hg=>?_) ⟨rfl,rfl,rfl,rfl,rfl,rfl,rfl,rfl,rfl,rfl,rfl,rfl,rfl,rfl,Yd (x:=.t 152) (g:=0) (key:=0) (hg:=λ_=>none) (by rw[hwr];omega) (by rw[hwr];omega),rfl,.inl rfl,rfl,.inr ⟨_,rfl,by decide⟩,rfl,rfl,rfl,rfl,rfl,.inl rfl,rfl,trivial⟩ (λx hx=>by cases hx)
    refine kV hg ?_;refine bn jG [] cW ?_;rfl
   rcases hb2:ko rest with _|vb
   ·rw[ha] at hv h6
    rw[hb2] at hv h7;unfold vF at h6;replace h7:=λ(_:True)=>h7
    rw[hbad 2 (by rw[hv]) (by decide)]
    refine evl ?_
    repeat' (first|refine bz ?_|apply ae<;>intro h)
    (conv=>whnf)
    refine CallG.stop ?_;refine qc 589 [(none,none),(_,some _),(none,none)] (h7 trivial) (λQ hr hg=>?_) ⟨.inr ⟨_,rfl,by decide⟩,rfl,rfl,rfl,rfl,rfl,.inl rfl,rfl,trivial⟩ (λx hx=>by cases hx)
    refine kV hg ?_;refine bn jG [] cW ?_;rfl
   rw[ha] at hv h6;rw[hb2] at hv h7;unfold vF at h6 h7;dsimp only at hv;have hx:(e3++[[AV.str nm,AV.vs 9 0 rl.length]])[((n:Int)-1).toNat]? =some [AV.str nm,AV.vs 9 0 rl.length]:=by rw[hn];simp
   have hset: ∀y x:CL,(e3++[y]).set ((n:Int)-1).toNat x=e3++[x]:=λy x=>by rw[hn];simp
   by_cases hk:rl.length<64
   case neg=>
    rw[Ac hk] at hv
    have h4:True->ab G 587 [.int .i64 (rl.length:Int)] [] (pF 4):=λ_=>by
     have:=b9 (rl.length:Int);rwa [Ac (by omega)] at this
    rw[hbad 4 (by rw[hv]) (by decide)]
    refine evl ?_
    repeat' (first|refine bz ?_|apply ae<;>intro h)
    (conv=>whnf)
    refine CallG.stop ?_;refine aE 587 (h4 trivial) (λQ hr hg=>?_)
    refine kV hg ?_;refine bn jG [] cW ?_;rfl
   rw[Ad hk] at hv
   have h4:ab G 587 [.int .i64 (rl.length:Int)] [] ⟨.tup [],[]⟩:=by
    have:=b9 (rl.length:Int);rwa [Ad (by omega)] at this
   have h8:=tK ⟨b,va,vb⟩
   by_cases hc1:bW ⟨b,va,vb⟩=0
   ·have h9:=bw 0
    rw[Ad rfl] at h9;rw[hc1] at h8 hv;rw[hok (by rw[hv]),hv]
    unfold ComR.enc at*;dsimp only at*;refine evl ?_
    repeat' (first|refine bz ?_|apply ae<;>intro h)
    (conv=>whnf)
    rw[hset]
    (first|refine cY jG [] [true,true,true,true,true,true,true,true,true,false] ?_|refine cZ jG [] [true,true,true,true,true,true,true,true,true,false] ?_)
    rfl
   ·have h9:=λ(_:True)=>bw (bW ⟨b,va,vb⟩)
    rw[Ac hc1] at h9;rw[hbad (bW ⟨b,va,vb⟩) (by rw[hv]) hc1]
    unfold ComR.enc at*;dsimp only at*;refine evl ?_
    repeat' (first|refine bz ?_|apply ae<;>intro h)
    (conv=>whnf)
    refine CallG.stop ?_;refine aE 590 (h9 trivial) (λQ hr hg=>?_)
    refine kV hg ?_;refine bn jG [] cW ?_;rfl
  ·have hne: ¬(x.toNat:Int)=58:=λq=>h (A9.1 (by simpa using (by omega:x.toNat=58)))
   have ih:=λT H c=>vr e1 e2 e3 e4 rl p1 p2 p3 p4 pr k1 k2 k3 k4 pol trm nm n l1 l2 l3 l4 hn b t ht R hbad hok rest (done++[x]) T H c (i+1) (by simp[e]) (by simp[hi]) (by
    intro y hy;rcases B5.1 hy with hy|hy
    ·exact hd y hy
    ·rw[B6.1 hy];exact h)
   refine evl ?_
   repeat' (first|refine bz ?_|apply ae<;>intro h)
   refine ag [15,12,14,13] [0,1,2,3,4,5,6,7,8,9] ?_;exact ih _ _ _ (by omega)
section
variable (e1 e2 e3 e4 rl:CS)(p1:aa e1=true)(p2:aa e2=true)(p3:aa e3=true)(p4:aa e4=true)(pr:aa rl=true)(k1 k2 k3 k4:C5)(pol trm:Bool)(nm:CF)(n:Nat)(l1:e1.length<2^30)(l2:e2.length<2^30)(l3:e3.length<2^30)(l4:e4.length<2^30)(hn:n=e3.length+1)(s:CF)(hs:s.length<4294967281)(hq:bH (ax s).1=0)
include p1 p2 p3 p4 pr l1 l2 l3 l4 hn hs hq
theorem abj (hP:fQ s=none):ab G 541 [.ref 0 0 0,.str s] (bP e1.length e2.length n e4.length 3 pol trm e1 e2 (e3++[[AV.str nm,AV.vs 9 0 rl.length]]) e4 k1 k2 k3 k4 [.vec 3 rl]) ⟨pnV (.ifc 138 (.agg [.int .i64 2])),rP e1.length e2.length n e4.length 3 pol trm (.vec 2 e1) (.vec 2 e2) (.nest 2 e3 [[AV.str nm,AV.vs 9 0 rl.length]]) (.vec 3 e4) k1 k2 k3 k4 [(true,.vec 3 rl)]⟩:=by
 unfold bP rP;have h0:=hn_3 e1 e2 e3 e4 rl p1 p2 p3 p4 pr k1 k2 k3 k4 3 pol trm nm n l1 l2 l3 l4 hn s hs hq;have hx:(e3++[[AV.str nm,AV.vs 9 0 rl.length]])[((n:Int)-1).toNat]? =some [AV.str nm,AV.vs 9 0 rl.length]:=by rw[hn];simp
 have hset: ∀y x:CL,(e3++[y]).set ((n:Int)-1).toNat x=e3++[x]:=λy x=>by rw[hn];simp
 have h3:=λ(_:True)=>gW s (by omega)
 rw[hP] at h3;refine gvB (F:=jx) ?_
 (conv=>whnf)
 refine kP jG [] ck trivial h0 ?_
 repeat' (first|refine aQ ?_|apply ae<;>intro h)
 (conv=>whnf)
 refine CallG.stop ?_;refine aE 588 (h3 trivial) (λQ hr hg=>?_)
 refine kV hg ?_;refine bn jG [] cW ?_;rfl
theorem DU (b:Bool)(t:CF)(hP:fQ s=some (b,t))(R:Ret)(hbad: ∀e:Int,(jc b t rl.length).1=e->e≠0->R=⟨pnV (.ifc 138 (.agg [.int .i64 e])),rP e1.length e2.length n e4.length 3 pol trm (.vec 2 e1) (.vec 2 e2) (.nest 2 e3 [[AV.str nm,AV.vs 9 0 rl.length]]) (.vec 3 e4) k1 k2 k3 k4 [(true,.vec 3 rl)]⟩)(hok:(jc b t rl.length).1=0->R=⟨.tup [],rP e1.length e2.length n e4.length 3 pol trm (.vec 2 e1) (.vec 2 e2) (.nest 2 e3 [[AV.str nm,AV.vs 9 0 (rl.length+1)]]) (.vec 3 e4) k1 k2 k3 k4 [(false,.vec 3 (rl++[(jc b t rl.length).2.enc]))]⟩):ab G 541 [.ref 0 0 0,.str s] (bP e1.length e2.length n e4.length 3 pol trm e1 e2 (e3++[[AV.str nm,AV.vs 9 0 rl.length]]) e4 k1 k2 k3 k4 [.vec 3 rl]) R:=by
 unfold bP;have h0:=hn_3 e1 e2 e3 e4 rl p1 p2 p3 p4 pr k1 k2 k3 k4 3 pol trm nm n l1 l2 l3 l4 hn s hs hq;have hx:(e3++[[AV.str nm,AV.vs 9 0 rl.length]])[((n:Int)-1).toNat]? =some [AV.str nm,AV.vs 9 0 rl.length]:=by rw[hn];simp
 have hset: ∀y x:CL,(e3++[y]).set ((n:Int)-1).toNat x=e3++[x]:=λy x=>by rw[hn];simp
 have ht:=pc hP;have h3:=gW s (by omega)
 rw[hP] at h3;unfold xV at h3;refine gvB (F:=jx) ?_
 (conv=>whnf)
 refine kP jG [] ck trivial h0 ?_
 repeat' (first|refine aQ ?_|apply ae<;>intro h)
 refine ag [15,12,14,13] [0,1,2,3,4,5,6,7,8,9] ?_;exact vr e1 e2 e3 e4 rl p1 p2 p3 p4 pr k1 k2 k3 k4 pol trm nm n l1 l2 l3 l4 hn b t (by omega) R hbad hok t [] _ _ _ 0 rfl rfl (by simp) (by omega)
end
end Go.AM.IR
