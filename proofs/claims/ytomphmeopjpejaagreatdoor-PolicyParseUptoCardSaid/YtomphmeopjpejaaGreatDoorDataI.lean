/- What functions of this program give. -/
import Derived.Test.YtomphmeopjpejaaGreatDoorDataH
set_option linter.unusedSectionVars false
set_option linter.unusedVariables false
set_option linter.unusedSimpArgs false
set_option maxHeartbeats 4000000
set_option maxRecDepth 20000
namespace Go.AM.IR
section
variable (n1 n2 n3 n4:Nat)(so:Int)(pol trm:Bool)(e1 e2 e3 e4:B6)
def bP (k1 k2 k3 k4:CF)(x:C5):C5:=.cells [.vs 1 0 n1,.vs 2 0 n2,.vs 3 0 n3,.vs 4 0 n4,.vs 5 0 k1.length,.vs 6 0 k2.length,.vs 7 0 k3.length,.vs 8 0 k4.length,.int .i64 so,.bool pol,.bool trm]:: .vec 2 e1:: .vec 2 e2:: .vec 2 e3:: .vec 3 e4:: .vec 1 (k1.map ah):: .vec 1 (k2.map ah):: .vec 1 (k3.map ah):: .vec 1 (k4.map ah)::x
def rP (e1 e2 e3 e4:PB)(k1 k2 k3 k4:CF)(x:Dr):Co:=mkR ((true,.cells [.vs 1 0 n1,.vs 2 0 n2,.vs 3 0 n3,.vs 4 0 n4,.vs 5 0 k1.length,.vs 6 0 k2.length,.vs 7 0 k3.length,.vs 8 0 k4.length,.int .i64 so,.bool pol,.bool trm])::(true,e1)::(true,e2)::(true,e3)::(true,e4)::(true,.vec 1 (k1.map ah))::(true,.vec 1 (k2.map ah))::(true,.vec 1 (k3.map ah))::(true,.vec 1 (k4.map ah))::x)
def cH:B5:=[112,114,101,102,105,120,45,108,105,115,116]
def cG:B5:=[112,97,116,104,45,108,105,115,116]
def cz:B5:=[99,111,109,109,117,110,105,116,121,45,108,105,115,116]
def gv:B5:=[112,111,108,105,99,121]
def bn (w:B5):Int:=if w=cH then 1 else if w=cG then 2 else if w=cz then 3 else if w=gv then 4 else 0
theorem bc: ∀s:B5,(aw s).1.length<=s.length/\(aw s).2.length<=s.length
 | []=>by simp[aw]
 |c::r=>by
  have ih:=bc r;unfold aw;split
  ·simp
  ·simp only[Ar];omega
theorem ahd (p1:ab e1=true)(p2:ab e2=true)(p3:ab e3=true)(p4:ab e4=true)(k1 k2 k3 k4:CF)(so:Int)(pol trm:Bool)(l1:e1.length<2^30)(l2:e2.length<2^30)(l3:e3.length<2^30)(l4:e4.length<2^30)(q1:k1.length<2^30)(q2:k2.length<2^30)(q3:k3.length<2^30)(q4:k4.length<2^30)(s w t:B5)(hs:s.length<4294967281)(hc:aw s=(w,t))(h1:w≠cH)(h2:w≠cG)(h3:w≠cz)(h4:w≠gv):ag G 585 [.ref 0 0 0,.str s] (bP e1.length e2.length e3.length e4.length so pol trm e1 e2 e3 e4 k1 k2 k3 k4 []) ⟨.bool false,rP e1.length e2.length e3.length e4.length so pol trm (.vec 2 e1) (.vec 2 e2) (.vec 2 e3) (.vec 3 e4) k1 k2 k3 k4 []⟩:=by
 unfold bP rP;have h0:=aE s (by omega)
 rw[hc] at h0;dsimp only at h0;unfold cH at h1;unfold cG at h2;unfold cz at h3;unfold gv at h4;refine gvC (F:=gh) ?_
 repeat' ((conv=>whnf);first|refine aG h1 ?_|refine aG h2 ?_|refine aG h3 ?_|refine aG h4 ?_|refine aq ?_|apply ae<;>intro h)
 (first|refine da pzA [] iC ?_|refine db pzA [] iC ?_)
 rfl
end
section
variable (e1 e2 e3 e4:B6)(p1:ab e1=true)(p2:ab e2=true)(p3:ab e3=true)(p4:ab e4=true)(k1 k2 k3 k4:CF)(so:Int)(pol trm:Bool)(l1:e1.length<2^30)(l2:e2.length<2^30)(l3:e3.length<2^30)(l4:e4.length<2^30)(q1:k1.length<2^30)(q2:k2.length<2^30)(q3:k3.length<2^30)(q4:k4.length<2^30)(s t:B5)(hs:s.length<4294967281)
include p1 p2 p3 p4 l1 l2 l3 l4 q1 q2 q3 q4 hs
theorem afs (hc:aw s=(cH,t))(h: ¬so<=1):ag G 585 [.ref 0 0 0,.str s] (bP e1.length e2.length e3.length e4.length so pol trm e1 e2 e3 e4 k1 k2 k3 k4 []) ⟨pnV (.ifc 138 (.agg [.int .i64 2])),rP e1.length e2.length e3.length e4.length so pol trm (.vec 2 e1) (.vec 2 e2) (.vec 2 e3) (.vec 3 e4) k1 k2 k3 k4 []⟩:=by
 unfold bP rP;have h1:=aE s (by omega)
 rw[hc] at h1;dsimp only at h1;unfold cH at*;have h2:True->ag G 586 [.bool (decide ((1:Int)>=so))] [] (pF 2):=λ_=>by rw[Al (show¬(1:Int)>=so from h)];exact aU false
 refine gvC (F:=gh) ?_
 repeat' ((conv=>whnf);first|refine bj ?_|refine aq ?_|apply ae<;>intro h)
 (conv=>whnf)
 refine CallG.stop ?_;refine aH 586 (h2 trivial) (λQ hr hg=>?_)
 refine kV hg ?_;refine bt pzA [] iC ?_;rfl
section
variable (hc:aw s=(cH,t))(h:so<=1)
include hc h
theorem Yx (ho: ¬bx t=true):ag G 585 [.ref 0 0 0,.str s] (bP e1.length e2.length e3.length e4.length so pol trm e1 e2 e3 e4 k1 k2 k3 k4 []) ⟨pnV (.ifc 138 (.agg [.int .i64 2])),rP e1.length e2.length e3.length e4.length so pol trm (.vec 2 e1) (.vec 2 e2) (.vec 2 e3) (.vec 3 e4) k1 k2 k3 k4 []⟩:=by
 unfold bP rP;have h1:=aE s (by omega)
 rw[hc] at h1;dsimp only at h1
 have ht:t.length<4294967281:=by
  have:=congrArg (λp=>p.2.length) hc
  have h2:=bc s;simp only at this;omega
 unfold cH at*;have h2:ag G 586 [.bool (decide ((1:Int)>=so))] [] ⟨.tup [],[]⟩:=by rw[Ak (show (1:Int)>=so from h)];exact aU true
 have h3:=λ(_:True)=>ba t ht
 rw[Aa ho] at h3;refine gvC (F:=gh) ?_
 repeat' ((conv=>whnf);first|refine bj ?_|refine aq ?_|apply ae<;>intro h)
 (conv=>whnf)
 refine CallG.stop ?_;refine aH 597 (h3 trivial) (λQ hr hg=>?_)
 refine kV hg ?_;refine bt pzA [] iC ?_;rfl
theorem YN (ho:bx t=true)(hk:64<=k1.length):ag G 585 [.ref 0 0 0,.str s] (bP e1.length e2.length e3.length e4.length so pol trm e1 e2 e3 e4 k1 k2 k3 k4 []) ⟨pnV (.ifc 138 (.agg [.int .i64 4])),rP e1.length e2.length e3.length e4.length 1 pol trm (.vec 2 e1) (.vec 2 e2) (.vec 2 e3) (.vec 3 e4) k1 k2 k3 k4 []⟩:=by
 unfold bP rP;have h1:=aE s (by omega)
 rw[hc] at h1;dsimp only at h1
 have ht:t.length<4294967281:=by
  have:=congrArg (λp=>p.2.length) hc
  have h2:=bc s;simp only at this;omega
 unfold cH at*;have h2:ag G 586 [.bool (decide ((1:Int)>=so))] [] ⟨.tup [],[]⟩:=by rw[Ak (show (1:Int)>=so from h)];exact aU true
 have h3:=ba t ht;rw[Ac ho] at h3;have h4:=λ(_:True)=>bC 4
 refine gvC (F:=gh) ?_
 repeat' ((conv=>whnf);first|refine bj ?_|refine aq ?_|apply ae<;>intro h)
 (conv=>whnf)
 refine CallG.stop ?_;refine aH 590 (h4 trivial) (λQ hr hg=>?_)
 refine kV hg ?_;refine bt pzA [] iC ?_;rfl
section
variable (ho:bx t=true)(hk:k1.length<64)
include ho hk
theorem YJ (hn:eW k1 t≠0):ag G 585 [.ref 0 0 0,.str s] (bP e1.length e2.length e3.length e4.length so pol trm e1 e2 e3 e4 k1 k2 k3 k4 []) ⟨pnV (.ifc 138 (.agg [.int .i64 (eW k1 t)])),rP e1.length e2.length e3.length e4.length 1 pol trm (.vec 2 e1) (.vec 2 e2) (.vec 2 e3) (.vec 3 e4) k1 k2 k3 k4 []⟩:=by
 unfold bP rP;have h1:=aE s (by omega)
 rw[hc] at h1;dsimp only at h1
 have ht:t.length<4294967281:=by
  have:=congrArg (λp=>p.2.length) hc
  have h2:=bc s;simp only at this;omega
 unfold cH at*;have h2:ag G 586 [.bool (decide ((1:Int)>=so))] [] ⟨.tup [],[]⟩:=by rw[Ak (show (1:Int)>=so from h)];exact aU true
 have h3:=ba t ht;rw[Ac ho] at h3;have h4:=λ(_:True)=>bC (eW k1 t)
 rw[Aa hn] at h4;have h5:=gc k1 t (by omega) (by omega)
 have hl:((k1.map ah).length:Int)=k1.length:=by simp
 refine gvC (F:=gh) ?_
 repeat' ((conv=>whnf);first|refine bj ?_|refine aq ?_|refine kZ [(5,_,_)] ⟨rfl,pz trivial⟩ (h5) ?_|apply ae<;>intro h)
 (conv=>whnf)
 refine CallG.stop ?_;refine aH 590 (h4 trivial) (λQ hr hg=>?_)
 refine kV hg ?_;refine bt pzA [] iC ?_;rfl
theorem afo (hn:eW k1 t=0):ag G 585 [.ref 0 0 0,.str s] (bP e1.length e2.length e3.length e4.length so pol trm e1 e2 e3 e4 k1 k2 k3 k4 []) ⟨.bool true,mkR [(true,.cells [.vs 1 0 (e1.length+1),.vs 2 0 e2.length,.vs 3 0 e3.length,.vs 4 0 e4.length,.vs 5 0 (k1.length+1),.vs 6 0 k2.length,.vs 7 0 k3.length,.vs 8 0 k4.length,.int .i64 1,.bool pol,.bool trm]),(false,.vec 2 (e1++[[.str t,.con (.slice none 0 0)]])),(true,.vec 2 e2),(true,.vec 2 e3),(true,.vec 3 e4),(false,.vec 1 (k1.map ah++[[.str t]])),(true,.vec 1 (k2.map ah)),(true,.vec 1 (k3.map ah)),(true,.vec 1 (k4.map ah))]⟩:=by
 unfold bP;have h1:=aE s (by omega)
 rw[hc] at h1;dsimp only at h1
 have ht:t.length<4294967281:=by
  have:=congrArg (λp=>p.2.length) hc
  have h2:=bc s;simp only at this;omega
 unfold cH at*;have h2:ag G 586 [.bool (decide ((1:Int)>=so))] [] ⟨.tup [],[]⟩:=by rw[Ak (show (1:Int)>=so from h)];exact aU true
 have h3:=ba t ht;rw[Ac ho] at h3;have h4:=bC 0;rw[Ac rfl] at h4;have h5:=gc k1 t (by omega) (by omega)
 rw[hn] at h5;have hl:((k1.map ah).length:Int)=k1.length:=by simp
 refine gvC (F:=gh) ?_
 repeat' ((conv=>whnf);first|refine bj ?_|refine aq ?_|refine kZ [(5,_,_)] ⟨rfl,pz trivial⟩ (h5) ?_|apply ae<;>intro h)
 (first|refine da pzA [] [true,false,true,true,true,false,true,true,true] ?_|refine db pzA [] [true,false,true,true,true,false,true,true,true] ?_)
 rfl
end
end
theorem afr (hc:aw s=(cG,t))(h: ¬so<=2):ag G 585 [.ref 0 0 0,.str s] (bP e1.length e2.length e3.length e4.length so pol trm e1 e2 e3 e4 k1 k2 k3 k4 []) ⟨pnV (.ifc 138 (.agg [.int .i64 2])),rP e1.length e2.length e3.length e4.length so pol trm (.vec 2 e1) (.vec 2 e2) (.vec 2 e3) (.vec 3 e4) k1 k2 k3 k4 []⟩:=by
 unfold bP rP;have h1:=aE s (by omega)
 rw[hc] at h1;dsimp only at h1;unfold cG at*;have h2:True->ag G 586 [.bool (decide ((2:Int)>=so))] [] (pF 2):=λ_=>by rw[Al (show¬(2:Int)>=so from h)];exact aU false
 refine gvC (F:=gh) ?_
 repeat' ((conv=>whnf);first|refine aG (by decide) ?_|refine bj ?_|refine aq ?_|apply ae<;>intro h)
 (conv=>whnf)
 refine CallG.stop ?_;refine aH 586 (h2 trivial) (λQ hr hg=>?_)
 refine kV hg ?_;refine bt pzA [] iC ?_;rfl
section
variable (hc:aw s=(cG,t))(h:so<=2)
include hc h
theorem Yw (ho: ¬bx t=true):ag G 585 [.ref 0 0 0,.str s] (bP e1.length e2.length e3.length e4.length so pol trm e1 e2 e3 e4 k1 k2 k3 k4 []) ⟨pnV (.ifc 138 (.agg [.int .i64 2])),rP e1.length e2.length e3.length e4.length so pol trm (.vec 2 e1) (.vec 2 e2) (.vec 2 e3) (.vec 3 e4) k1 k2 k3 k4 []⟩:=by
 unfold bP rP;have h1:=aE s (by omega)
 rw[hc] at h1;dsimp only at h1
 have ht:t.length<4294967281:=by
  have:=congrArg (λp=>p.2.length) hc
  have h2:=bc s;simp only at this;omega
 unfold cG at*;have h2:ag G 586 [.bool (decide ((2:Int)>=so))] [] ⟨.tup [],[]⟩:=by rw[Ak (show (2:Int)>=so from h)];exact aU true
 have h3:=λ(_:True)=>ba t ht
 rw[Aa ho] at h3;refine gvC (F:=gh) ?_
 repeat' ((conv=>whnf);first|refine aG (by decide) ?_|refine bj ?_|refine aq ?_|apply ae<;>intro h)
 (conv=>whnf)
 refine CallG.stop ?_;refine aH 597 (h3 trivial) (λQ hr hg=>?_)
 refine kV hg ?_;refine bt pzA [] iC ?_;rfl
theorem YM (ho:bx t=true)(hk:64<=k2.length):ag G 585 [.ref 0 0 0,.str s] (bP e1.length e2.length e3.length e4.length so pol trm e1 e2 e3 e4 k1 k2 k3 k4 []) ⟨pnV (.ifc 138 (.agg [.int .i64 4])),rP e1.length e2.length e3.length e4.length 2 pol trm (.vec 2 e1) (.vec 2 e2) (.vec 2 e3) (.vec 3 e4) k1 k2 k3 k4 []⟩:=by
 unfold bP rP;have h1:=aE s (by omega)
 rw[hc] at h1;dsimp only at h1
 have ht:t.length<4294967281:=by
  have:=congrArg (λp=>p.2.length) hc
  have h2:=bc s;simp only at this;omega
 unfold cG at*;have h2:ag G 586 [.bool (decide ((2:Int)>=so))] [] ⟨.tup [],[]⟩:=by rw[Ak (show (2:Int)>=so from h)];exact aU true
 have h3:=ba t ht;rw[Ac ho] at h3;have h4:=λ(_:True)=>bC 4
 refine gvC (F:=gh) ?_
 repeat' ((conv=>whnf);first|refine aG (by decide) ?_|refine bj ?_|refine aq ?_|apply ae<;>intro h)
 (conv=>whnf)
 refine CallG.stop ?_;refine aH 590 (h4 trivial) (λQ hr hg=>?_)
 refine kV hg ?_;refine bt pzA [] iC ?_;rfl
section
variable (ho:bx t=true)(hk:k2.length<64)
include ho hk
theorem YI (hn:eW k2 t≠0):ag G 585 [.ref 0 0 0,.str s] (bP e1.length e2.length e3.length e4.length so pol trm e1 e2 e3 e4 k1 k2 k3 k4 []) ⟨pnV (.ifc 138 (.agg [.int .i64 (eW k2 t)])),rP e1.length e2.length e3.length e4.length 2 pol trm (.vec 2 e1) (.vec 2 e2) (.vec 2 e3) (.vec 3 e4) k1 k2 k3 k4 []⟩:=by
 unfold bP rP;have h1:=aE s (by omega)
 rw[hc] at h1;dsimp only at h1
 have ht:t.length<4294967281:=by
  have:=congrArg (λp=>p.2.length) hc
  have h2:=bc s;simp only at this;omega
 unfold cG at*;have h2:ag G 586 [.bool (decide ((2:Int)>=so))] [] ⟨.tup [],[]⟩:=by rw[Ak (show (2:Int)>=so from h)];exact aU true
 have h3:=ba t ht;rw[Ac ho] at h3;have h4:=λ(_:True)=>bC (eW k2 t)
 rw[Aa hn] at h4;have h5:=gc k2 t (by omega) (by omega)
 have hl:((k2.map ah).length:Int)=k2.length:=by simp
 refine gvC (F:=gh) ?_
 repeat' ((conv=>whnf);first|refine aG (by decide) ?_|refine bj ?_|refine aq ?_|refine kZ [(6,_,_)] ⟨rfl,pz trivial⟩ (h5) ?_|apply ae<;>intro h)
 (conv=>whnf)
 refine CallG.stop ?_;refine aH 590 (h4 trivial) (λQ hr hg=>?_)
 refine kV hg ?_;refine bt pzA [] iC ?_;rfl
theorem afn (hn:eW k2 t=0):ag G 585 [.ref 0 0 0,.str s] (bP e1.length e2.length e3.length e4.length so pol trm e1 e2 e3 e4 k1 k2 k3 k4 []) ⟨.bool true,mkR [(true,.cells [.vs 1 0 e1.length,.vs 2 0 (e2.length+1),.vs 3 0 e3.length,.vs 4 0 e4.length,.vs 5 0 k1.length,.vs 6 0 (k2.length+1),.vs 7 0 k3.length,.vs 8 0 k4.length,.int .i64 2,.bool pol,.bool trm]),(true,.vec 2 e1),(false,.vec 2 (e2++[[.str t,.con (.slice none 0 0)]])),(true,.vec 2 e3),(true,.vec 3 e4),(true,.vec 1 (k1.map ah)),(false,.vec 1 (k2.map ah++[[.str t]])),(true,.vec 1 (k3.map ah)),(true,.vec 1 (k4.map ah))]⟩:=by
 unfold bP;have h1:=aE s (by omega)
 rw[hc] at h1;dsimp only at h1
 have ht:t.length<4294967281:=by
  have:=congrArg (λp=>p.2.length) hc
  have h2:=bc s;simp only at this;omega
 unfold cG at*;have h2:ag G 586 [.bool (decide ((2:Int)>=so))] [] ⟨.tup [],[]⟩:=by rw[Ak (show (2:Int)>=so from h)];exact aU true
 have h3:=ba t ht;rw[Ac ho] at h3;have h4:=bC 0;rw[Ac rfl] at h4;have h5:=gc k2 t (by omega) (by omega)
 rw[hn] at h5;have hl:((k2.map ah).length:Int)=k2.length:=by simp
 refine gvC (F:=gh) ?_
 repeat' ((conv=>whnf);first|refine aG (by decide) ?_|refine bj ?_|refine aq ?_|refine kZ [(6,_,_)] ⟨rfl,pz trivial⟩ (h5) ?_|apply ae<;>intro h)
 (first|refine da pzA [] [true,true,false,true,true,true,false,true,true] ?_|refine db pzA [] [true,true,false,true,true,true,false,true,true] ?_)
 rfl
end
end
theorem afq (hc:aw s=(cz,t))(h: ¬so<=3):ag G 585 [.ref 0 0 0,.str s] (bP e1.length e2.length e3.length e4.length so pol trm e1 e2 e3 e4 k1 k2 k3 k4 []) ⟨pnV (.ifc 138 (.agg [.int .i64 2])),rP e1.length e2.length e3.length e4.length so pol trm (.vec 2 e1) (.vec 2 e2) (.vec 2 e3) (.vec 3 e4) k1 k2 k3 k4 []⟩:=by
 unfold bP rP;have h1:=aE s (by omega)
 rw[hc] at h1;dsimp only at h1;unfold cz at*;have h2:True->ag G 586 [.bool (decide ((3:Int)>=so))] [] (pF 2):=λ_=>by rw[Al (show¬(3:Int)>=so from h)];exact aU false
 refine gvC (F:=gh) ?_
 repeat' ((conv=>whnf);first|refine aG (by decide) ?_|refine bj ?_|refine aq ?_|apply ae<;>intro h)
 (conv=>whnf)
 refine CallG.stop ?_;refine aH 586 (h2 trivial) (λQ hr hg=>?_)
 refine kV hg ?_;refine bt pzA [] iC ?_;rfl
section
variable (hc:aw s=(cz,t))(h:so<=3)
include hc h
theorem Yv (ho: ¬bx t=true):ag G 585 [.ref 0 0 0,.str s] (bP e1.length e2.length e3.length e4.length so pol trm e1 e2 e3 e4 k1 k2 k3 k4 []) ⟨pnV (.ifc 138 (.agg [.int .i64 2])),rP e1.length e2.length e3.length e4.length so pol trm (.vec 2 e1) (.vec 2 e2) (.vec 2 e3) (.vec 3 e4) k1 k2 k3 k4 []⟩:=by
 unfold bP rP;have h1:=aE s (by omega)
 rw[hc] at h1;dsimp only at h1
 have ht:t.length<4294967281:=by
  have:=congrArg (λp=>p.2.length) hc
  have h2:=bc s;simp only at this;omega
 unfold cz at*;have h2:ag G 586 [.bool (decide ((3:Int)>=so))] [] ⟨.tup [],[]⟩:=by rw[Ak (show (3:Int)>=so from h)];exact aU true
 have h3:=λ(_:True)=>ba t ht
 rw[Aa ho] at h3;refine gvC (F:=gh) ?_
 repeat' ((conv=>whnf);first|refine aG (by decide) ?_|refine bj ?_|refine aq ?_|apply ae<;>intro h)
 (conv=>whnf)
 refine CallG.stop ?_;refine aH 597 (h3 trivial) (λQ hr hg=>?_)
 refine kV hg ?_;refine bt pzA [] iC ?_;rfl
theorem YL (ho:bx t=true)(hk:64<=k3.length):ag G 585 [.ref 0 0 0,.str s] (bP e1.length e2.length e3.length e4.length so pol trm e1 e2 e3 e4 k1 k2 k3 k4 []) ⟨pnV (.ifc 138 (.agg [.int .i64 4])),rP e1.length e2.length e3.length e4.length 3 pol trm (.vec 2 e1) (.vec 2 e2) (.vec 2 e3) (.vec 3 e4) k1 k2 k3 k4 []⟩:=by
 unfold bP rP;have h1:=aE s (by omega)
 rw[hc] at h1;dsimp only at h1
 have ht:t.length<4294967281:=by
  have:=congrArg (λp=>p.2.length) hc
  have h2:=bc s;simp only at this;omega
 unfold cz at*;have h2:ag G 586 [.bool (decide ((3:Int)>=so))] [] ⟨.tup [],[]⟩:=by rw[Ak (show (3:Int)>=so from h)];exact aU true
 have h3:=ba t ht;rw[Ac ho] at h3;have h4:=λ(_:True)=>bC 4
 refine gvC (F:=gh) ?_
 repeat' ((conv=>whnf);first|refine aG (by decide) ?_|refine bj ?_|refine aq ?_|apply ae<;>intro h)
 (conv=>whnf)
 refine CallG.stop ?_;refine aH 590 (h4 trivial) (λQ hr hg=>?_)
 refine kV hg ?_;refine bt pzA [] iC ?_;rfl
section
variable (ho:bx t=true)(hk:k3.length<64)
include ho hk
theorem Yz (hn:eW k3 t≠0):ag G 585 [.ref 0 0 0,.str s] (bP e1.length e2.length e3.length e4.length so pol trm e1 e2 e3 e4 k1 k2 k3 k4 []) ⟨pnV (.ifc 138 (.agg [.int .i64 (eW k3 t)])),rP e1.length e2.length e3.length e4.length 3 pol trm (.vec 2 e1) (.vec 2 e2) (.vec 2 e3) (.vec 3 e4) k1 k2 k3 k4 []⟩:=by
 unfold bP rP;have h1:=aE s (by omega)
 rw[hc] at h1;dsimp only at h1
 have ht:t.length<4294967281:=by
  have:=congrArg (λp=>p.2.length) hc
  have h2:=bc s;simp only at this;omega
 unfold cz at*;have h2:ag G 586 [.bool (decide ((3:Int)>=so))] [] ⟨.tup [],[]⟩:=by rw[Ak (show (3:Int)>=so from h)];exact aU true
 have h3:=ba t ht;rw[Ac ho] at h3;have h4:=λ(_:True)=>bC (eW k3 t)
 rw[Aa hn] at h4;have h5:=gc k3 t (by omega) (by omega)
 have hl:((k3.map ah).length:Int)=k3.length:=by simp
 refine gvC (F:=gh) ?_
 repeat' ((conv=>whnf);first|refine aG (by decide) ?_|refine bj ?_|refine aq ?_|refine kZ [(7,_,_)] ⟨rfl,pz trivial⟩ (h5) ?_|apply ae<;>intro h)
 (conv=>whnf)
 refine CallG.stop ?_;refine aH 590 (h4 trivial) (λQ hr hg=>?_)
 refine kV hg ?_;refine bt pzA [] iC ?_;rfl
theorem afm (hn:eW k3 t=0):ag G 585 [.ref 0 0 0,.str s] (bP e1.length e2.length e3.length e4.length so pol trm e1 e2 e3 e4 k1 k2 k3 k4 []) ⟨.bool true,mkR [(true,.cells [.vs 1 0 e1.length,.vs 2 0 e2.length,.vs 3 0 (e3.length+1),.vs 4 0 e4.length,.vs 5 0 k1.length,.vs 6 0 k2.length,.vs 7 0 (k3.length+1),.vs 8 0 k4.length,.int .i64 3,.bool pol,.bool trm]),(true,.vec 2 e1),(true,.vec 2 e2),(false,.vec 2 (e3++[[.str t,.con (.slice none 0 0)]])),(true,.vec 3 e4),(true,.vec 1 (k1.map ah)),(true,.vec 1 (k2.map ah)),(false,.vec 1 (k3.map ah++[[.str t]])),(true,.vec 1 (k4.map ah))]⟩:=by
 unfold bP;have h1:=aE s (by omega)
 rw[hc] at h1;dsimp only at h1
 have ht:t.length<4294967281:=by
  have:=congrArg (λp=>p.2.length) hc
  have h2:=bc s;simp only at this;omega
 unfold cz at*;have h2:ag G 586 [.bool (decide ((3:Int)>=so))] [] ⟨.tup [],[]⟩:=by rw[Ak (show (3:Int)>=so from h)];exact aU true
 have h3:=ba t ht;rw[Ac ho] at h3;have h4:=bC 0;rw[Ac rfl] at h4;have h5:=gc k3 t (by omega) (by omega)
 rw[hn] at h5;have hl:((k3.map ah).length:Int)=k3.length:=by simp
 refine gvC (F:=gh) ?_
 repeat' ((conv=>whnf);first|refine aG (by decide) ?_|refine bj ?_|refine aq ?_|refine kZ [(7,_,_)] ⟨rfl,pz trivial⟩ (h5) ?_|apply ae<;>intro h)
 (first|refine da pzA [] [true,true,true,false,true,true,true,false,true] ?_|refine db pzA [] [true,true,true,false,true,true,true,false,true] ?_)
 rfl
end
end
theorem afp (hc:aw s=(gv,t))(h: ¬so<=4):ag G 585 [.ref 0 0 0,.str s] (bP e1.length e2.length e3.length e4.length so pol trm e1 e2 e3 e4 k1 k2 k3 k4 []) ⟨pnV (.ifc 138 (.agg [.int .i64 2])),rP e1.length e2.length e3.length e4.length so pol trm (.vec 2 e1) (.vec 2 e2) (.vec 2 e3) (.vec 3 e4) k1 k2 k3 k4 []⟩:=by
 unfold bP rP;have h1:=aE s (by omega)
 rw[hc] at h1;dsimp only at h1;unfold gv at*;have h2:True->ag G 586 [.bool (decide ((4:Int)>=so))] [] (pF 2):=λ_=>by rw[Al (show¬(4:Int)>=so from h)];exact aU false
 refine gvC (F:=gh) ?_
 repeat' ((conv=>whnf);first|refine aG (by decide) ?_|refine bj ?_|refine aq ?_|apply ae<;>intro h)
 (conv=>whnf)
 refine CallG.stop ?_;refine aH 586 (h2 trivial) (λQ hr hg=>?_)
 refine kV hg ?_;refine bt pzA [] iC ?_;rfl
section
variable (hc:aw s=(gv,t))(h:so<=4)
include hc h
theorem Yu (ho: ¬bx t=true):ag G 585 [.ref 0 0 0,.str s] (bP e1.length e2.length e3.length e4.length so pol trm e1 e2 e3 e4 k1 k2 k3 k4 []) ⟨pnV (.ifc 138 (.agg [.int .i64 2])),rP e1.length e2.length e3.length e4.length so pol trm (.vec 2 e1) (.vec 2 e2) (.vec 2 e3) (.vec 3 e4) k1 k2 k3 k4 []⟩:=by
 unfold bP rP;have h1:=aE s (by omega)
 rw[hc] at h1;dsimp only at h1
 have ht:t.length<4294967281:=by
  have:=congrArg (λp=>p.2.length) hc
  have h2:=bc s;simp only at this;omega
 unfold gv at*;have h2:ag G 586 [.bool (decide ((4:Int)>=so))] [] ⟨.tup [],[]⟩:=by rw[Ak (show (4:Int)>=so from h)];exact aU true
 have h3:=λ(_:True)=>ba t ht
 rw[Aa ho] at h3;refine gvC (F:=gh) ?_
 repeat' ((conv=>whnf);first|refine aG (by decide) ?_|refine bj ?_|refine aq ?_|apply ae<;>intro h)
 (conv=>whnf)
 refine CallG.stop ?_;refine aH 597 (h3 trivial) (λQ hr hg=>?_)
 refine kV hg ?_;refine bt pzA [] iC ?_;rfl
theorem YK (ho:bx t=true)(hk:64<=k4.length):ag G 585 [.ref 0 0 0,.str s] (bP e1.length e2.length e3.length e4.length so pol trm e1 e2 e3 e4 k1 k2 k3 k4 []) ⟨pnV (.ifc 138 (.agg [.int .i64 4])),rP e1.length e2.length e3.length e4.length 4 pol trm (.vec 2 e1) (.vec 2 e2) (.vec 2 e3) (.vec 3 e4) k1 k2 k3 k4 []⟩:=by
 unfold bP rP;have h1:=aE s (by omega)
 rw[hc] at h1;dsimp only at h1
 have ht:t.length<4294967281:=by
  have:=congrArg (λp=>p.2.length) hc
  have h2:=bc s;simp only at this;omega
 unfold gv at*;have h2:ag G 586 [.bool (decide ((4:Int)>=so))] [] ⟨.tup [],[]⟩:=by rw[Ak (show (4:Int)>=so from h)];exact aU true
 have h3:=ba t ht;rw[Ac ho] at h3;have h4:=λ(_:True)=>bC 4
 refine gvC (F:=gh) ?_
 repeat' ((conv=>whnf);first|refine aG (by decide) ?_|refine bj ?_|refine aq ?_|apply ae<;>intro h)
 (conv=>whnf)
 refine CallG.stop ?_;refine aH 590 (h4 trivial) (λQ hr hg=>?_)
 refine kV hg ?_;refine bt pzA [] iC ?_;rfl
section
variable (ho:bx t=true)(hk:k4.length<64)
include ho hk
theorem Yy (hn:eW k4 t≠0):ag G 585 [.ref 0 0 0,.str s] (bP e1.length e2.length e3.length e4.length so pol trm e1 e2 e3 e4 k1 k2 k3 k4 []) ⟨pnV (.ifc 138 (.agg [.int .i64 (eW k4 t)])),rP e1.length e2.length e3.length e4.length 4 pol trm (.vec 2 e1) (.vec 2 e2) (.vec 2 e3) (.vec 3 e4) k1 k2 k3 k4 []⟩:=by
 unfold bP rP;have h1:=aE s (by omega)
 rw[hc] at h1;dsimp only at h1
 have ht:t.length<4294967281:=by
  have:=congrArg (λp=>p.2.length) hc
  have h2:=bc s;simp only at this;omega
 unfold gv at*;have h2:ag G 586 [.bool (decide ((4:Int)>=so))] [] ⟨.tup [],[]⟩:=by rw[Ak (show (4:Int)>=so from h)];exact aU true
 have h3:=ba t ht;rw[Ac ho] at h3;have h4:=λ(_:True)=>bC (eW k4 t)
 rw[Aa hn] at h4;have h5:=gc k4 t (by omega) (by omega)
 have hl:((k4.map ah).length:Int)=k4.length:=by simp
 refine gvC (F:=gh) ?_
 repeat' ((conv=>whnf);first|refine aG (by decide) ?_|refine bj ?_|refine aq ?_|refine kZ [(8,_,_)] ⟨rfl,pz trivial⟩ (h5) ?_|apply ae<;>intro h)
 (conv=>whnf)
 refine CallG.stop ?_;refine aH 590 (h4 trivial) (λQ hr hg=>?_)
 refine kV hg ?_;refine bt pzA [] iC ?_;rfl
theorem afl (hn:eW k4 t=0):ag G 585 [.ref 0 0 0,.str s] (bP e1.length e2.length e3.length e4.length so pol trm e1 e2 e3 e4 k1 k2 k3 k4 []) ⟨.bool true,mkR [(true,.cells [.vs 1 0 e1.length,.vs 2 0 e2.length,.vs 3 0 e3.length,.vs 4 0 (e4.length+1),.vs 5 0 k1.length,.vs 6 0 k2.length,.vs 7 0 k3.length,.vs 8 0 (k4.length+1),.int .i64 4,.bool true,.bool trm]),(true,.vec 2 e1),(true,.vec 2 e2),(true,.vec 2 e3),(false,.vec 3 (e4++[[.str t,.con (.slice none 0 0),.int .i64 0]])),(true,.vec 1 (k1.map ah)),(true,.vec 1 (k2.map ah)),(true,.vec 1 (k3.map ah)),(false,.vec 1 (k4.map ah++[[.str t]]))]⟩:=by
 unfold bP;have h1:=aE s (by omega)
 rw[hc] at h1;dsimp only at h1
 have ht:t.length<4294967281:=by
  have:=congrArg (λp=>p.2.length) hc
  have h2:=bc s;simp only at this;omega
 unfold gv at*;have h2:ag G 586 [.bool (decide ((4:Int)>=so))] [] ⟨.tup [],[]⟩:=by rw[Ak (show (4:Int)>=so from h)];exact aU true
 have h3:=ba t ht;rw[Ac ho] at h3;have h4:=bC 0;rw[Ac rfl] at h4;have h5:=gc k4 t (by omega) (by omega)
 rw[hn] at h5;have hl:((k4.map ah).length:Int)=k4.length:=by simp
 refine gvC (F:=gh) ?_
 repeat' ((conv=>whnf);first|refine aG (by decide) ?_|refine bj ?_|refine aq ?_|refine kZ [(8,_,_)] ⟨rfl,pz trivial⟩ (h5) ?_|apply ae<;>intro h)
 (first|refine da pzA [] [true,true,true,true,false,true,true,true,false] ?_|refine db pzA [] [true,true,true,true,false,true,true,true,false] ?_)
 rfl
end
end
end
theorem oX (s:B5)(h:s.length<2^32): ∃(k lo hi:Int)(l:C7),ag G 516 [.str s] [] ⟨.tup [.agg [.int .i64 k,.int .i64 lo,.int .i64 hi,.sl 4 (l.map Rx.enc)],.int .i64 (if (ff s).isSome then 0 else 2)],[]⟩:=by
 have h1:ag G 516 [.str s] [] (rQ (ff s)):=by
  rw[<-ab7];show (if s.length<2^32 then some (rQ (rf s)) else none)=_
  rw[Ac h]
 cases hq:ff s with
 |none=>
  rw[hq] at h1;refine ⟨0,0,0,[],?_⟩;have e:=bl 0 0 0 [];have h2:ag G 516 [.str s] [] ⟨.tup [.agg rx0.enc,.int .i64 2],[]⟩:=h1;unfold rx0 at h2;rw[e] at h2;exact h2
 |some x=>
  rw[hq] at h1;obtain ⟨k,lo,hi,l⟩:=x;refine ⟨k,lo,hi,l,?_⟩;have h2:ag G 516 [.str s] [] ⟨.tup [.agg (Rx.mk k lo hi l).enc,.int .i64 0],[]⟩:=h1;rw[bl] at h2;exact h2
theorem qq {w:B5}(h:bn w=0):w≠cH/\w≠cG/\w≠cz/\w≠gv:=by
 grind [bn]
def dJ (s:B5):Option (Bool×B5):=if (aw s).1=jA then some (true,(aw s).2) else if (aw s).1=oU then some (false,(aw s).2) else none
def yy:Option (Bool×B5)->Ret
 |some (b,t)=>⟨.tup [.bool b,.str t],[]⟩
 |none=>pF 2
theorem gY (s:B5)(hs:s.length<2^40):ag G 588 [.str s] [] (yy (dJ s)):=by
 have h:=EW s hs;unfold dJ;split at h
 ·rename_i c;rw[Ac c];exact h
 ·rename_i c
  rw[Aa c];split at h
  ·rename_i d;rw[Ac d];exact h
  ·rename_i d;rw[Aa d];exact h
theorem qh {s:B5}{b:Bool}{t:B5}(h:dJ s=some (b,t)):t.length<=s.length:=by
 grind [bc,dJ]
theorem abU (e1 e2 e3 e4:B6)(p1:ab e1=true)(p2:ab e2=true)(p3:ab e3=true)(p4:ab e4=true)(k1 k2 k3 k4:CF)(so:Int)(pol trm:Bool)(s:B5)(hs:s.length<4294967281)(so' e:Int)(h:ag G 585 [.ref 0 0 0,.str s] (bP e1.length e2.length e3.length e4.length so pol trm e1 e2 e3 e4 k1 k2 k3 k4 []) ⟨pnV (.ifc 138 (.agg [.int .i64 e])),rP e1.length e2.length e3.length e4.length so' pol trm (.vec 2 e1) (.vec 2 e2) (.vec 2 e3) (.vec 3 e4) k1 k2 k3 k4 []⟩):ag G 541 [.ref 0 0 0,.str s] (bP e1.length e2.length e3.length e4.length so pol trm e1 e2 e3 e4 k1 k2 k3 k4 []) ⟨pnV (.ifc 138 (.agg [.int .i64 e])),rP e1.length e2.length e3.length e4.length so' pol trm (.vec 2 e1) (.vec 2 e2) (.vec 2 e3) (.vec 3 e4) k1 k2 k3 k4 []⟩:=by
 unfold bP rP;replace h:=λ(_:True)=>h
 refine gvB (F:=jw) ?_
 (conv=>whnf)
 refine CallG.stop ?_;refine aH 585 (h trivial) (λQ hr hg=>?_)
 refine kP pzA [] lD trivial hg ?_ (hE:=by rw[hr];kernel_rfl)
 refine bt pzA [] iC ?_;rfl
section
variable (e1 e2 e3 e4:B6)(p1:ab e1=true)(p2:ab e2=true)(p3:ab e3=true)(p4:ab e4=true)(k1 k2 k3 k4:CF)(so:Int)(pol trm:Bool)(l1:e1.length<2^30)(l2:e2.length<2^30)(l3:e3.length<2^30)(l4:e4.length<2^30)(q1:k1.length<2^30)(q2:k2.length<2^30)(q3:k3.length<2^30)(q4:k4.length<2^30)(s t:B5)
include p1 p2 p3 p4 l1 l2 l3 l4 q1 q2 q3 q4
theorem abZ (s:B5)(hs:s.length<4294967281)(hq:bn (aw s).1=0)(n1:so≠1)(n2:so≠2)(n3:so≠3):ag G 541 [.ref 0 0 0,.str s] (bP e1.length e2.length e3.length e4.length so pol trm e1 e2 e3 e4 k1 k2 k3 k4 []) ⟨pnV (.ifc 138 (.agg [.int .i64 2])),rP e1.length e2.length e3.length e4.length so pol trm (.vec 2 e1) (.vec 2 e2) (.vec 2 e3) (.vec 3 e4) k1 k2 k3 k4 []⟩:=by
 unfold bP rP;obtain ⟨w1,w2,w3,w4⟩:=qq hq;have h0:=ahd e1 e2 e3 e4 p1 p2 p3 p4 k1 k2 k3 k4 so pol trm l1 l2 l3 l4 q1 q2 q3 q4 s (aw s).1 (aw s).2 hs rfl w1 w2 w3 w4;have h2:=λ(_:True)=>aU false
 have n1': ¬so=1:=n1;have n2': ¬so=2:=n2;have n3': ¬so=3:=n3;refine gvB (F:=jw) ?_
 (conv=>whnf)
 refine kP pzA [] lD trivial h0 ?_
 repeat' ((conv=>whnf);first|refine fu n1' ?_|refine fu n2' ?_|refine fu n3' ?_|refine aq ?_|apply ae<;>intro h)
 (conv=>whnf)
 refine CallG.stop ?_;refine aH 586 (h2 trivial) (λQ hr hg=>?_)
 refine kV hg ?_;refine bt pzA [] iC ?_;rfl
section
variable (hs:s.length<4294967281)
include hs
theorem abY (hc:aw s=(cH,t))(h:so<=1)(ho:bx t=true)(hk:k1.length<64)(hn:eW k1 t=0):ag G 541 [.ref 0 0 0,.str s] (bP e1.length e2.length e3.length e4.length so pol trm e1 e2 e3 e4 k1 k2 k3 k4 []) ⟨.tup [],mkR [(true,.cells [.vs 1 0 (e1.length+1),.vs 2 0 e2.length,.vs 3 0 e3.length,.vs 4 0 e4.length,.vs 5 0 (k1.length+1),.vs 6 0 k2.length,.vs 7 0 k3.length,.vs 8 0 k4.length,.int .i64 1,.bool pol,.bool trm]),(false,.vec 2 (e1++[[.str t,.con (.slice none 0 0)]])),(true,.vec 2 e2),(true,.vec 2 e3),(true,.vec 3 e4),(false,.vec 1 (k1.map ah++[[.str t]])),(true,.vec 1 (k2.map ah)),(true,.vec 1 (k3.map ah)),(true,.vec 1 (k4.map ah))]⟩:=by
 unfold bP;have h0:=afo e1 e2 e3 e4 p1 p2 p3 p4 k1 k2 k3 k4 so pol trm l1 l2 l3 l4 q1 q2 q3 q4 s t hs hc h ho hk hn;refine gvB (F:=jw) ?_
 (conv=>whnf)
 refine kP pzA [] lD trivial h0 ?_
 repeat' (first|refine aW ?_|apply ae<;>intro h)
 (first|refine da pzA [] [true,false,true,true,true,false,true,true,true] ?_|refine db pzA [] [true,false,true,true,true,false,true,true,true] ?_)
 rfl
theorem abX (hc:aw s=(cG,t))(h:so<=2)(ho:bx t=true)(hk:k2.length<64)(hn:eW k2 t=0):ag G 541 [.ref 0 0 0,.str s] (bP e1.length e2.length e3.length e4.length so pol trm e1 e2 e3 e4 k1 k2 k3 k4 []) ⟨.tup [],mkR [(true,.cells [.vs 1 0 e1.length,.vs 2 0 (e2.length+1),.vs 3 0 e3.length,.vs 4 0 e4.length,.vs 5 0 k1.length,.vs 6 0 (k2.length+1),.vs 7 0 k3.length,.vs 8 0 k4.length,.int .i64 2,.bool pol,.bool trm]),(true,.vec 2 e1),(false,.vec 2 (e2++[[.str t,.con (.slice none 0 0)]])),(true,.vec 2 e3),(true,.vec 3 e4),(true,.vec 1 (k1.map ah)),(false,.vec 1 (k2.map ah++[[.str t]])),(true,.vec 1 (k3.map ah)),(true,.vec 1 (k4.map ah))]⟩:=by
 unfold bP;have h0:=afn e1 e2 e3 e4 p1 p2 p3 p4 k1 k2 k3 k4 so pol trm l1 l2 l3 l4 q1 q2 q3 q4 s t hs hc h ho hk hn;refine gvB (F:=jw) ?_
 (conv=>whnf)
 refine kP pzA [] lD trivial h0 ?_
 repeat' (first|refine aW ?_|apply ae<;>intro h)
 (first|refine da pzA [] [true,true,false,true,true,true,false,true,true] ?_|refine db pzA [] [true,true,false,true,true,true,false,true,true] ?_)
 rfl
theorem abW (hc:aw s=(cz,t))(h:so<=3)(ho:bx t=true)(hk:k3.length<64)(hn:eW k3 t=0):ag G 541 [.ref 0 0 0,.str s] (bP e1.length e2.length e3.length e4.length so pol trm e1 e2 e3 e4 k1 k2 k3 k4 []) ⟨.tup [],mkR [(true,.cells [.vs 1 0 e1.length,.vs 2 0 e2.length,.vs 3 0 (e3.length+1),.vs 4 0 e4.length,.vs 5 0 k1.length,.vs 6 0 k2.length,.vs 7 0 (k3.length+1),.vs 8 0 k4.length,.int .i64 3,.bool pol,.bool trm]),(true,.vec 2 e1),(true,.vec 2 e2),(false,.vec 2 (e3++[[.str t,.con (.slice none 0 0)]])),(true,.vec 3 e4),(true,.vec 1 (k1.map ah)),(true,.vec 1 (k2.map ah)),(false,.vec 1 (k3.map ah++[[.str t]])),(true,.vec 1 (k4.map ah))]⟩:=by
 unfold bP;have h0:=afm e1 e2 e3 e4 p1 p2 p3 p4 k1 k2 k3 k4 so pol trm l1 l2 l3 l4 q1 q2 q3 q4 s t hs hc h ho hk hn;refine gvB (F:=jw) ?_
 (conv=>whnf)
 refine kP pzA [] lD trivial h0 ?_
 repeat' (first|refine aW ?_|apply ae<;>intro h)
 (first|refine da pzA [] [true,true,true,false,true,true,true,false,true] ?_|refine db pzA [] [true,true,true,false,true,true,true,false,true] ?_)
 rfl
theorem abV (hc:aw s=(gv,t))(h:so<=4)(ho:bx t=true)(hk:k4.length<64)(hn:eW k4 t=0):ag G 541 [.ref 0 0 0,.str s] (bP e1.length e2.length e3.length e4.length so pol trm e1 e2 e3 e4 k1 k2 k3 k4 []) ⟨.tup [],mkR [(true,.cells [.vs 1 0 e1.length,.vs 2 0 e2.length,.vs 3 0 e3.length,.vs 4 0 (e4.length+1),.vs 5 0 k1.length,.vs 6 0 k2.length,.vs 7 0 k3.length,.vs 8 0 (k4.length+1),.int .i64 4,.bool true,.bool trm]),(true,.vec 2 e1),(true,.vec 2 e2),(true,.vec 2 e3),(false,.vec 3 (e4++[[.str t,.con (.slice none 0 0),.int .i64 0]])),(true,.vec 1 (k1.map ah)),(true,.vec 1 (k2.map ah)),(true,.vec 1 (k3.map ah)),(false,.vec 1 (k4.map ah++[[.str t]]))]⟩:=by
 unfold bP;have h0:=afl e1 e2 e3 e4 p1 p2 p3 p4 k1 k2 k3 k4 so pol trm l1 l2 l3 l4 q1 q2 q3 q4 s t hs hc h ho hk hn;refine gvB (F:=jw) ?_
 (conv=>whnf)
 refine kP pzA [] lD trivial h0 ?_
 repeat' (first|refine aW ?_|apply ae<;>intro h)
 (first|refine da pzA [] [true,true,true,true,false,true,true,true,false] ?_|refine db pzA [] [true,true,true,true,false,true,true,true,false] ?_)
 rfl
end
end
end Go.AM.IR
