/- What functions of this program give. -/
import Derived.Test.YtomphmeopjpejaaGreatDoorDataH
set_option linter.unusedSectionVars false
set_option linter.unusedVariables false
set_option linter.unusedSimpArgs false
set_option maxHeartbeats 4000000
set_option maxRecDepth 20000
namespace Go.AM.IR
section
variable (n1 n2 n3 n4:Nat)(so:Int)(pol trm:Bool)(e1 e2 e3 e4:CS)
def bP (k1 k2 k3 k4:C5)(x:Dn):Dn:=.cells [.vs 1 0 n1,.vs 2 0 n2,.vs 3 0 n3,.vs 4 0 n4,.vs 5 0 k1.length,.vs 6 0 k2.length,.vs 7 0 k3.length,.vs 8 0 k4.length,.int .i64 so,.bool pol,.bool trm]:: .vec 2 e1:: .vec 2 e2:: .vec 2 e3:: .vec 3 e4:: .vec 1 (k1.map am):: .vec 1 (k2.map am):: .vec 1 (k3.map am):: .vec 1 (k4.map am)::x
def rP (e1 e2 e3 e4:PB)(k1 k2 k3 k4:C5)(x:DT):C1:=mkR ((true,.cells [.vs 1 0 n1,.vs 2 0 n2,.vs 3 0 n3,.vs 4 0 n4,.vs 5 0 k1.length,.vs 6 0 k2.length,.vs 7 0 k3.length,.vs 8 0 k4.length,.int .i64 so,.bool pol,.bool trm])::(true,e1)::(true,e2)::(true,e3)::(true,e4)::(true,.vec 1 (k1.map am))::(true,.vec 1 (k2.map am))::(true,.vec 1 (k3.map am))::(true,.vec 1 (k4.map am))::x)
def cR:CF:=[112,114,101,102,105,120,45,108,105,115,116]
def cQ:CF:=[112,97,116,104,45,108,105,115,116]
def cP:CF:=[99,111,109,109,117,110,105,116,121,45,108,105,115,116]
def gH:CF:=[112,111,108,105,99,121]
def bH (w:CF):Int:=if w=cR then 1 else if w=cQ then 2 else if w=cP then 3 else if w=gH then 4 else 0
theorem ba: ∀s:CF,(ax s).1.length<=s.length/\(ax s).2.length<=s.length
 | []=>by simp[ax]
 |c::r=>by
  have ih:=ba r;unfold ax;split
  ·simp
  ·simp only[As];omega
theorem agM (p1:aa e1=true)(p2:aa e2=true)(p3:aa e3=true)(p4:aa e4=true)(k1 k2 k3 k4:C5)(so:Int)(pol trm:Bool)(l1:e1.length<2^30)(l2:e2.length<2^30)(l3:e3.length<2^30)(l4:e4.length<2^30)(q1:k1.length<2^30)(q2:k2.length<2^30)(q3:k3.length<2^30)(q4:k4.length<2^30)(s w t:CF)(hs:s.length<4294967281)(hc:ax s=(w,t))(h1:w≠cR)(h2:w≠cQ)(h3:w≠cP)(h4:w≠gH):ab G 585 [.ref 0 0 0,.str s] (bP e1.length e2.length e3.length e4.length so pol trm e1 e2 e3 e4 k1 k2 k3 k4 []) ⟨.bool false,rP e1.length e2.length e3.length e4.length so pol trm (.vec 2 e1) (.vec 2 e2) (.vec 2 e3) (.vec 3 e4) k1 k2 k3 k4 []⟩:=by
 unfold bP rP;have h0:=az s (by omega)
 rw[hc] at h0;dsimp only at h0;unfold cR at h1;unfold cQ at h2;unfold cP at h3;unfold gH at h4;refine gvC (F:=gj) ?_
 repeat' ((conv=>whnf);first|refine aU h1 ?_|refine aU h2 ?_|refine aU h3 ?_|refine aU h4 ?_|refine ay ?_|apply ae<;>intro h)
 (first|refine cY pzA [] iC ?_|refine cZ pzA [] iC ?_)
 rfl
end
section
variable (e1 e2 e3 e4:CS)(p1:aa e1=true)(p2:aa e2=true)(p3:aa e3=true)(p4:aa e4=true)(k1 k2 k3 k4:C5)(so:Int)(pol trm:Bool)(l1:e1.length<2^30)(l2:e2.length<2^30)(l3:e3.length<2^30)(l4:e4.length<2^30)(q1:k1.length<2^30)(q2:k2.length<2^30)(q3:k3.length<2^30)(q4:k4.length<2^30)(s t:CF)(hs:s.length<4294967281)
include p1 p2 p3 p4 l1 l2 l3 l4 q1 q2 q3 q4 hs
theorem afe (hc:ax s=(cR,t))(h: ¬so<=1):ab G 585 [.ref 0 0 0,.str s] (bP e1.length e2.length e3.length e4.length so pol trm e1 e2 e3 e4 k1 k2 k3 k4 []) ⟨pnV (.ifc 138 (.agg [.int .i64 2])),rP e1.length e2.length e3.length e4.length so pol trm (.vec 2 e1) (.vec 2 e2) (.vec 2 e3) (.vec 3 e4) k1 k2 k3 k4 []⟩:=by
 unfold bP rP;have h1:=az s (by omega)
 rw[hc] at h1;dsimp only at h1;unfold cR at*;have h2:True->ab G 586 [.bool (decide ((1:Int)>=so))] [] (pF 2):=λ_=>by rw[An (show¬(1:Int)>=so from h)];exact aM false
 refine gvC (F:=gj) ?_
 repeat' ((conv=>whnf);first|refine bl ?_|refine ay ?_|apply ae<;>intro h)
 (conv=>whnf)
 refine CallG.stop ?_;refine aE 586 (h2 trivial) (λQ hr hg=>?_)
 refine kV hg ?_;refine bn pzA [] iC ?_;rfl
section
variable (hc:ax s=(cR,t))(h:so<=1)
include hc h
theorem Zu (ho: ¬bv t=true):ab G 585 [.ref 0 0 0,.str s] (bP e1.length e2.length e3.length e4.length so pol trm e1 e2 e3 e4 k1 k2 k3 k4 []) ⟨pnV (.ifc 138 (.agg [.int .i64 2])),rP e1.length e2.length e3.length e4.length so pol trm (.vec 2 e1) (.vec 2 e2) (.vec 2 e3) (.vec 3 e4) k1 k2 k3 k4 []⟩:=by
 unfold bP rP;have h1:=az s (by omega)
 rw[hc] at h1;dsimp only at h1
 have ht:t.length<4294967281:=by
  have:=congrArg (λp=>p.2.length) hc
  have h2:=ba s;simp only at this;omega
 unfold cR at*;have h2:ab G 586 [.bool (decide ((1:Int)>=so))] [] ⟨.tup [],[]⟩:=by rw[Al (show (1:Int)>=so from h)];exact aM true
 have h3:=λ(_:True)=>aZ t ht
 rw[Ac ho] at h3;refine gvC (F:=gj) ?_
 repeat' ((conv=>whnf);first|refine bl ?_|refine ay ?_|apply ae<;>intro h)
 (conv=>whnf)
 refine CallG.stop ?_;refine aE 597 (h3 trivial) (λQ hr hg=>?_)
 refine kV hg ?_;refine bn pzA [] iC ?_;rfl
theorem ZL (ho:bv t=true)(hk:64<=k1.length):ab G 585 [.ref 0 0 0,.str s] (bP e1.length e2.length e3.length e4.length so pol trm e1 e2 e3 e4 k1 k2 k3 k4 []) ⟨pnV (.ifc 138 (.agg [.int .i64 4])),rP e1.length e2.length e3.length e4.length 1 pol trm (.vec 2 e1) (.vec 2 e2) (.vec 2 e3) (.vec 3 e4) k1 k2 k3 k4 []⟩:=by
 unfold bP rP;have h1:=az s (by omega)
 rw[hc] at h1;dsimp only at h1
 have ht:t.length<4294967281:=by
  have:=congrArg (λp=>p.2.length) hc
  have h2:=ba s;simp only at this;omega
 unfold cR at*;have h2:ab G 586 [.bool (decide ((1:Int)>=so))] [] ⟨.tup [],[]⟩:=by rw[Al (show (1:Int)>=so from h)];exact aM true
 have h3:=aZ t ht;rw[Ad ho] at h3;have h4:=λ(_:True)=>bw 4
 refine gvC (F:=gj) ?_
 repeat' ((conv=>whnf);first|refine bl ?_|refine ay ?_|apply ae<;>intro h)
 (conv=>whnf)
 refine CallG.stop ?_;refine aE 590 (h4 trivial) (λQ hr hg=>?_)
 refine kV hg ?_;refine bn pzA [] iC ?_;rfl
section
variable (ho:bv t=true)(hk:k1.length<64)
include ho hk
theorem ZC (hn:cq k1 t≠0):ab G 585 [.ref 0 0 0,.str s] (bP e1.length e2.length e3.length e4.length so pol trm e1 e2 e3 e4 k1 k2 k3 k4 []) ⟨pnV (.ifc 138 (.agg [.int .i64 (cq k1 t)])),rP e1.length e2.length e3.length e4.length 1 pol trm (.vec 2 e1) (.vec 2 e2) (.vec 2 e3) (.vec 3 e4) k1 k2 k3 k4 []⟩:=by
 unfold bP rP;have h1:=az s (by omega)
 rw[hc] at h1;dsimp only at h1
 have ht:t.length<4294967281:=by
  have:=congrArg (λp=>p.2.length) hc
  have h2:=ba s;simp only at this;omega
 unfold cR at*;have h2:ab G 586 [.bool (decide ((1:Int)>=so))] [] ⟨.tup [],[]⟩:=by rw[Al (show (1:Int)>=so from h)];exact aM true
 have h3:=aZ t ht;rw[Ad ho] at h3;have h4:=λ(_:True)=>bw (cq k1 t)
 rw[Ac hn] at h4;have h5:=dj k1 t (by omega) (by omega)
 have hl:((k1.map am).length:Int)=k1.length:=by simp
 refine gvC (F:=gj) ?_
 repeat' ((conv=>whnf);first|refine bl ?_|refine ay ?_|refine kZ [(5,_,_)] ⟨rfl,pz trivial⟩ (h5) ?_|apply ae<;>intro h)
 (conv=>whnf)
 refine CallG.stop ?_;refine aE 590 (h4 trivial) (λQ hr hg=>?_)
 refine kV hg ?_;refine bn pzA [] iC ?_;rfl
theorem afa (hn:cq k1 t=0):ab G 585 [.ref 0 0 0,.str s] (bP e1.length e2.length e3.length e4.length so pol trm e1 e2 e3 e4 k1 k2 k3 k4 []) ⟨.bool true,mkR [(true,.cells [.vs 1 0 (e1.length+1),.vs 2 0 e2.length,.vs 3 0 e3.length,.vs 4 0 e4.length,.vs 5 0 (k1.length+1),.vs 6 0 k2.length,.vs 7 0 k3.length,.vs 8 0 k4.length,.int .i64 1,.bool pol,.bool trm]),(false,.vec 2 (e1++[[.str t,.con (.slice none 0 0)]])),(true,.vec 2 e2),(true,.vec 2 e3),(true,.vec 3 e4),(false,.vec 1 (k1.map am++[[.str t]])),(true,.vec 1 (k2.map am)),(true,.vec 1 (k3.map am)),(true,.vec 1 (k4.map am))]⟩:=by
 unfold bP;have h1:=az s (by omega)
 rw[hc] at h1;dsimp only at h1
 have ht:t.length<4294967281:=by
  have:=congrArg (λp=>p.2.length) hc
  have h2:=ba s;simp only at this;omega
 unfold cR at*;have h2:ab G 586 [.bool (decide ((1:Int)>=so))] [] ⟨.tup [],[]⟩:=by rw[Al (show (1:Int)>=so from h)];exact aM true
 have h3:=aZ t ht;rw[Ad ho] at h3;have h4:=bw 0;rw[Ad rfl] at h4;have h5:=dj k1 t (by omega) (by omega)
 rw[hn] at h5;have hl:((k1.map am).length:Int)=k1.length:=by simp
 refine gvC (F:=gj) ?_
 repeat' ((conv=>whnf);first|refine bl ?_|refine ay ?_|refine kZ [(5,_,_)] ⟨rfl,pz trivial⟩ (h5) ?_|apply ae<;>intro h)
 (first|refine cY pzA [] [true,false,true,true,true,false,true,true,true] ?_|refine cZ pzA [] [true,false,true,true,true,false,true,true,true] ?_)
 rfl
end
end
theorem afd (hc:ax s=(cQ,t))(h: ¬so<=2):ab G 585 [.ref 0 0 0,.str s] (bP e1.length e2.length e3.length e4.length so pol trm e1 e2 e3 e4 k1 k2 k3 k4 []) ⟨pnV (.ifc 138 (.agg [.int .i64 2])),rP e1.length e2.length e3.length e4.length so pol trm (.vec 2 e1) (.vec 2 e2) (.vec 2 e3) (.vec 3 e4) k1 k2 k3 k4 []⟩:=by
 unfold bP rP;have h1:=az s (by omega)
 rw[hc] at h1;dsimp only at h1;unfold cQ at*;have h2:True->ab G 586 [.bool (decide ((2:Int)>=so))] [] (pF 2):=λ_=>by rw[An (show¬(2:Int)>=so from h)];exact aM false
 refine gvC (F:=gj) ?_
 repeat' ((conv=>whnf);first|refine aU (by decide) ?_|refine bl ?_|refine ay ?_|apply ae<;>intro h)
 (conv=>whnf)
 refine CallG.stop ?_;refine aE 586 (h2 trivial) (λQ hr hg=>?_)
 refine kV hg ?_;refine bn pzA [] iC ?_;rfl
section
variable (hc:ax s=(cQ,t))(h:so<=2)
include hc h
theorem Zt (ho: ¬bv t=true):ab G 585 [.ref 0 0 0,.str s] (bP e1.length e2.length e3.length e4.length so pol trm e1 e2 e3 e4 k1 k2 k3 k4 []) ⟨pnV (.ifc 138 (.agg [.int .i64 2])),rP e1.length e2.length e3.length e4.length so pol trm (.vec 2 e1) (.vec 2 e2) (.vec 2 e3) (.vec 3 e4) k1 k2 k3 k4 []⟩:=by
 unfold bP rP;have h1:=az s (by omega)
 rw[hc] at h1;dsimp only at h1
 have ht:t.length<4294967281:=by
  have:=congrArg (λp=>p.2.length) hc
  have h2:=ba s;simp only at this;omega
 unfold cQ at*;have h2:ab G 586 [.bool (decide ((2:Int)>=so))] [] ⟨.tup [],[]⟩:=by rw[Al (show (2:Int)>=so from h)];exact aM true
 have h3:=λ(_:True)=>aZ t ht
 rw[Ac ho] at h3;refine gvC (F:=gj) ?_
 repeat' ((conv=>whnf);first|refine aU (by decide) ?_|refine bl ?_|refine ay ?_|apply ae<;>intro h)
 (conv=>whnf)
 refine CallG.stop ?_;refine aE 597 (h3 trivial) (λQ hr hg=>?_)
 refine kV hg ?_;refine bn pzA [] iC ?_;rfl
theorem ZK (ho:bv t=true)(hk:64<=k2.length):ab G 585 [.ref 0 0 0,.str s] (bP e1.length e2.length e3.length e4.length so pol trm e1 e2 e3 e4 k1 k2 k3 k4 []) ⟨pnV (.ifc 138 (.agg [.int .i64 4])),rP e1.length e2.length e3.length e4.length 2 pol trm (.vec 2 e1) (.vec 2 e2) (.vec 2 e3) (.vec 3 e4) k1 k2 k3 k4 []⟩:=by
 unfold bP rP;have h1:=az s (by omega)
 rw[hc] at h1;dsimp only at h1
 have ht:t.length<4294967281:=by
  have:=congrArg (λp=>p.2.length) hc
  have h2:=ba s;simp only at this;omega
 unfold cQ at*;have h2:ab G 586 [.bool (decide ((2:Int)>=so))] [] ⟨.tup [],[]⟩:=by rw[Al (show (2:Int)>=so from h)];exact aM true
 have h3:=aZ t ht;rw[Ad ho] at h3;have h4:=λ(_:True)=>bw 4
 refine gvC (F:=gj) ?_
 repeat' ((conv=>whnf);first|refine aU (by decide) ?_|refine bl ?_|refine ay ?_|apply ae<;>intro h)
 (conv=>whnf)
 refine CallG.stop ?_;refine aE 590 (h4 trivial) (λQ hr hg=>?_)
 refine kV hg ?_;refine bn pzA [] iC ?_;rfl
section
variable (ho:bv t=true)(hk:k2.length<64)
include ho hk
theorem Zy (hn:cq k2 t≠0):ab G 585 [.ref 0 0 0,.str s] (bP e1.length e2.length e3.length e4.length so pol trm e1 e2 e3 e4 k1 k2 k3 k4 []) ⟨pnV (.ifc 138 (.agg [.int .i64 (cq k2 t)])),rP e1.length e2.length e3.length e4.length 2 pol trm (.vec 2 e1) (.vec 2 e2) (.vec 2 e3) (.vec 3 e4) k1 k2 k3 k4 []⟩:=by
 unfold bP rP;have h1:=az s (by omega)
 rw[hc] at h1;dsimp only at h1
 have ht:t.length<4294967281:=by
  have:=congrArg (λp=>p.2.length) hc
  have h2:=ba s;simp only at this;omega
 unfold cQ at*;have h2:ab G 586 [.bool (decide ((2:Int)>=so))] [] ⟨.tup [],[]⟩:=by rw[Al (show (2:Int)>=so from h)];exact aM true
 have h3:=aZ t ht;rw[Ad ho] at h3;have h4:=λ(_:True)=>bw (cq k2 t)
 rw[Ac hn] at h4;have h5:=dj k2 t (by omega) (by omega)
 have hl:((k2.map am).length:Int)=k2.length:=by simp
 refine gvC (F:=gj) ?_
 repeat' ((conv=>whnf);first|refine aU (by decide) ?_|refine bl ?_|refine ay ?_|refine kZ [(6,_,_)] ⟨rfl,pz trivial⟩ (h5) ?_|apply ae<;>intro h)
 (conv=>whnf)
 refine CallG.stop ?_;refine aE 590 (h4 trivial) (λQ hr hg=>?_)
 refine kV hg ?_;refine bn pzA [] iC ?_;rfl
theorem ae9 (hn:cq k2 t=0):ab G 585 [.ref 0 0 0,.str s] (bP e1.length e2.length e3.length e4.length so pol trm e1 e2 e3 e4 k1 k2 k3 k4 []) ⟨.bool true,mkR [(true,.cells [.vs 1 0 e1.length,.vs 2 0 (e2.length+1),.vs 3 0 e3.length,.vs 4 0 e4.length,.vs 5 0 k1.length,.vs 6 0 (k2.length+1),.vs 7 0 k3.length,.vs 8 0 k4.length,.int .i64 2,.bool pol,.bool trm]),(true,.vec 2 e1),(false,.vec 2 (e2++[[.str t,.con (.slice none 0 0)]])),(true,.vec 2 e3),(true,.vec 3 e4),(true,.vec 1 (k1.map am)),(false,.vec 1 (k2.map am++[[.str t]])),(true,.vec 1 (k3.map am)),(true,.vec 1 (k4.map am))]⟩:=by
 unfold bP;have h1:=az s (by omega)
 rw[hc] at h1;dsimp only at h1
 have ht:t.length<4294967281:=by
  have:=congrArg (λp=>p.2.length) hc
  have h2:=ba s;simp only at this;omega
 unfold cQ at*;have h2:ab G 586 [.bool (decide ((2:Int)>=so))] [] ⟨.tup [],[]⟩:=by rw[Al (show (2:Int)>=so from h)];exact aM true
 have h3:=aZ t ht;rw[Ad ho] at h3;have h4:=bw 0;rw[Ad rfl] at h4;have h5:=dj k2 t (by omega) (by omega)
 rw[hn] at h5;have hl:((k2.map am).length:Int)=k2.length:=by simp
 refine gvC (F:=gj) ?_
 repeat' ((conv=>whnf);first|refine aU (by decide) ?_|refine bl ?_|refine ay ?_|refine kZ [(6,_,_)] ⟨rfl,pz trivial⟩ (h5) ?_|apply ae<;>intro h)
 (first|refine cY pzA [] [true,true,false,true,true,true,false,true,true] ?_|refine cZ pzA [] [true,true,false,true,true,true,false,true,true] ?_)
 rfl
end
end
theorem afc (hc:ax s=(cP,t))(h: ¬so<=3):ab G 585 [.ref 0 0 0,.str s] (bP e1.length e2.length e3.length e4.length so pol trm e1 e2 e3 e4 k1 k2 k3 k4 []) ⟨pnV (.ifc 138 (.agg [.int .i64 2])),rP e1.length e2.length e3.length e4.length so pol trm (.vec 2 e1) (.vec 2 e2) (.vec 2 e3) (.vec 3 e4) k1 k2 k3 k4 []⟩:=by
 unfold bP rP;have h1:=az s (by omega)
 rw[hc] at h1;dsimp only at h1;unfold cP at*;have h2:True->ab G 586 [.bool (decide ((3:Int)>=so))] [] (pF 2):=λ_=>by rw[An (show¬(3:Int)>=so from h)];exact aM false
 refine gvC (F:=gj) ?_
 repeat' ((conv=>whnf);first|refine aU (by decide) ?_|refine bl ?_|refine ay ?_|apply ae<;>intro h)
 (conv=>whnf)
 refine CallG.stop ?_;refine aE 586 (h2 trivial) (λQ hr hg=>?_)
 refine kV hg ?_;refine bn pzA [] iC ?_;rfl
section
variable (hc:ax s=(cP,t))(h:so<=3)
include hc h
theorem Zr (ho: ¬bv t=true):ab G 585 [.ref 0 0 0,.str s] (bP e1.length e2.length e3.length e4.length so pol trm e1 e2 e3 e4 k1 k2 k3 k4 []) ⟨pnV (.ifc 138 (.agg [.int .i64 2])),rP e1.length e2.length e3.length e4.length so pol trm (.vec 2 e1) (.vec 2 e2) (.vec 2 e3) (.vec 3 e4) k1 k2 k3 k4 []⟩:=by
 unfold bP rP;have h1:=az s (by omega)
 rw[hc] at h1;dsimp only at h1
 have ht:t.length<4294967281:=by
  have:=congrArg (λp=>p.2.length) hc
  have h2:=ba s;simp only at this;omega
 unfold cP at*;have h2:ab G 586 [.bool (decide ((3:Int)>=so))] [] ⟨.tup [],[]⟩:=by rw[Al (show (3:Int)>=so from h)];exact aM true
 have h3:=λ(_:True)=>aZ t ht
 rw[Ac ho] at h3;refine gvC (F:=gj) ?_
 repeat' ((conv=>whnf);first|refine aU (by decide) ?_|refine bl ?_|refine ay ?_|apply ae<;>intro h)
 (conv=>whnf)
 refine CallG.stop ?_;refine aE 597 (h3 trivial) (λQ hr hg=>?_)
 refine kV hg ?_;refine bn pzA [] iC ?_;rfl
theorem ZH (ho:bv t=true)(hk:64<=k3.length):ab G 585 [.ref 0 0 0,.str s] (bP e1.length e2.length e3.length e4.length so pol trm e1 e2 e3 e4 k1 k2 k3 k4 []) ⟨pnV (.ifc 138 (.agg [.int .i64 4])),rP e1.length e2.length e3.length e4.length 3 pol trm (.vec 2 e1) (.vec 2 e2) (.vec 2 e3) (.vec 3 e4) k1 k2 k3 k4 []⟩:=by
 unfold bP rP;have h1:=az s (by omega)
 rw[hc] at h1;dsimp only at h1
 have ht:t.length<4294967281:=by
  have:=congrArg (λp=>p.2.length) hc
  have h2:=ba s;simp only at this;omega
 unfold cP at*;have h2:ab G 586 [.bool (decide ((3:Int)>=so))] [] ⟨.tup [],[]⟩:=by rw[Al (show (3:Int)>=so from h)];exact aM true
 have h3:=aZ t ht;rw[Ad ho] at h3;have h4:=λ(_:True)=>bw 4
 refine gvC (F:=gj) ?_
 repeat' ((conv=>whnf);first|refine aU (by decide) ?_|refine bl ?_|refine ay ?_|apply ae<;>intro h)
 (conv=>whnf)
 refine CallG.stop ?_;refine aE 590 (h4 trivial) (λQ hr hg=>?_)
 refine kV hg ?_;refine bn pzA [] iC ?_;rfl
section
variable (ho:bv t=true)(hk:k3.length<64)
include ho hk
theorem Zx (hn:cq k3 t≠0):ab G 585 [.ref 0 0 0,.str s] (bP e1.length e2.length e3.length e4.length so pol trm e1 e2 e3 e4 k1 k2 k3 k4 []) ⟨pnV (.ifc 138 (.agg [.int .i64 (cq k3 t)])),rP e1.length e2.length e3.length e4.length 3 pol trm (.vec 2 e1) (.vec 2 e2) (.vec 2 e3) (.vec 3 e4) k1 k2 k3 k4 []⟩:=by
 unfold bP rP;have h1:=az s (by omega)
 rw[hc] at h1;dsimp only at h1
 have ht:t.length<4294967281:=by
  have:=congrArg (λp=>p.2.length) hc
  have h2:=ba s;simp only at this;omega
 unfold cP at*;have h2:ab G 586 [.bool (decide ((3:Int)>=so))] [] ⟨.tup [],[]⟩:=by rw[Al (show (3:Int)>=so from h)];exact aM true
 have h3:=aZ t ht;rw[Ad ho] at h3;have h4:=λ(_:True)=>bw (cq k3 t)
 rw[Ac hn] at h4;have h5:=dj k3 t (by omega) (by omega)
 have hl:((k3.map am).length:Int)=k3.length:=by simp
 refine gvC (F:=gj) ?_
 repeat' ((conv=>whnf);first|refine aU (by decide) ?_|refine bl ?_|refine ay ?_|refine kZ [(7,_,_)] ⟨rfl,pz trivial⟩ (h5) ?_|apply ae<;>intro h)
 (conv=>whnf)
 refine CallG.stop ?_;refine aE 590 (h4 trivial) (λQ hr hg=>?_)
 refine kV hg ?_;refine bn pzA [] iC ?_;rfl
theorem ae8 (hn:cq k3 t=0):ab G 585 [.ref 0 0 0,.str s] (bP e1.length e2.length e3.length e4.length so pol trm e1 e2 e3 e4 k1 k2 k3 k4 []) ⟨.bool true,mkR [(true,.cells [.vs 1 0 e1.length,.vs 2 0 e2.length,.vs 3 0 (e3.length+1),.vs 4 0 e4.length,.vs 5 0 k1.length,.vs 6 0 k2.length,.vs 7 0 (k3.length+1),.vs 8 0 k4.length,.int .i64 3,.bool pol,.bool trm]),(true,.vec 2 e1),(true,.vec 2 e2),(false,.vec 2 (e3++[[.str t,.con (.slice none 0 0)]])),(true,.vec 3 e4),(true,.vec 1 (k1.map am)),(true,.vec 1 (k2.map am)),(false,.vec 1 (k3.map am++[[.str t]])),(true,.vec 1 (k4.map am))]⟩:=by
 unfold bP;have h1:=az s (by omega)
 rw[hc] at h1;dsimp only at h1
 have ht:t.length<4294967281:=by
  have:=congrArg (λp=>p.2.length) hc
  have h2:=ba s;simp only at this;omega
 unfold cP at*;have h2:ab G 586 [.bool (decide ((3:Int)>=so))] [] ⟨.tup [],[]⟩:=by rw[Al (show (3:Int)>=so from h)];exact aM true
 have h3:=aZ t ht;rw[Ad ho] at h3;have h4:=bw 0;rw[Ad rfl] at h4;have h5:=dj k3 t (by omega) (by omega)
 rw[hn] at h5;have hl:((k3.map am).length:Int)=k3.length:=by simp
 refine gvC (F:=gj) ?_
 repeat' ((conv=>whnf);first|refine aU (by decide) ?_|refine bl ?_|refine ay ?_|refine kZ [(7,_,_)] ⟨rfl,pz trivial⟩ (h5) ?_|apply ae<;>intro h)
 (first|refine cY pzA [] [true,true,true,false,true,true,true,false,true] ?_|refine cZ pzA [] [true,true,true,false,true,true,true,false,true] ?_)
 rfl
end
end
theorem afb (hc:ax s=(gH,t))(h: ¬so<=4):ab G 585 [.ref 0 0 0,.str s] (bP e1.length e2.length e3.length e4.length so pol trm e1 e2 e3 e4 k1 k2 k3 k4 []) ⟨pnV (.ifc 138 (.agg [.int .i64 2])),rP e1.length e2.length e3.length e4.length so pol trm (.vec 2 e1) (.vec 2 e2) (.vec 2 e3) (.vec 3 e4) k1 k2 k3 k4 []⟩:=by
 unfold bP rP;have h1:=az s (by omega)
 rw[hc] at h1;dsimp only at h1;unfold gH at*;have h2:True->ab G 586 [.bool (decide ((4:Int)>=so))] [] (pF 2):=λ_=>by rw[An (show¬(4:Int)>=so from h)];exact aM false
 refine gvC (F:=gj) ?_
 repeat' ((conv=>whnf);first|refine aU (by decide) ?_|refine bl ?_|refine ay ?_|apply ae<;>intro h)
 (conv=>whnf)
 refine CallG.stop ?_;refine aE 586 (h2 trivial) (λQ hr hg=>?_)
 refine kV hg ?_;refine bn pzA [] iC ?_;rfl
section
variable (hc:ax s=(gH,t))(h:so<=4)
include hc h
theorem Zq (ho: ¬bv t=true):ab G 585 [.ref 0 0 0,.str s] (bP e1.length e2.length e3.length e4.length so pol trm e1 e2 e3 e4 k1 k2 k3 k4 []) ⟨pnV (.ifc 138 (.agg [.int .i64 2])),rP e1.length e2.length e3.length e4.length so pol trm (.vec 2 e1) (.vec 2 e2) (.vec 2 e3) (.vec 3 e4) k1 k2 k3 k4 []⟩:=by
 unfold bP rP;have h1:=az s (by omega)
 rw[hc] at h1;dsimp only at h1
 have ht:t.length<4294967281:=by
  have:=congrArg (λp=>p.2.length) hc
  have h2:=ba s;simp only at this;omega
 unfold gH at*;have h2:ab G 586 [.bool (decide ((4:Int)>=so))] [] ⟨.tup [],[]⟩:=by rw[Al (show (4:Int)>=so from h)];exact aM true
 have h3:=λ(_:True)=>aZ t ht
 rw[Ac ho] at h3;refine gvC (F:=gj) ?_
 repeat' ((conv=>whnf);first|refine aU (by decide) ?_|refine bl ?_|refine ay ?_|apply ae<;>intro h)
 (conv=>whnf)
 refine CallG.stop ?_;refine aE 597 (h3 trivial) (λQ hr hg=>?_)
 refine kV hg ?_;refine bn pzA [] iC ?_;rfl
theorem ZE (ho:bv t=true)(hk:64<=k4.length):ab G 585 [.ref 0 0 0,.str s] (bP e1.length e2.length e3.length e4.length so pol trm e1 e2 e3 e4 k1 k2 k3 k4 []) ⟨pnV (.ifc 138 (.agg [.int .i64 4])),rP e1.length e2.length e3.length e4.length 4 pol trm (.vec 2 e1) (.vec 2 e2) (.vec 2 e3) (.vec 3 e4) k1 k2 k3 k4 []⟩:=by
 unfold bP rP;have h1:=az s (by omega)
 rw[hc] at h1;dsimp only at h1
 have ht:t.length<4294967281:=by
  have:=congrArg (λp=>p.2.length) hc
  have h2:=ba s;simp only at this;omega
 unfold gH at*;have h2:ab G 586 [.bool (decide ((4:Int)>=so))] [] ⟨.tup [],[]⟩:=by rw[Al (show (4:Int)>=so from h)];exact aM true
 have h3:=aZ t ht;rw[Ad ho] at h3;have h4:=λ(_:True)=>bw 4
 refine gvC (F:=gj) ?_
 repeat' ((conv=>whnf);first|refine aU (by decide) ?_|refine bl ?_|refine ay ?_|apply ae<;>intro h)
 (conv=>whnf)
 refine CallG.stop ?_;refine aE 590 (h4 trivial) (λQ hr hg=>?_)
 refine kV hg ?_;refine bn pzA [] iC ?_;rfl
section
variable (ho:bv t=true)(hk:k4.length<64)
include ho hk
theorem Zw (hn:cq k4 t≠0):ab G 585 [.ref 0 0 0,.str s] (bP e1.length e2.length e3.length e4.length so pol trm e1 e2 e3 e4 k1 k2 k3 k4 []) ⟨pnV (.ifc 138 (.agg [.int .i64 (cq k4 t)])),rP e1.length e2.length e3.length e4.length 4 pol trm (.vec 2 e1) (.vec 2 e2) (.vec 2 e3) (.vec 3 e4) k1 k2 k3 k4 []⟩:=by
 unfold bP rP;have h1:=az s (by omega)
 rw[hc] at h1;dsimp only at h1
 have ht:t.length<4294967281:=by
  have:=congrArg (λp=>p.2.length) hc
  have h2:=ba s;simp only at this;omega
 unfold gH at*;have h2:ab G 586 [.bool (decide ((4:Int)>=so))] [] ⟨.tup [],[]⟩:=by rw[Al (show (4:Int)>=so from h)];exact aM true
 have h3:=aZ t ht;rw[Ad ho] at h3;have h4:=λ(_:True)=>bw (cq k4 t)
 rw[Ac hn] at h4;have h5:=dj k4 t (by omega) (by omega)
 have hl:((k4.map am).length:Int)=k4.length:=by simp
 refine gvC (F:=gj) ?_
 repeat' ((conv=>whnf);first|refine aU (by decide) ?_|refine bl ?_|refine ay ?_|refine kZ [(8,_,_)] ⟨rfl,pz trivial⟩ (h5) ?_|apply ae<;>intro h)
 (conv=>whnf)
 refine CallG.stop ?_;refine aE 590 (h4 trivial) (λQ hr hg=>?_)
 refine kV hg ?_;refine bn pzA [] iC ?_;rfl
theorem ae7 (hn:cq k4 t=0):ab G 585 [.ref 0 0 0,.str s] (bP e1.length e2.length e3.length e4.length so pol trm e1 e2 e3 e4 k1 k2 k3 k4 []) ⟨.bool true,mkR [(true,.cells [.vs 1 0 e1.length,.vs 2 0 e2.length,.vs 3 0 e3.length,.vs 4 0 (e4.length+1),.vs 5 0 k1.length,.vs 6 0 k2.length,.vs 7 0 k3.length,.vs 8 0 (k4.length+1),.int .i64 4,.bool true,.bool trm]),(true,.vec 2 e1),(true,.vec 2 e2),(true,.vec 2 e3),(false,.vec 3 (e4++[[.str t,.con (.slice none 0 0),.int .i64 0]])),(true,.vec 1 (k1.map am)),(true,.vec 1 (k2.map am)),(true,.vec 1 (k3.map am)),(false,.vec 1 (k4.map am++[[.str t]]))]⟩:=by
 unfold bP;have h1:=az s (by omega)
 rw[hc] at h1;dsimp only at h1
 have ht:t.length<4294967281:=by
  have:=congrArg (λp=>p.2.length) hc
  have h2:=ba s;simp only at this;omega
 unfold gH at*;have h2:ab G 586 [.bool (decide ((4:Int)>=so))] [] ⟨.tup [],[]⟩:=by rw[Al (show (4:Int)>=so from h)];exact aM true
 have h3:=aZ t ht;rw[Ad ho] at h3;have h4:=bw 0;rw[Ad rfl] at h4;have h5:=dj k4 t (by omega) (by omega)
 rw[hn] at h5;have hl:((k4.map am).length:Int)=k4.length:=by simp
 refine gvC (F:=gj) ?_
 repeat' ((conv=>whnf);first|refine aU (by decide) ?_|refine bl ?_|refine ay ?_|refine kZ [(8,_,_)] ⟨rfl,pz trivial⟩ (h5) ?_|apply ae<;>intro h)
 (first|refine cY pzA [] [true,true,true,true,false,true,true,true,false] ?_|refine cZ pzA [] [true,true,true,true,false,true,true,true,false] ?_)
 rfl
end
end
end
theorem oe (s:CF)(h:s.length<2^32): ∃(k lo hi:Int)(l:Do),ab G 516 [.str s] [] ⟨.tup [.agg [.int .i64 k,.int .i64 lo,.int .i64 hi,.sl 4 (l.map Rx.enc)],.int .i64 (if (fx s).isSome then 0 else 2)],[]⟩:=by
 have h1:ab G 516 [.str s] [] (o8 (fx s)):=by
  rw[<-Ow];show (if s.length<2^32 then some (o8 (og s)) else none)=_
  rw[Ad h]
 cases hq:fx s with
 |none=>
  rw[hq] at h1;refine ⟨0,0,0,[],?_⟩;have e:=bi 0 0 0 [];have h2:ab G 516 [.str s] [] ⟨.tup [.agg rx0.enc,.int .i64 2],[]⟩:=h1;unfold rx0 at h2;rw[e] at h2;exact h2
 |some x=>
  rw[hq] at h1;obtain ⟨k,lo,hi,l⟩:=x;refine ⟨k,lo,hi,l,?_⟩;have h2:ab G 516 [.str s] [] ⟨.tup [.agg (Rx.mk k lo hi l).enc,.int .i64 0],[]⟩:=h1;rw[bi] at h2;exact h2
theorem py {w:CF}(h:bH w=0):w≠cR/\w≠cQ/\w≠cP/\w≠gH:=by
 unfold bH at h;refine ⟨λe=>?_,λe=>?_,λe=>?_,λe=>?_⟩<;>subst e<;>revert h<;>decide
def fQ (s:CF):Option (Bool×CF):=if (ax s).1=jC then some (true,(ax s).2) else if (ax s).1=oa then some (false,(ax s).2) else none
def xV:Option (Bool×CF)->Ret
 |some (b,t)=>⟨.tup [.bool b,.str t],[]⟩
 |none=>pF 2
theorem gW (s:CF)(hs:s.length<2^40):ab G 588 [.str s] [] (xV (fQ s)):=by
 have h:=ET s hs;unfold fQ;split at h
 ·rename_i c;rw[Ad c];exact h
 ·rename_i c
  rw[Ac c];split at h
  ·rename_i d;rw[Ad d];exact h
  ·rename_i d;rw[Ac d];exact h
theorem pc {s:CF}{b:Bool}{t:CF}(h:fQ s=some (b,t)):t.length<=s.length:=by
 have:=(ba s).2;unfold fQ at h;split at h
 ·obtain ⟨_,rfl⟩:=Prod.mk.inj (Ai h);exact this
 ·split at h
  ·obtain ⟨_,rfl⟩:=Prod.mk.inj (Ai h);exact this
  ·cases h
theorem ack (e1 e2 e3 e4:CS)(p1:aa e1=true)(p2:aa e2=true)(p3:aa e3=true)(p4:aa e4=true)(k1 k2 k3 k4:C5)(so:Int)(pol trm:Bool)(s:CF)(hs:s.length<4294967281)(so' e:Int)(h:ab G 585 [.ref 0 0 0,.str s] (bP e1.length e2.length e3.length e4.length so pol trm e1 e2 e3 e4 k1 k2 k3 k4 []) ⟨pnV (.ifc 138 (.agg [.int .i64 e])),rP e1.length e2.length e3.length e4.length so' pol trm (.vec 2 e1) (.vec 2 e2) (.vec 2 e3) (.vec 3 e4) k1 k2 k3 k4 []⟩):ab G 541 [.ref 0 0 0,.str s] (bP e1.length e2.length e3.length e4.length so pol trm e1 e2 e3 e4 k1 k2 k3 k4 []) ⟨pnV (.ifc 138 (.agg [.int .i64 e])),rP e1.length e2.length e3.length e4.length so' pol trm (.vec 2 e1) (.vec 2 e2) (.vec 2 e3) (.vec 3 e4) k1 k2 k3 k4 []⟩:=by
 unfold bP rP;replace h:=λ(_:True)=>h
 refine gvB (F:=jx) ?_
 (conv=>whnf)
 refine CallG.stop ?_;refine aE 585 (h trivial) (λQ hr hg=>?_)
 refine kP pzA [] lw trivial hg ?_ (hE:=by rw[hr];kernel_rfl)
 refine bn pzA [] iC ?_;rfl
section
variable (e1 e2 e3 e4:CS)(p1:aa e1=true)(p2:aa e2=true)(p3:aa e3=true)(p4:aa e4=true)(k1 k2 k3 k4:C5)(so:Int)(pol trm:Bool)(l1:e1.length<2^30)(l2:e2.length<2^30)(l3:e3.length<2^30)(l4:e4.length<2^30)(q1:k1.length<2^30)(q2:k2.length<2^30)(q3:k3.length<2^30)(q4:k4.length<2^30)(s t:CF)
include p1 p2 p3 p4 l1 l2 l3 l4 q1 q2 q3 q4
theorem acp (s:CF)(hs:s.length<4294967281)(hq:bH (ax s).1=0)(n1:so≠1)(n2:so≠2)(n3:so≠3):ab G 541 [.ref 0 0 0,.str s] (bP e1.length e2.length e3.length e4.length so pol trm e1 e2 e3 e4 k1 k2 k3 k4 []) ⟨pnV (.ifc 138 (.agg [.int .i64 2])),rP e1.length e2.length e3.length e4.length so pol trm (.vec 2 e1) (.vec 2 e2) (.vec 2 e3) (.vec 3 e4) k1 k2 k3 k4 []⟩:=by
 unfold bP rP;obtain ⟨w1,w2,w3,w4⟩:=py hq;have h0:=agM e1 e2 e3 e4 p1 p2 p3 p4 k1 k2 k3 k4 so pol trm l1 l2 l3 l4 q1 q2 q3 q4 s (ax s).1 (ax s).2 hs rfl w1 w2 w3 w4;have h2:=λ(_:True)=>aM false
 have n1': ¬so=1:=n1;have n2': ¬so=2:=n2;have n3': ¬so=3:=n3;refine gvB (F:=jx) ?_
 (conv=>whnf)
 refine kP pzA [] lw trivial h0 ?_
 repeat' ((conv=>whnf);first|refine jf n1' ?_|refine jf n2' ?_|refine jf n3' ?_|refine ay ?_|apply ae<;>intro h)
 (conv=>whnf)
 refine CallG.stop ?_;refine aE 586 (h2 trivial) (λQ hr hg=>?_)
 refine kV hg ?_;refine bn pzA [] iC ?_;rfl
section
variable (hs:s.length<4294967281)
include hs
theorem aco (hc:ax s=(cR,t))(h:so<=1)(ho:bv t=true)(hk:k1.length<64)(hn:cq k1 t=0):ab G 541 [.ref 0 0 0,.str s] (bP e1.length e2.length e3.length e4.length so pol trm e1 e2 e3 e4 k1 k2 k3 k4 []) ⟨.tup [],mkR [(true,.cells [.vs 1 0 (e1.length+1),.vs 2 0 e2.length,.vs 3 0 e3.length,.vs 4 0 e4.length,.vs 5 0 (k1.length+1),.vs 6 0 k2.length,.vs 7 0 k3.length,.vs 8 0 k4.length,.int .i64 1,.bool pol,.bool trm]),(false,.vec 2 (e1++[[.str t,.con (.slice none 0 0)]])),(true,.vec 2 e2),(true,.vec 2 e3),(true,.vec 3 e4),(false,.vec 1 (k1.map am++[[.str t]])),(true,.vec 1 (k2.map am)),(true,.vec 1 (k3.map am)),(true,.vec 1 (k4.map am))]⟩:=by
 unfold bP;have h0:=afa e1 e2 e3 e4 p1 p2 p3 p4 k1 k2 k3 k4 so pol trm l1 l2 l3 l4 q1 q2 q3 q4 s t hs hc h ho hk hn;refine gvB (F:=jx) ?_
 (conv=>whnf)
 refine kP pzA [] lw trivial h0 ?_
 repeat' (first|refine aQ ?_|apply ae<;>intro h)
 (first|refine cY pzA [] [true,false,true,true,true,false,true,true,true] ?_|refine cZ pzA [] [true,false,true,true,true,false,true,true,true] ?_)
 rfl
theorem acn (hc:ax s=(cQ,t))(h:so<=2)(ho:bv t=true)(hk:k2.length<64)(hn:cq k2 t=0):ab G 541 [.ref 0 0 0,.str s] (bP e1.length e2.length e3.length e4.length so pol trm e1 e2 e3 e4 k1 k2 k3 k4 []) ⟨.tup [],mkR [(true,.cells [.vs 1 0 e1.length,.vs 2 0 (e2.length+1),.vs 3 0 e3.length,.vs 4 0 e4.length,.vs 5 0 k1.length,.vs 6 0 (k2.length+1),.vs 7 0 k3.length,.vs 8 0 k4.length,.int .i64 2,.bool pol,.bool trm]),(true,.vec 2 e1),(false,.vec 2 (e2++[[.str t,.con (.slice none 0 0)]])),(true,.vec 2 e3),(true,.vec 3 e4),(true,.vec 1 (k1.map am)),(false,.vec 1 (k2.map am++[[.str t]])),(true,.vec 1 (k3.map am)),(true,.vec 1 (k4.map am))]⟩:=by
 unfold bP;have h0:=ae9 e1 e2 e3 e4 p1 p2 p3 p4 k1 k2 k3 k4 so pol trm l1 l2 l3 l4 q1 q2 q3 q4 s t hs hc h ho hk hn;refine gvB (F:=jx) ?_
 (conv=>whnf)
 refine kP pzA [] lw trivial h0 ?_
 repeat' (first|refine aQ ?_|apply ae<;>intro h)
 (first|refine cY pzA [] [true,true,false,true,true,true,false,true,true] ?_|refine cZ pzA [] [true,true,false,true,true,true,false,true,true] ?_)
 rfl
theorem acm (hc:ax s=(cP,t))(h:so<=3)(ho:bv t=true)(hk:k3.length<64)(hn:cq k3 t=0):ab G 541 [.ref 0 0 0,.str s] (bP e1.length e2.length e3.length e4.length so pol trm e1 e2 e3 e4 k1 k2 k3 k4 []) ⟨.tup [],mkR [(true,.cells [.vs 1 0 e1.length,.vs 2 0 e2.length,.vs 3 0 (e3.length+1),.vs 4 0 e4.length,.vs 5 0 k1.length,.vs 6 0 k2.length,.vs 7 0 (k3.length+1),.vs 8 0 k4.length,.int .i64 3,.bool pol,.bool trm]),(true,.vec 2 e1),(true,.vec 2 e2),(false,.vec 2 (e3++[[.str t,.con (.slice none 0 0)]])),(true,.vec 3 e4),(true,.vec 1 (k1.map am)),(true,.vec 1 (k2.map am)),(false,.vec 1 (k3.map am++[[.str t]])),(true,.vec 1 (k4.map am))]⟩:=by
 unfold bP;have h0:=ae8 e1 e2 e3 e4 p1 p2 p3 p4 k1 k2 k3 k4 so pol trm l1 l2 l3 l4 q1 q2 q3 q4 s t hs hc h ho hk hn;refine gvB (F:=jx) ?_
 (conv=>whnf)
 refine kP pzA [] lw trivial h0 ?_
 repeat' (first|refine aQ ?_|apply ae<;>intro h)
 (first|refine cY pzA [] [true,true,true,false,true,true,true,false,true] ?_|refine cZ pzA [] [true,true,true,false,true,true,true,false,true] ?_)
 rfl
theorem acl (hc:ax s=(gH,t))(h:so<=4)(ho:bv t=true)(hk:k4.length<64)(hn:cq k4 t=0):ab G 541 [.ref 0 0 0,.str s] (bP e1.length e2.length e3.length e4.length so pol trm e1 e2 e3 e4 k1 k2 k3 k4 []) ⟨.tup [],mkR [(true,.cells [.vs 1 0 e1.length,.vs 2 0 e2.length,.vs 3 0 e3.length,.vs 4 0 (e4.length+1),.vs 5 0 k1.length,.vs 6 0 k2.length,.vs 7 0 k3.length,.vs 8 0 (k4.length+1),.int .i64 4,.bool true,.bool trm]),(true,.vec 2 e1),(true,.vec 2 e2),(true,.vec 2 e3),(false,.vec 3 (e4++[[.str t,.con (.slice none 0 0),.int .i64 0]])),(true,.vec 1 (k1.map am)),(true,.vec 1 (k2.map am)),(true,.vec 1 (k3.map am)),(false,.vec 1 (k4.map am++[[.str t]]))]⟩:=by
 unfold bP;have h0:=ae7 e1 e2 e3 e4 p1 p2 p3 p4 k1 k2 k3 k4 so pol trm l1 l2 l3 l4 q1 q2 q3 q4 s t hs hc h ho hk hn;refine gvB (F:=jx) ?_
 (conv=>whnf)
 refine kP pzA [] lw trivial h0 ?_
 repeat' (first|refine aQ ?_|apply ae<;>intro h)
 (first|refine cY pzA [] [true,true,true,true,false,true,true,true,false] ?_|refine cZ pzA [] [true,true,true,true,false,true,true,true,false] ?_)
 rfl
end
end
end Go.AM.IR
