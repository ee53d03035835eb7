/- What the functions of this program give, on the abstract machine. -/
import Derived.Test.YtomphmeopjpejaaGreatDoorDataH
set_option linter.unusedVariables false
set_option linter.unusedSimpArgs false
set_option maxHeartbeats 4000000
set_option maxRecDepth 20000
namespace Go.AM.IR
def bP (n1 n2 n3 n4:Nat)(so:Int)(pol trm:Bool)(e1 e2 e3 e4:List (List AV))(k1 k2 k3 k4:List (List UInt8))(x:List Blk):List Blk:=.cells [.vs 1 0 n1,.vs 2 0 n2,.vs 3 0 n3,.vs 4 0 n4,.vs 5 0 k1.length,.vs 6 0 k2.length,.vs 7 0 k3.length,.vs 8 0 k4.length,.int .i64 so,.bool pol,.bool trm]:: .vec 2 e1:: .vec 2 e2:: .vec 2 e3:: .vec 3 e4:: .vec 1 (k1.map ah):: .vec 1 (k2.map ah):: .vec 1 (k3.map ah):: .vec 1 (k4.map ah)::x
def rP (n1 n2 n3 n4:Nat)(so:Int)(pol trm:Bool)(e1 e2 e3 e4:PB)(k1 k2 k3 k4:List (List UInt8))(x:List (Bool×PB)):List (Bool×Blk):=mkR ((true,.cells [.vs 1 0 n1,.vs 2 0 n2,.vs 3 0 n3,.vs 4 0 n4,.vs 5 0 k1.length,.vs 6 0 k2.length,.vs 7 0 k3.length,.vs 8 0 k4.length,.int .i64 so,.bool pol,.bool trm])::(true,e1)::(true,e2)::(true,e3)::(true,e4)::(true,.vec 1 (k1.map ah))::(true,.vec 1 (k2.map ah))::(true,.vec 1 (k3.map ah))::(true,.vec 1 (k4.map ah))::x)
def cn:List UInt8:=[112,114,101,102,105,120,45,108,105,115,116]
def cm:List UInt8:=[112,97,116,104,45,108,105,115,116]
def ck:List UInt8:=[99,111,109,109,117,110,105,116,121,45,108,105,115,116]
def fg:List UInt8:=[112,111,108,105,99,121]
def br (w:List UInt8):Int:=if w=cn then 1 else if w=cm then 2 else if w=ck then 3 else if w=fg then 4 else 0
theorem aW: ∀s:List UInt8,(ag s).1.length<=s.length/\(ag s).2.length<=s.length
 | []=>by simp[ag]
 |c::r=>by
  have ih:=aW r;unfold ag;split
  ·simp
  ·simp only[As];omega
theorem acl (e1 e2 e3 e4:List (List AV))(p1:aa e1=true)(p2:aa e2=true)(p3:aa e3=true)(p4:aa e4=true)(k1 k2 k3 k4:List (List UInt8))(so:Int)(pol trm:Bool)(l1:e1.length<2^30)(l2:e2.length<2^30)(l3:e3.length<2^30)(l4:e4.length<2^30)(q1:k1.length<2^30)(q2:k2.length<2^30)(q3:k3.length<2^30)(q4:k4.length<2^30)(s w t:List UInt8)(hs:s.length<4294967281)(hc:ag s=(w,t))(h1:w≠cn)(h2:w≠cm)(h3:w≠ck)(h4:w≠fg):ab G 585 [.ref 0 0 0,.str s] (bP e1.length e2.length e3.length e4.length so pol trm e1 e2 e3 e4 k1 k2 k3 k4 []) ⟨.bool false,rP e1.length e2.length e3.length e4.length so pol trm (.vec 2 e1) (.vec 2 e2) (.vec 2 e3) (.vec 3 e4) k1 k2 k3 k4 []⟩:=by
 unfold bP rP;have h0:=am s (by omega)
 rw[hc] at h0;dsimp only at h0;unfold cn at h1;unfold cm at h2;unfold ck at h3;unfold fg at h4;refine gvC (F:=fm) ?_
 repeat' ((conv=>whnf);first|refine aQ h1 ?_|refine aQ h2 ?_|refine aQ h3 ?_|refine aQ h4 ?_|refine aq ?_|(refine ae ?_ ?_<;>intro h))
 (first|refine cG pzA [] [true,true,true,true,true,true,true,true,true] ?_|refine cH pzA [] [true,true,true,true,true,true,true,true,true] ?_)
 rfl
theorem aa0 (e1 e2 e3 e4:List (List AV))(p1:aa e1=true)(p2:aa e2=true)(p3:aa e3=true)(p4:aa e4=true)(k1 k2 k3 k4:List (List UInt8))(so:Int)(pol trm:Bool)(l1:e1.length<2^30)(l2:e2.length<2^30)(l3:e3.length<2^30)(l4:e4.length<2^30)(q1:k1.length<2^30)(q2:k2.length<2^30)(q3:k3.length<2^30)(q4:k4.length<2^30)(s t:List UInt8)(hs:s.length<4294967281)(hc:ag s=(cn,t))(h: ¬so<=1):ab G 585 [.ref 0 0 0,.str s] (bP e1.length e2.length e3.length e4.length so pol trm e1 e2 e3 e4 k1 k2 k3 k4 []) ⟨pnV (.ifc 138 (.agg [.int .i64 2])),rP e1.length e2.length e3.length e4.length so pol trm (.vec 2 e1) (.vec 2 e2) (.vec 2 e3) (.vec 3 e4) k1 k2 k3 k4 []⟩:=by
 unfold bP rP;have h1:=am s (by omega)
 rw[hc] at h1;dsimp only at h1;unfold cn at*;have h2:True->ab G 586 [.bool (decide ((1:Int)>=so))] [] (pF 2):=λ_=>by rw[An (show¬(1:Int)>=so from h)];exact aM false
 refine gvC (F:=fm) ?_
 repeat' ((conv=>whnf);first|refine bf ?_|refine aq ?_|(refine ae ?_ ?_<;>intro h))
 (conv=>whnf)
 refine CallG.stop ?_;refine aG 586 (h2 trivial) (λQ hr hg=>?_)
 refine kV hg ?_;refine bl pzA [] [true,true,true,true,true,true,true,true,true] ?_;rfl
theorem SC (e1 e2 e3 e4:List (List AV))(p1:aa e1=true)(p2:aa e2=true)(p3:aa e3=true)(p4:aa e4=true)(k1 k2 k3 k4:List (List UInt8))(so:Int)(pol trm:Bool)(l1:e1.length<2^30)(l2:e2.length<2^30)(l3:e3.length<2^30)(l4:e4.length<2^30)(q1:k1.length<2^30)(q2:k2.length<2^30)(q3:k3.length<2^30)(q4:k4.length<2^30)(s t:List UInt8)(hs:s.length<4294967281)(hc:ag s=(cn,t))(h:so<=1)(ho: ¬bg t=true):ab G 585 [.ref 0 0 0,.str s] (bP e1.length e2.length e3.length e4.length so pol trm e1 e2 e3 e4 k1 k2 k3 k4 []) ⟨pnV (.ifc 138 (.agg [.int .i64 2])),rP e1.length e2.length e3.length e4.length so pol trm (.vec 2 e1) (.vec 2 e2) (.vec 2 e3) (.vec 3 e4) k1 k2 k3 k4 []⟩:=by
 unfold bP rP;have h1:=am s (by omega)
 rw[hc] at h1;dsimp only at h1
 have ht:t.length<4294967281:=by
  have:=congrArg (λp=>p.2.length) hc
  have h2:=aW s;simp only at this;omega
 unfold cn at*;have h2:ab G 586 [.bool (decide ((1:Int)>=so))] [] ⟨.tup [],[]⟩:=by rw[Al (show (1:Int)>=so from h)];exact aM true
 have h3:=λ(_:True)=>aY t ht
 rw[Ac ho] at h3;refine gvC (F:=fm) ?_
 repeat' ((conv=>whnf);first|refine bf ?_|refine aq ?_|(refine ae ?_ ?_<;>intro h))
 (conv=>whnf)
 refine CallG.stop ?_;refine aG 597 (h3 trivial) (λQ hr hg=>?_)
 refine kV hg ?_;refine bl pzA [] [true,true,true,true,true,true,true,true,true] ?_;rfl
theorem SS (e1 e2 e3 e4:List (List AV))(p1:aa e1=true)(p2:aa e2=true)(p3:aa e3=true)(p4:aa e4=true)(k1 k2 k3 k4:List (List UInt8))(so:Int)(pol trm:Bool)(l1:e1.length<2^30)(l2:e2.length<2^30)(l3:e3.length<2^30)(l4:e4.length<2^30)(q1:k1.length<2^30)(q2:k2.length<2^30)(q3:k3.length<2^30)(q4:k4.length<2^30)(s t:List UInt8)(hs:s.length<4294967281)(hc:ag s=(cn,t))(h:so<=1)(ho:bg t=true)(hk:64<=k1.length):ab G 585 [.ref 0 0 0,.str s] (bP e1.length e2.length e3.length e4.length so pol trm e1 e2 e3 e4 k1 k2 k3 k4 []) ⟨pnV (.ifc 138 (.agg [.int .i64 4])),rP e1.length e2.length e3.length e4.length 1 pol trm (.vec 2 e1) (.vec 2 e2) (.vec 2 e3) (.vec 3 e4) k1 k2 k3 k4 []⟩:=by
 unfold bP rP;have h1:=am s (by omega)
 rw[hc] at h1;dsimp only at h1
 have ht:t.length<4294967281:=by
  have:=congrArg (λp=>p.2.length) hc
  have h2:=aW s;simp only at this;omega
 unfold cn at*;have h2:ab G 586 [.bool (decide ((1:Int)>=so))] [] ⟨.tup [],[]⟩:=by rw[Al (show (1:Int)>=so from h)];exact aM true
 have h3:=aY t ht;rw[Ad ho] at h3;have h4:=λ(_:True)=>bp 4
 refine gvC (F:=fm) ?_
 repeat' ((conv=>whnf);first|refine bf ?_|refine aq ?_|(refine ae ?_ ?_<;>intro h))
 (conv=>whnf)
 refine CallG.stop ?_;refine aG 590 (h4 trivial) (λQ hr hg=>?_)
 refine kV hg ?_;refine bl pzA [] [true,true,true,true,true,true,true,true,true] ?_;rfl
theorem SI (e1 e2 e3 e4:List (List AV))(p1:aa e1=true)(p2:aa e2=true)(p3:aa e3=true)(p4:aa e4=true)(k1 k2 k3 k4:List (List UInt8))(so:Int)(pol trm:Bool)(l1:e1.length<2^30)(l2:e2.length<2^30)(l3:e3.length<2^30)(l4:e4.length<2^30)(q1:k1.length<2^30)(q2:k2.length<2^30)(q3:k3.length<2^30)(q4:k4.length<2^30)(s t:List UInt8)(hs:s.length<4294967281)(hc:ag s=(cn,t))(h:so<=1)(ho:bg t=true)(hk:k1.length<64)(hn:bq k1 t≠0):ab G 585 [.ref 0 0 0,.str s] (bP e1.length e2.length e3.length e4.length so pol trm e1 e2 e3 e4 k1 k2 k3 k4 []) ⟨pnV (.ifc 138 (.agg [.int .i64 (bq k1 t)])),rP e1.length e2.length e3.length e4.length 1 pol trm (.vec 2 e1) (.vec 2 e2) (.vec 2 e3) (.vec 3 e4) k1 k2 k3 k4 []⟩:=by
 unfold bP rP;have h1:=am s (by omega)
 rw[hc] at h1;dsimp only at h1
 have ht:t.length<4294967281:=by
  have:=congrArg (λp=>p.2.length) hc
  have h2:=aW s;simp only at this;omega
 unfold cn at*;have h2:ab G 586 [.bool (decide ((1:Int)>=so))] [] ⟨.tup [],[]⟩:=by rw[Al (show (1:Int)>=so from h)];exact aM true
 have h3:=aY t ht;rw[Ad ho] at h3;have h4:=λ(_:True)=>bp (bq k1 t)
 rw[Ac hn] at h4;have h5:=cJ k1 t (by omega) (by omega)
 have hl:((k1.map ah).length:Int)=k1.length:=by simp
 refine gvC (F:=fm) ?_
 repeat' ((conv=>whnf);first|refine bf ?_|refine aq ?_|refine kZ [(5,_,_)] ⟨rfl,pz trivial⟩ (h5) ?_|(refine ae ?_ ?_<;>intro h))
 (conv=>whnf)
 refine CallG.stop ?_;refine aG 590 (h4 trivial) (λQ hr hg=>?_)
 refine kV hg ?_;refine bl pzA [] [true,true,true,true,true,true,true,true,true] ?_;rfl
theorem aaW (e1 e2 e3 e4:List (List AV))(p1:aa e1=true)(p2:aa e2=true)(p3:aa e3=true)(p4:aa e4=true)(k1 k2 k3 k4:List (List UInt8))(so:Int)(pol trm:Bool)(l1:e1.length<2^30)(l2:e2.length<2^30)(l3:e3.length<2^30)(l4:e4.length<2^30)(q1:k1.length<2^30)(q2:k2.length<2^30)(q3:k3.length<2^30)(q4:k4.length<2^30)(s t:List UInt8)(hs:s.length<4294967281)(hc:ag s=(cn,t))(h:so<=1)(ho:bg t=true)(hk:k1.length<64)(hn:bq k1 t=0):ab G 585 [.ref 0 0 0,.str s] (bP e1.length e2.length e3.length e4.length so pol trm e1 e2 e3 e4 k1 k2 k3 k4 []) ⟨.bool true,mkR [(true,.cells [.vs 1 0 (e1.length+1),.vs 2 0 e2.length,.vs 3 0 e3.length,.vs 4 0 e4.length,.vs 5 0 (k1.length+1),.vs 6 0 k2.length,.vs 7 0 k3.length,.vs 8 0 k4.length,.int .i64 1,.bool pol,.bool trm]),(false,.vec 2 (e1++[[.str t,.con (.slice none 0 0)]])),(true,.vec 2 e2),(true,.vec 2 e3),(true,.vec 3 e4),(false,.vec 1 (k1.map ah++[[.str t]])),(true,.vec 1 (k2.map ah)),(true,.vec 1 (k3.map ah)),(true,.vec 1 (k4.map ah))]⟩:=by
 unfold bP;have h1:=am s (by omega)
 rw[hc] at h1;dsimp only at h1
 have ht:t.length<4294967281:=by
  have:=congrArg (λp=>p.2.length) hc
  have h2:=aW s;simp only at this;omega
 unfold cn at*;have h2:ab G 586 [.bool (decide ((1:Int)>=so))] [] ⟨.tup [],[]⟩:=by rw[Al (show (1:Int)>=so from h)];exact aM true
 have h3:=aY t ht;rw[Ad ho] at h3;have h4:=bp 0;rw[Ad rfl] at h4;have h5:=cJ k1 t (by omega) (by omega)
 rw[hn] at h5;have hl:((k1.map ah).length:Int)=k1.length:=by simp
 refine gvC (F:=fm) ?_
 repeat' ((conv=>whnf);first|refine bf ?_|refine aq ?_|refine kZ [(5,_,_)] ⟨rfl,pz trivial⟩ (h5) ?_|(refine ae ?_ ?_<;>intro h))
 (first|refine cG pzA [] [true,false,true,true,true,false,true,true,true] ?_|refine cH pzA [] [true,false,true,true,true,false,true,true,true] ?_)
 rfl
theorem aaZ (e1 e2 e3 e4:List (List AV))(p1:aa e1=true)(p2:aa e2=true)(p3:aa e3=true)(p4:aa e4=true)(k1 k2 k3 k4:List (List UInt8))(so:Int)(pol trm:Bool)(l1:e1.length<2^30)(l2:e2.length<2^30)(l3:e3.length<2^30)(l4:e4.length<2^30)(q1:k1.length<2^30)(q2:k2.length<2^30)(q3:k3.length<2^30)(q4:k4.length<2^30)(s t:List UInt8)(hs:s.length<4294967281)(hc:ag s=(cm,t))(h: ¬so<=2):ab G 585 [.ref 0 0 0,.str s] (bP e1.length e2.length e3.length e4.length so pol trm e1 e2 e3 e4 k1 k2 k3 k4 []) ⟨pnV (.ifc 138 (.agg [.int .i64 2])),rP e1.length e2.length e3.length e4.length so pol trm (.vec 2 e1) (.vec 2 e2) (.vec 2 e3) (.vec 3 e4) k1 k2 k3 k4 []⟩:=by
 unfold bP rP;have h1:=am s (by omega)
 rw[hc] at h1;dsimp only at h1;unfold cm at*;have h2:True->ab G 586 [.bool (decide ((2:Int)>=so))] [] (pF 2):=λ_=>by rw[An (show¬(2:Int)>=so from h)];exact aM false
 refine gvC (F:=fm) ?_
 repeat' ((conv=>whnf);first|refine aQ (by decide) ?_|refine bf ?_|refine aq ?_|(refine ae ?_ ?_<;>intro h))
 (conv=>whnf)
 refine CallG.stop ?_;refine aG 586 (h2 trivial) (λQ hr hg=>?_)
 refine kV hg ?_;refine bl pzA [] [true,true,true,true,true,true,true,true,true] ?_;rfl
theorem SB (e1 e2 e3 e4:List (List AV))(p1:aa e1=true)(p2:aa e2=true)(p3:aa e3=true)(p4:aa e4=true)(k1 k2 k3 k4:List (List UInt8))(so:Int)(pol trm:Bool)(l1:e1.length<2^30)(l2:e2.length<2^30)(l3:e3.length<2^30)(l4:e4.length<2^30)(q1:k1.length<2^30)(q2:k2.length<2^30)(q3:k3.length<2^30)(q4:k4.length<2^30)(s t:List UInt8)(hs:s.length<4294967281)(hc:ag s=(cm,t))(h:so<=2)(ho: ¬bg t=true):ab G 585 [.ref 0 0 0,.str s] (bP e1.length e2.length e3.length e4.length so pol trm e1 e2 e3 e4 k1 k2 k3 k4 []) ⟨pnV (.ifc 138 (.agg [.int .i64 2])),rP e1.length e2.length e3.length e4.length so pol trm (.vec 2 e1) (.vec 2 e2) (.vec 2 e3) (.vec 3 e4) k1 k2 k3 k4 []⟩:=by
 unfold bP rP;have h1:=am s (by omega)
 rw[hc] at h1;dsimp only at h1
 have ht:t.length<4294967281:=by
  have:=congrArg (λp=>p.2.length) hc
  have h2:=aW s;simp only at this;omega
 unfold cm at*;have h2:ab G 586 [.bool (decide ((2:Int)>=so))] [] ⟨.tup [],[]⟩:=by rw[Al (show (2:Int)>=so from h)];exact aM true
 have h3:=λ(_:True)=>aY t ht
 rw[Ac ho] at h3;refine gvC (F:=fm) ?_
 repeat' ((conv=>whnf);first|refine aQ (by decide) ?_|refine bf ?_|refine aq ?_|(refine ae ?_ ?_<;>intro h))
 (conv=>whnf)
 refine CallG.stop ?_;refine aG 597 (h3 trivial) (λQ hr hg=>?_)
 refine kV hg ?_;refine bl pzA [] [true,true,true,true,true,true,true,true,true] ?_;rfl
theorem SR (e1 e2 e3 e4:List (List AV))(p1:aa e1=true)(p2:aa e2=true)(p3:aa e3=true)(p4:aa e4=true)(k1 k2 k3 k4:List (List UInt8))(so:Int)(pol trm:Bool)(l1:e1.length<2^30)(l2:e2.length<2^30)(l3:e3.length<2^30)(l4:e4.length<2^30)(q1:k1.length<2^30)(q2:k2.length<2^30)(q3:k3.length<2^30)(q4:k4.length<2^30)(s t:List UInt8)(hs:s.length<4294967281)(hc:ag s=(cm,t))(h:so<=2)(ho:bg t=true)(hk:64<=k2.length):ab G 585 [.ref 0 0 0,.str s] (bP e1.length e2.length e3.length e4.length so pol trm e1 e2 e3 e4 k1 k2 k3 k4 []) ⟨pnV (.ifc 138 (.agg [.int .i64 4])),rP e1.length e2.length e3.length e4.length 2 pol trm (.vec 2 e1) (.vec 2 e2) (.vec 2 e3) (.vec 3 e4) k1 k2 k3 k4 []⟩:=by
 unfold bP rP;have h1:=am s (by omega)
 rw[hc] at h1;dsimp only at h1
 have ht:t.length<4294967281:=by
  have:=congrArg (λp=>p.2.length) hc
  have h2:=aW s;simp only at this;omega
 unfold cm at*;have h2:ab G 586 [.bool (decide ((2:Int)>=so))] [] ⟨.tup [],[]⟩:=by rw[Al (show (2:Int)>=so from h)];exact aM true
 have h3:=aY t ht;rw[Ad ho] at h3;have h4:=λ(_:True)=>bp 4
 refine gvC (F:=fm) ?_
 repeat' ((conv=>whnf);first|refine aQ (by decide) ?_|refine bf ?_|refine aq ?_|(refine ae ?_ ?_<;>intro h))
 (conv=>whnf)
 refine CallG.stop ?_;refine aG 590 (h4 trivial) (λQ hr hg=>?_)
 refine kV hg ?_;refine bl pzA [] [true,true,true,true,true,true,true,true,true] ?_;rfl
theorem SG (e1 e2 e3 e4:List (List AV))(p1:aa e1=true)(p2:aa e2=true)(p3:aa e3=true)(p4:aa e4=true)(k1 k2 k3 k4:List (List UInt8))(so:Int)(pol trm:Bool)(l1:e1.length<2^30)(l2:e2.length<2^30)(l3:e3.length<2^30)(l4:e4.length<2^30)(q1:k1.length<2^30)(q2:k2.length<2^30)(q3:k3.length<2^30)(q4:k4.length<2^30)(s t:List UInt8)(hs:s.length<4294967281)(hc:ag s=(cm,t))(h:so<=2)(ho:bg t=true)(hk:k2.length<64)(hn:bq k2 t≠0):ab G 585 [.ref 0 0 0,.str s] (bP e1.length e2.length e3.length e4.length so pol trm e1 e2 e3 e4 k1 k2 k3 k4 []) ⟨pnV (.ifc 138 (.agg [.int .i64 (bq k2 t)])),rP e1.length e2.length e3.length e4.length 2 pol trm (.vec 2 e1) (.vec 2 e2) (.vec 2 e3) (.vec 3 e4) k1 k2 k3 k4 []⟩:=by
 unfold bP rP;have h1:=am s (by omega)
 rw[hc] at h1;dsimp only at h1
 have ht:t.length<4294967281:=by
  have:=congrArg (λp=>p.2.length) hc
  have h2:=aW s;simp only at this;omega
 unfold cm at*;have h2:ab G 586 [.bool (decide ((2:Int)>=so))] [] ⟨.tup [],[]⟩:=by rw[Al (show (2:Int)>=so from h)];exact aM true
 have h3:=aY t ht;rw[Ad ho] at h3;have h4:=λ(_:True)=>bp (bq k2 t)
 rw[Ac hn] at h4;have h5:=cJ k2 t (by omega) (by omega)
 have hl:((k2.map ah).length:Int)=k2.length:=by simp
 refine gvC (F:=fm) ?_
 repeat' ((conv=>whnf);first|refine aQ (by decide) ?_|refine bf ?_|refine aq ?_|refine kZ [(6,_,_)] ⟨rfl,pz trivial⟩ (h5) ?_|(refine ae ?_ ?_<;>intro h))
 (conv=>whnf)
 refine CallG.stop ?_;refine aG 590 (h4 trivial) (λQ hr hg=>?_)
 refine kV hg ?_;refine bl pzA [] [true,true,true,true,true,true,true,true,true] ?_;rfl
theorem aaV (e1 e2 e3 e4:List (List AV))(p1:aa e1=true)(p2:aa e2=true)(p3:aa e3=true)(p4:aa e4=true)(k1 k2 k3 k4:List (List UInt8))(so:Int)(pol trm:Bool)(l1:e1.length<2^30)(l2:e2.length<2^30)(l3:e3.length<2^30)(l4:e4.length<2^30)(q1:k1.length<2^30)(q2:k2.length<2^30)(q3:k3.length<2^30)(q4:k4.length<2^30)(s t:List UInt8)(hs:s.length<4294967281)(hc:ag s=(cm,t))(h:so<=2)(ho:bg t=true)(hk:k2.length<64)(hn:bq k2 t=0):ab G 585 [.ref 0 0 0,.str s] (bP e1.length e2.length e3.length e4.length so pol trm e1 e2 e3 e4 k1 k2 k3 k4 []) ⟨.bool true,mkR [(true,.cells [.vs 1 0 e1.length,.vs 2 0 (e2.length+1),.vs 3 0 e3.length,.vs 4 0 e4.length,.vs 5 0 k1.length,.vs 6 0 (k2.length+1),.vs 7 0 k3.length,.vs 8 0 k4.length,.int .i64 2,.bool pol,.bool trm]),(true,.vec 2 e1),(false,.vec 2 (e2++[[.str t,.con (.slice none 0 0)]])),(true,.vec 2 e3),(true,.vec 3 e4),(true,.vec 1 (k1.map ah)),(false,.vec 1 (k2.map ah++[[.str t]])),(true,.vec 1 (k3.map ah)),(true,.vec 1 (k4.map ah))]⟩:=by
 unfold bP;have h1:=am s (by omega)
 rw[hc] at h1;dsimp only at h1
 have ht:t.length<4294967281:=by
  have:=congrArg (λp=>p.2.length) hc
  have h2:=aW s;simp only at this;omega
 unfold cm at*;have h2:ab G 586 [.bool (decide ((2:Int)>=so))] [] ⟨.tup [],[]⟩:=by rw[Al (show (2:Int)>=so from h)];exact aM true
 have h3:=aY t ht;rw[Ad ho] at h3;have h4:=bp 0;rw[Ad rfl] at h4;have h5:=cJ k2 t (by omega) (by omega)
 rw[hn] at h5;have hl:((k2.map ah).length:Int)=k2.length:=by simp
 refine gvC (F:=fm) ?_
 repeat' ((conv=>whnf);first|refine aQ (by decide) ?_|refine bf ?_|refine aq ?_|refine kZ [(6,_,_)] ⟨rfl,pz trivial⟩ (h5) ?_|(refine ae ?_ ?_<;>intro h))
 (first|refine cG pzA [] [true,true,false,true,true,true,false,true,true] ?_|refine cH pzA [] [true,true,false,true,true,true,false,true,true] ?_)
 rfl
theorem aaY (e1 e2 e3 e4:List (List AV))(p1:aa e1=true)(p2:aa e2=true)(p3:aa e3=true)(p4:aa e4=true)(k1 k2 k3 k4:List (List UInt8))(so:Int)(pol trm:Bool)(l1:e1.length<2^30)(l2:e2.length<2^30)(l3:e3.length<2^30)(l4:e4.length<2^30)(q1:k1.length<2^30)(q2:k2.length<2^30)(q3:k3.length<2^30)(q4:k4.length<2^30)(s t:List UInt8)(hs:s.length<4294967281)(hc:ag s=(ck,t))(h: ¬so<=3):ab G 585 [.ref 0 0 0,.str s] (bP e1.length e2.length e3.length e4.length so pol trm e1 e2 e3 e4 k1 k2 k3 k4 []) ⟨pnV (.ifc 138 (.agg [.int .i64 2])),rP e1.length e2.length e3.length e4.length so pol trm (.vec 2 e1) (.vec 2 e2) (.vec 2 e3) (.vec 3 e4) k1 k2 k3 k4 []⟩:=by
 unfold bP rP;have h1:=am s (by omega)
 rw[hc] at h1;dsimp only at h1;unfold ck at*;have h2:True->ab G 586 [.bool (decide ((3:Int)>=so))] [] (pF 2):=λ_=>by rw[An (show¬(3:Int)>=so from h)];exact aM false
 refine gvC (F:=fm) ?_
 repeat' ((conv=>whnf);first|refine aQ (by decide) ?_|refine bf ?_|refine aq ?_|(refine ae ?_ ?_<;>intro h))
 (conv=>whnf)
 refine CallG.stop ?_;refine aG 586 (h2 trivial) (λQ hr hg=>?_)
 refine kV hg ?_;refine bl pzA [] [true,true,true,true,true,true,true,true,true] ?_;rfl
theorem SA (e1 e2 e3 e4:List (List AV))(p1:aa e1=true)(p2:aa e2=true)(p3:aa e3=true)(p4:aa e4=true)(k1 k2 k3 k4:List (List UInt8))(so:Int)(pol trm:Bool)(l1:e1.length<2^30)(l2:e2.length<2^30)(l3:e3.length<2^30)(l4:e4.length<2^30)(q1:k1.length<2^30)(q2:k2.length<2^30)(q3:k3.length<2^30)(q4:k4.length<2^30)(s t:List UInt8)(hs:s.length<4294967281)(hc:ag s=(ck,t))(h:so<=3)(ho: ¬bg t=true):ab G 585 [.ref 0 0 0,.str s] (bP e1.length e2.length e3.length e4.length so pol trm e1 e2 e3 e4 k1 k2 k3 k4 []) ⟨pnV (.ifc 138 (.agg [.int .i64 2])),rP e1.length e2.length e3.length e4.length so pol trm (.vec 2 e1) (.vec 2 e2) (.vec 2 e3) (.vec 3 e4) k1 k2 k3 k4 []⟩:=by
 unfold bP rP;have h1:=am s (by omega)
 rw[hc] at h1;dsimp only at h1
 have ht:t.length<4294967281:=by
  have:=congrArg (λp=>p.2.length) hc
  have h2:=aW s;simp only at this;omega
 unfold ck at*;have h2:ab G 586 [.bool (decide ((3:Int)>=so))] [] ⟨.tup [],[]⟩:=by rw[Al (show (3:Int)>=so from h)];exact aM true
 have h3:=λ(_:True)=>aY t ht
 rw[Ac ho] at h3;refine gvC (F:=fm) ?_
 repeat' ((conv=>whnf);first|refine aQ (by decide) ?_|refine bf ?_|refine aq ?_|(refine ae ?_ ?_<;>intro h))
 (conv=>whnf)
 refine CallG.stop ?_;refine aG 597 (h3 trivial) (λQ hr hg=>?_)
 refine kV hg ?_;refine bl pzA [] [true,true,true,true,true,true,true,true,true] ?_;rfl
theorem SK (e1 e2 e3 e4:List (List AV))(p1:aa e1=true)(p2:aa e2=true)(p3:aa e3=true)(p4:aa e4=true)(k1 k2 k3 k4:List (List UInt8))(so:Int)(pol trm:Bool)(l1:e1.length<2^30)(l2:e2.length<2^30)(l3:e3.length<2^30)(l4:e4.length<2^30)(q1:k1.length<2^30)(q2:k2.length<2^30)(q3:k3.length<2^30)(q4:k4.length<2^30)(s t:List UInt8)(hs:s.length<4294967281)(hc:ag s=(ck,t))(h:so<=3)(ho:bg t=true)(hk:64<=k3.length):ab G 585 [.ref 0 0 0,.str s] (bP e1.length e2.length e3.length e4.length so pol trm e1 e2 e3 e4 k1 k2 k3 k4 []) ⟨pnV (.ifc 138 (.agg [.int .i64 4])),rP e1.length e2.length e3.length e4.length 3 pol trm (.vec 2 e1) (.vec 2 e2) (.vec 2 e3) (.vec 3 e4) k1 k2 k3 k4 []⟩:=by
 unfold bP rP;have h1:=am s (by omega)
 rw[hc] at h1;dsimp only at h1
 have ht:t.length<4294967281:=by
  have:=congrArg (λp=>p.2.length) hc
  have h2:=aW s;simp only at this;omega
 unfold ck at*;have h2:ab G 586 [.bool (decide ((3:Int)>=so))] [] ⟨.tup [],[]⟩:=by rw[Al (show (3:Int)>=so from h)];exact aM true
 have h3:=aY t ht;rw[Ad ho] at h3;have h4:=λ(_:True)=>bp 4
 refine gvC (F:=fm) ?_
 repeat' ((conv=>whnf);first|refine aQ (by decide) ?_|refine bf ?_|refine aq ?_|(refine ae ?_ ?_<;>intro h))
 (conv=>whnf)
 refine CallG.stop ?_;refine aG 590 (h4 trivial) (λQ hr hg=>?_)
 refine kV hg ?_;refine bl pzA [] [true,true,true,true,true,true,true,true,true] ?_;rfl
theorem SE (e1 e2 e3 e4:List (List AV))(p1:aa e1=true)(p2:aa e2=true)(p3:aa e3=true)(p4:aa e4=true)(k1 k2 k3 k4:List (List UInt8))(so:Int)(pol trm:Bool)(l1:e1.length<2^30)(l2:e2.length<2^30)(l3:e3.length<2^30)(l4:e4.length<2^30)(q1:k1.length<2^30)(q2:k2.length<2^30)(q3:k3.length<2^30)(q4:k4.length<2^30)(s t:List UInt8)(hs:s.length<4294967281)(hc:ag s=(ck,t))(h:so<=3)(ho:bg t=true)(hk:k3.length<64)(hn:bq k3 t≠0):ab G 585 [.ref 0 0 0,.str s] (bP e1.length e2.length e3.length e4.length so pol trm e1 e2 e3 e4 k1 k2 k3 k4 []) ⟨pnV (.ifc 138 (.agg [.int .i64 (bq k3 t)])),rP e1.length e2.length e3.length e4.length 3 pol trm (.vec 2 e1) (.vec 2 e2) (.vec 2 e3) (.vec 3 e4) k1 k2 k3 k4 []⟩:=by
 unfold bP rP;have h1:=am s (by omega)
 rw[hc] at h1;dsimp only at h1
 have ht:t.length<4294967281:=by
  have:=congrArg (λp=>p.2.length) hc
  have h2:=aW s;simp only at this;omega
 unfold ck at*;have h2:ab G 586 [.bool (decide ((3:Int)>=so))] [] ⟨.tup [],[]⟩:=by rw[Al (show (3:Int)>=so from h)];exact aM true
 have h3:=aY t ht;rw[Ad ho] at h3;have h4:=λ(_:True)=>bp (bq k3 t)
 rw[Ac hn] at h4;have h5:=cJ k3 t (by omega) (by omega)
 have hl:((k3.map ah).length:Int)=k3.length:=by simp
 refine gvC (F:=fm) ?_
 repeat' ((conv=>whnf);first|refine aQ (by decide) ?_|refine bf ?_|refine aq ?_|refine kZ [(7,_,_)] ⟨rfl,pz trivial⟩ (h5) ?_|(refine ae ?_ ?_<;>intro h))
 (conv=>whnf)
 refine CallG.stop ?_;refine aG 590 (h4 trivial) (λQ hr hg=>?_)
 refine kV hg ?_;refine bl pzA [] [true,true,true,true,true,true,true,true,true] ?_;rfl
theorem aaU (e1 e2 e3 e4:List (List AV))(p1:aa e1=true)(p2:aa e2=true)(p3:aa e3=true)(p4:aa e4=true)(k1 k2 k3 k4:List (List UInt8))(so:Int)(pol trm:Bool)(l1:e1.length<2^30)(l2:e2.length<2^30)(l3:e3.length<2^30)(l4:e4.length<2^30)(q1:k1.length<2^30)(q2:k2.length<2^30)(q3:k3.length<2^30)(q4:k4.length<2^30)(s t:List UInt8)(hs:s.length<4294967281)(hc:ag s=(ck,t))(h:so<=3)(ho:bg t=true)(hk:k3.length<64)(hn:bq k3 t=0):ab G 585 [.ref 0 0 0,.str s] (bP e1.length e2.length e3.length e4.length so pol trm e1 e2 e3 e4 k1 k2 k3 k4 []) ⟨.bool true,mkR [(true,.cells [.vs 1 0 e1.length,.vs 2 0 e2.length,.vs 3 0 (e3.length+1),.vs 4 0 e4.length,.vs 5 0 k1.length,.vs 6 0 k2.length,.vs 7 0 (k3.length+1),.vs 8 0 k4.length,.int .i64 3,.bool pol,.bool trm]),(true,.vec 2 e1),(true,.vec 2 e2),(false,.vec 2 (e3++[[.str t,.con (.slice none 0 0)]])),(true,.vec 3 e4),(true,.vec 1 (k1.map ah)),(true,.vec 1 (k2.map ah)),(false,.vec 1 (k3.map ah++[[.str t]])),(true,.vec 1 (k4.map ah))]⟩:=by
 unfold bP;have h1:=am s (by omega)
 rw[hc] at h1;dsimp only at h1
 have ht:t.length<4294967281:=by
  have:=congrArg (λp=>p.2.length) hc
  have h2:=aW s;simp only at this;omega
 unfold ck at*;have h2:ab G 586 [.bool (decide ((3:Int)>=so))] [] ⟨.tup [],[]⟩:=by rw[Al (show (3:Int)>=so from h)];exact aM true
 have h3:=aY t ht;rw[Ad ho] at h3;have h4:=bp 0;rw[Ad rfl] at h4;have h5:=cJ k3 t (by omega) (by omega)
 rw[hn] at h5;have hl:((k3.map ah).length:Int)=k3.length:=by simp
 refine gvC (F:=fm) ?_
 repeat' ((conv=>whnf);first|refine aQ (by decide) ?_|refine bf ?_|refine aq ?_|refine kZ [(7,_,_)] ⟨rfl,pz trivial⟩ (h5) ?_|(refine ae ?_ ?_<;>intro h))
 (first|refine cG pzA [] [true,true,true,false,true,true,true,false,true] ?_|refine cH pzA [] [true,true,true,false,true,true,true,false,true] ?_)
 rfl
theorem aaX (e1 e2 e3 e4:List (List AV))(p1:aa e1=true)(p2:aa e2=true)(p3:aa e3=true)(p4:aa e4=true)(k1 k2 k3 k4:List (List UInt8))(so:Int)(pol trm:Bool)(l1:e1.length<2^30)(l2:e2.length<2^30)(l3:e3.length<2^30)(l4:e4.length<2^30)(q1:k1.length<2^30)(q2:k2.length<2^30)(q3:k3.length<2^30)(q4:k4.length<2^30)(s t:List UInt8)(hs:s.length<4294967281)(hc:ag s=(fg,t))(h: ¬so<=4):ab G 585 [.ref 0 0 0,.str s] (bP e1.length e2.length e3.length e4.length so pol trm e1 e2 e3 e4 k1 k2 k3 k4 []) ⟨pnV (.ifc 138 (.agg [.int .i64 2])),rP e1.length e2.length e3.length e4.length so pol trm (.vec 2 e1) (.vec 2 e2) (.vec 2 e3) (.vec 3 e4) k1 k2 k3 k4 []⟩:=by
 unfold bP rP;have h1:=am s (by omega)
 rw[hc] at h1;dsimp only at h1;unfold fg at*;have h2:True->ab G 586 [.bool (decide ((4:Int)>=so))] [] (pF 2):=λ_=>by rw[An (show¬(4:Int)>=so from h)];exact aM false
 refine gvC (F:=fm) ?_
 repeat' ((conv=>whnf);first|refine aQ (by decide) ?_|refine bf ?_|refine aq ?_|(refine ae ?_ ?_<;>intro h))
 (conv=>whnf)
 refine CallG.stop ?_;refine aG 586 (h2 trivial) (λQ hr hg=>?_)
 refine kV hg ?_;refine bl pzA [] [true,true,true,true,true,true,true,true,true] ?_;rfl
theorem Sy (e1 e2 e3 e4:List (List AV))(p1:aa e1=true)(p2:aa e2=true)(p3:aa e3=true)(p4:aa e4=true)(k1 k2 k3 k4:List (List UInt8))(so:Int)(pol trm:Bool)(l1:e1.length<2^30)(l2:e2.length<2^30)(l3:e3.length<2^30)(l4:e4.length<2^30)(q1:k1.length<2^30)(q2:k2.length<2^30)(q3:k3.length<2^30)(q4:k4.length<2^30)(s t:List UInt8)(hs:s.length<4294967281)(hc:ag s=(fg,t))(h:so<=4)(ho: ¬bg t=true):ab G 585 [.ref 0 0 0,.str s] (bP e1.length e2.length e3.length e4.length so pol trm e1 e2 e3 e4 k1 k2 k3 k4 []) ⟨pnV (.ifc 138 (.agg [.int .i64 2])),rP e1.length e2.length e3.length e4.length so pol trm (.vec 2 e1) (.vec 2 e2) (.vec 2 e3) (.vec 3 e4) k1 k2 k3 k4 []⟩:=by
 unfold bP rP;have h1:=am s (by omega)
 rw[hc] at h1;dsimp only at h1
 have ht:t.length<4294967281:=by
  have:=congrArg (λp=>p.2.length) hc
  have h2:=aW s;simp only at this;omega
 unfold fg at*;have h2:ab G 586 [.bool (decide ((4:Int)>=so))] [] ⟨.tup [],[]⟩:=by rw[Al (show (4:Int)>=so from h)];exact aM true
 have h3:=λ(_:True)=>aY t ht
 rw[Ac ho] at h3;refine gvC (F:=fm) ?_
 repeat' ((conv=>whnf);first|refine aQ (by decide) ?_|refine bf ?_|refine aq ?_|(refine ae ?_ ?_<;>intro h))
 (conv=>whnf)
 refine CallG.stop ?_;refine aG 597 (h3 trivial) (λQ hr hg=>?_)
 refine kV hg ?_;refine bl pzA [] [true,true,true,true,true,true,true,true,true] ?_;rfl
theorem SJ (e1 e2 e3 e4:List (List AV))(p1:aa e1=true)(p2:aa e2=true)(p3:aa e3=true)(p4:aa e4=true)(k1 k2 k3 k4:List (List UInt8))(so:Int)(pol trm:Bool)(l1:e1.length<2^30)(l2:e2.length<2^30)(l3:e3.length<2^30)(l4:e4.length<2^30)(q1:k1.length<2^30)(q2:k2.length<2^30)(q3:k3.length<2^30)(q4:k4.length<2^30)(s t:List UInt8)(hs:s.length<4294967281)(hc:ag s=(fg,t))(h:so<=4)(ho:bg t=true)(hk:64<=k4.length):ab G 585 [.ref 0 0 0,.str s] (bP e1.length e2.length e3.length e4.length so pol trm e1 e2 e3 e4 k1 k2 k3 k4 []) ⟨pnV (.ifc 138 (.agg [.int .i64 4])),rP e1.length e2.length e3.length e4.length 4 pol trm (.vec 2 e1) (.vec 2 e2) (.vec 2 e3) (.vec 3 e4) k1 k2 k3 k4 []⟩:=by
 unfold bP rP;have h1:=am s (by omega)
 rw[hc] at h1;dsimp only at h1
 have ht:t.length<4294967281:=by
  have:=congrArg (λp=>p.2.length) hc
  have h2:=aW s;simp only at this;omega
 unfold fg at*;have h2:ab G 586 [.bool (decide ((4:Int)>=so))] [] ⟨.tup [],[]⟩:=by rw[Al (show (4:Int)>=so from h)];exact aM true
 have h3:=aY t ht;rw[Ad ho] at h3;have h4:=λ(_:True)=>bp 4
 refine gvC (F:=fm) ?_
 repeat' ((conv=>whnf);first|refine aQ (by decide) ?_|refine bf ?_|refine aq ?_|(refine ae ?_ ?_<;>intro h))
 (conv=>whnf)
 refine CallG.stop ?_;refine aG 590 (h4 trivial) (λQ hr hg=>?_)
 refine kV hg ?_;refine bl pzA [] [true,true,true,true,true,true,true,true,true] ?_;rfl
theorem SD (e1 e2 e3 e4:List (List AV))(p1:aa e1=true)(p2:aa e2=true)(p3:aa e3=true)(p4:aa e4=true)(k1 k2 k3 k4:List (List UInt8))(so:Int)(pol trm:Bool)(l1:e1.length<2^30)(l2:e2.length<2^30)(l3:e3.length<2^30)(l4:e4.length<2^30)(q1:k1.length<2^30)(q2:k2.length<2^30)(q3:k3.length<2^30)(q4:k4.length<2^30)(s t:List UInt8)(hs:s.length<4294967281)(hc:ag s=(fg,t))(h:so<=4)(ho:bg t=true)(hk:k4.length<64)(hn:bq k4 t≠0):ab G 585 [.ref 0 0 0,.str s] (bP e1.length e2.length e3.length e4.length so pol trm e1 e2 e3 e4 k1 k2 k3 k4 []) ⟨pnV (.ifc 138 (.agg [.int .i64 (bq k4 t)])),rP e1.length e2.length e3.length e4.length 4 pol trm (.vec 2 e1) (.vec 2 e2) (.vec 2 e3) (.vec 3 e4) k1 k2 k3 k4 []⟩:=by
 unfold bP rP;have h1:=am s (by omega)
 rw[hc] at h1;dsimp only at h1
 have ht:t.length<4294967281:=by
  have:=congrArg (λp=>p.2.length) hc
  have h2:=aW s;simp only at this;omega
 unfold fg at*;have h2:ab G 586 [.bool (decide ((4:Int)>=so))] [] ⟨.tup [],[]⟩:=by rw[Al (show (4:Int)>=so from h)];exact aM true
 have h3:=aY t ht;rw[Ad ho] at h3;have h4:=λ(_:True)=>bp (bq k4 t)
 rw[Ac hn] at h4;have h5:=cJ k4 t (by omega) (by omega)
 have hl:((k4.map ah).length:Int)=k4.length:=by simp
 refine gvC (F:=fm) ?_
 repeat' ((conv=>whnf);first|refine aQ (by decide) ?_|refine bf ?_|refine aq ?_|refine kZ [(8,_,_)] ⟨rfl,pz trivial⟩ (h5) ?_|(refine ae ?_ ?_<;>intro h))
 (conv=>whnf)
 refine CallG.stop ?_;refine aG 590 (h4 trivial) (λQ hr hg=>?_)
 refine kV hg ?_;refine bl pzA [] [true,true,true,true,true,true,true,true,true] ?_;rfl
theorem aaT (e1 e2 e3 e4:List (List AV))(p1:aa e1=true)(p2:aa e2=true)(p3:aa e3=true)(p4:aa e4=true)(k1 k2 k3 k4:List (List UInt8))(so:Int)(pol trm:Bool)(l1:e1.length<2^30)(l2:e2.length<2^30)(l3:e3.length<2^30)(l4:e4.length<2^30)(q1:k1.length<2^30)(q2:k2.length<2^30)(q3:k3.length<2^30)(q4:k4.length<2^30)(s t:List UInt8)(hs:s.length<4294967281)(hc:ag s=(fg,t))(h:so<=4)(ho:bg t=true)(hk:k4.length<64)(hn:bq k4 t=0):ab G 585 [.ref 0 0 0,.str s] (bP e1.length e2.length e3.length e4.length so pol trm e1 e2 e3 e4 k1 k2 k3 k4 []) ⟨.bool true,mkR [(true,.cells [.vs 1 0 e1.length,.vs 2 0 e2.length,.vs 3 0 e3.length,.vs 4 0 (e4.length+1),.vs 5 0 k1.length,.vs 6 0 k2.length,.vs 7 0 k3.length,.vs 8 0 (k4.length+1),.int .i64 4,.bool true,.bool trm]),(true,.vec 2 e1),(true,.vec 2 e2),(true,.vec 2 e3),(false,.vec 3 (e4++[[.str t,.con (.slice none 0 0),.int .i64 0]])),(true,.vec 1 (k1.map ah)),(true,.vec 1 (k2.map ah)),(true,.vec 1 (k3.map ah)),(false,.vec 1 (k4.map ah++[[.str t]]))]⟩:=by
 unfold bP;have h1:=am s (by omega)
 rw[hc] at h1;dsimp only at h1
 have ht:t.length<4294967281:=by
  have:=congrArg (λp=>p.2.length) hc
  have h2:=aW s;simp only at this;omega
 unfold fg at*;have h2:ab G 586 [.bool (decide ((4:Int)>=so))] [] ⟨.tup [],[]⟩:=by rw[Al (show (4:Int)>=so from h)];exact aM true
 have h3:=aY t ht;rw[Ad ho] at h3;have h4:=bp 0;rw[Ad rfl] at h4;have h5:=cJ k4 t (by omega) (by omega)
 rw[hn] at h5;have hl:((k4.map ah).length:Int)=k4.length:=by simp
 refine gvC (F:=fm) ?_
 repeat' ((conv=>whnf);first|refine aQ (by decide) ?_|refine bf ?_|refine aq ?_|refine kZ [(8,_,_)] ⟨rfl,pz trivial⟩ (h5) ?_|(refine ae ?_ ?_<;>intro h))
 (first|refine cG pzA [] [true,true,true,true,false,true,true,true,false] ?_|refine cH pzA [] [true,true,true,true,false,true,true,true,false] ?_)
 rfl
end Go.AM.IR
namespace Go.AM.IR
theorem m8 (s:List UInt8)(h:s.length<2^32): ∃(k lo hi:Int)(l:List Rx),ab G 516 [.str s] [] ⟨.tup [.agg [.int .i64 k,.int .i64 lo,.int .i64 hi,.sl 4 (l.map Rx.enc)],.int .i64 (if (fu s).isSome then 0 else 2)],[]⟩:=by
 have h1:ab G 516 [.str s] [] (pf (fu s)):=by
  rw[<-Ji];show (if s.length<2^32 then some (pf (m9 s)) else none)=_
  rw[Ad h]
 cases hq:fu s with
 |none=>
  rw[hq] at h1;refine ⟨0,0,0,[],?_⟩;have e:=bx 0 0 0 [];have h2:ab G 516 [.str s] [] ⟨.tup [.agg rx0.enc,.int .i64 2],[]⟩:=h1;unfold rx0 at h2;rw[e] at h2;exact h2
 |some x=>
  rw[hq] at h1;obtain ⟨k,lo,hi,l⟩:=x;refine ⟨k,lo,hi,l,?_⟩;have h2:ab G 516 [.str s] [] ⟨.tup [.agg (Rx.mk k lo hi l).enc,.int .i64 0],[]⟩:=h1;rw[bx] at h2;exact h2
theorem nW {w:List UInt8}(h:br w=0):w≠cn/\w≠cm/\w≠ck/\w≠fg:=by
 unfold br at h;refine ⟨λe=>?_,λe=>?_,λe=>?_,λe=>?_⟩<;>subst e<;>revert h<;>decide
def cR (s:List UInt8):Option (Bool×List UInt8):=if (ag s).1=kG then some (true,(ag s).2) else if (ag s).1=qy then some (false,(ag s).2) else none
def u6:Option (Bool×List UInt8)->Ret
 |some (b,t)=>⟨.tup [.bool b,.str t],[]⟩
 |none=>pF 2
theorem fQ (s:List UInt8)(hs:s.length<2^40):ab G 588 [.str s] [] (u6 (cR s)):=by
 have h:=AB s hs;unfold cR;split at h
 ·rename_i c;rw[Ad c];exact h
 ·rename_i c
  rw[Ac c];split at h
  ·rename_i d;rw[Ad d];exact h
  ·rename_i d;rw[Ac d];exact h
theorem nL {s:List UInt8}{b:Bool}{t:List UInt8}(h:cR s=some (b,t)):t.length<=s.length:=by
 have:=(aW s).2;unfold cR at h;split at h
 ·obtain ⟨_,rfl⟩:=Prod.mk.inj (Ai h);exact this
 ·split at h
  ·obtain ⟨_,rfl⟩:=Prod.mk.inj (Ai h);exact this
  ·cases h
end Go.AM.IR
namespace Go.AM.IR
theorem eo (e1 e2 e3 e4:List (List AV))(p1:aa e1=true)(p2:aa e2=true)(p3:aa e3=true)(p4:aa e4=true)(k1 k2 k3 k4:List (List UInt8))(so:Int)(pol trm:Bool)(s:List UInt8)(hs:s.length<4294967281)(so' e:Int)(h:ab G 585 [.ref 0 0 0,.str s] (bP e1.length e2.length e3.length e4.length so pol trm e1 e2 e3 e4 k1 k2 k3 k4 []) ⟨pnV (.ifc 138 (.agg [.int .i64 e])),rP e1.length e2.length e3.length e4.length so' pol trm (.vec 2 e1) (.vec 2 e2) (.vec 2 e3) (.vec 3 e4) k1 k2 k3 k4 []⟩):ab G 541 [.ref 0 0 0,.str s] (bP e1.length e2.length e3.length e4.length so pol trm e1 e2 e3 e4 k1 k2 k3 k4 []) ⟨pnV (.ifc 138 (.agg [.int .i64 e])),rP e1.length e2.length e3.length e4.length so' pol trm (.vec 2 e1) (.vec 2 e2) (.vec 2 e3) (.vec 3 e4) k1 k2 k3 k4 []⟩:=by
 unfold bP rP;replace h:=λ(_:True)=>h
 refine gvB (F:=iP) ?_
 (conv=>whnf)
 refine CallG.stop ?_;refine aG 585 (h trivial) (λQ hr hg=>?_)
 refine kP pzA [] ⟨rfl,rfl,rfl,rfl,rfl,rfl,rfl,rfl,rfl,trivial⟩ trivial hg ?_ (hE:=by rw[hr];kernel_rfl)
 refine bl pzA [] [true,true,true,true,true,true,true,true,true] ?_;rfl
theorem Wo (e1 e2 e3 e4:List (List AV))(p1:aa e1=true)(p2:aa e2=true)(p3:aa e3=true)(p4:aa e4=true)(k1 k2 k3 k4:List (List UInt8))(so:Int)(pol trm:Bool)(l1:e1.length<2^30)(l2:e2.length<2^30)(l3:e3.length<2^30)(l4:e4.length<2^30)(q1:k1.length<2^30)(q2:k2.length<2^30)(q3:k3.length<2^30)(q4:k4.length<2^30)(s:List UInt8)(hs:s.length<4294967281)(hq:br (ag s).1=0)(n1:so≠1)(n2:so≠2)(n3:so≠3):ab G 541 [.ref 0 0 0,.str s] (bP e1.length e2.length e3.length e4.length so pol trm e1 e2 e3 e4 k1 k2 k3 k4 []) ⟨pnV (.ifc 138 (.agg [.int .i64 2])),rP e1.length e2.length e3.length e4.length so pol trm (.vec 2 e1) (.vec 2 e2) (.vec 2 e3) (.vec 3 e4) k1 k2 k3 k4 []⟩:=by
 unfold bP rP;obtain ⟨w1,w2,w3,w4⟩:=nW hq;have h0:=acl e1 e2 e3 e4 p1 p2 p3 p4 k1 k2 k3 k4 so pol trm l1 l2 l3 l4 q1 q2 q3 q4 s (ag s).1 (ag s).2 hs rfl w1 w2 w3 w4;have h2:=λ(_:True)=>aM false
 have n1': ¬so=1:=n1;have n2': ¬so=2:=n2;have n3': ¬so=3:=n3;refine gvB (F:=iP) ?_
 (conv=>whnf)
 refine kP pzA [] ⟨rfl,rfl,rfl,rfl,rfl,rfl,rfl,rfl,rfl,trivial⟩ trivial h0 ?_
 repeat' ((conv=>whnf);first|refine iR n1' ?_|refine iR n2' ?_|refine iR n3' ?_|refine aq ?_|(refine ae ?_ ?_<;>intro h))
 (conv=>whnf)
 refine CallG.stop ?_;refine aG 586 (h2 trivial) (λQ hr hg=>?_)
 refine kV hg ?_;refine bl pzA [] [true,true,true,true,true,true,true,true,true] ?_;rfl
theorem Wn (e1 e2 e3 e4:List (List AV))(p1:aa e1=true)(p2:aa e2=true)(p3:aa e3=true)(p4:aa e4=true)(k1 k2 k3 k4:List (List UInt8))(so:Int)(pol trm:Bool)(l1:e1.length<2^30)(l2:e2.length<2^30)(l3:e3.length<2^30)(l4:e4.length<2^30)(q1:k1.length<2^30)(q2:k2.length<2^30)(q3:k3.length<2^30)(q4:k4.length<2^30)(s t:List UInt8)(hs:s.length<4294967281)(hc:ag s=(cn,t))(h:so<=1)(ho:bg t=true)(hk:k1.length<64)(hn:bq k1 t=0):ab G 541 [.ref 0 0 0,.str s] (bP e1.length e2.length e3.length e4.length so pol trm e1 e2 e3 e4 k1 k2 k3 k4 []) ⟨.tup [],mkR [(true,.cells [.vs 1 0 (e1.length+1),.vs 2 0 e2.length,.vs 3 0 e3.length,.vs 4 0 e4.length,.vs 5 0 (k1.length+1),.vs 6 0 k2.length,.vs 7 0 k3.length,.vs 8 0 k4.length,.int .i64 1,.bool pol,.bool trm]),(false,.vec 2 (e1++[[.str t,.con (.slice none 0 0)]])),(true,.vec 2 e2),(true,.vec 2 e3),(true,.vec 3 e4),(false,.vec 1 (k1.map ah++[[.str t]])),(true,.vec 1 (k2.map ah)),(true,.vec 1 (k3.map ah)),(true,.vec 1 (k4.map ah))]⟩:=by
 unfold bP;have h0:=aaW e1 e2 e3 e4 p1 p2 p3 p4 k1 k2 k3 k4 so pol trm l1 l2 l3 l4 q1 q2 q3 q4 s t hs hc h ho hk hn;refine gvB (F:=iP) ?_
 (conv=>whnf)
 refine kP pzA [] ⟨rfl,rfl,rfl,rfl,rfl,rfl,rfl,rfl,rfl,trivial⟩ trivial h0 ?_
 repeat' (first|refine bb ?_|(refine ae ?_ ?_<;>intro h))
 (first|refine cG pzA [] [true,false,true,true,true,false,true,true,true] ?_|refine cH pzA [] [true,false,true,true,true,false,true,true,true] ?_)
 rfl
theorem Wm (e1 e2 e3 e4:List (List AV))(p1:aa e1=true)(p2:aa e2=true)(p3:aa e3=true)(p4:aa e4=true)(k1 k2 k3 k4:List (List UInt8))(so:Int)(pol trm:Bool)(l1:e1.length<2^30)(l2:e2.length<2^30)(l3:e3.length<2^30)(l4:e4.length<2^30)(q1:k1.length<2^30)(q2:k2.length<2^30)(q3:k3.length<2^30)(q4:k4.length<2^30)(s t:List UInt8)(hs:s.length<4294967281)(hc:ag s=(cm,t))(h:so<=2)(ho:bg t=true)(hk:k2.length<64)(hn:bq k2 t=0):ab G 541 [.ref 0 0 0,.str s] (bP e1.length e2.length e3.length e4.length so pol trm e1 e2 e3 e4 k1 k2 k3 k4 []) ⟨.tup [],mkR [(true,.cells [.vs 1 0 e1.length,.vs 2 0 (e2.length+1),.vs 3 0 e3.length,.vs 4 0 e4.length,.vs 5 0 k1.length,.vs 6 0 (k2.length+1),.vs 7 0 k3.length,.vs 8 0 k4.length,.int .i64 2,.bool pol,.bool trm]),(true,.vec 2 e1),(false,.vec 2 (e2++[[.str t,.con (.slice none 0 0)]])),(true,.vec 2 e3),(true,.vec 3 e4),(true,.vec 1 (k1.map ah)),(false,.vec 1 (k2.map ah++[[.str t]])),(true,.vec 1 (k3.map ah)),(true,.vec 1 (k4.map ah))]⟩:=by
 unfold bP;have h0:=aaV e1 e2 e3 e4 p1 p2 p3 p4 k1 k2 k3 k4 so pol trm l1 l2 l3 l4 q1 q2 q3 q4 s t hs hc h ho hk hn;refine gvB (F:=iP) ?_
 (conv=>whnf)
 refine kP pzA [] ⟨rfl,rfl,rfl,rfl,rfl,rfl,rfl,rfl,rfl,trivial⟩ trivial h0 ?_
 repeat' (first|refine bb ?_|(refine ae ?_ ?_<;>intro h))
 (first|refine cG pzA [] [true,true,false,true,true,true,false,true,true] ?_|refine cH pzA [] [true,true,false,true,true,true,false,true,true] ?_)
 rfl
theorem Wl (e1 e2 e3 e4:List (List AV))(p1:aa e1=true)(p2:aa e2=true)(p3:aa e3=true)(p4:aa e4=true)(k1 k2 k3 k4:List (List UInt8))(so:Int)(pol trm:Bool)(l1:e1.length<2^30)(l2:e2.length<2^30)(l3:e3.length<2^30)(l4:e4.length<2^30)(q1:k1.length<2^30)(q2:k2.length<2^30)(q3:k3.length<2^30)(q4:k4.length<2^30)(s t:List UInt8)(hs:s.length<4294967281)(hc:ag s=(ck,t))(h:so<=3)(ho:bg t=true)(hk:k3.length<64)(hn:bq k3 t=0):ab G 541 [.ref 0 0 0,.str s] (bP e1.length e2.length e3.length e4.length so pol trm e1 e2 e3 e4 k1 k2 k3 k4 []) ⟨.tup [],mkR [(true,.cells [.vs 1 0 e1.length,.vs 2 0 e2.length,.vs 3 0 (e3.length+1),.vs 4 0 e4.length,.vs 5 0 k1.length,.vs 6 0 k2.length,.vs 7 0 (k3.length+1),.vs 8 0 k4.length,.int .i64 3,.bool pol,.bool trm]),(true,.vec 2 e1),(true,.vec 2 e2),(false,.vec 2 (e3++[[.str t,.con (.slice none 0 0)]])),(true,.vec 3 e4),(true,.vec 1 (k1.map ah)),(true,.vec 1 (k2.map ah)),(false,.vec 1 (k3.map ah++[[.str t]])),(true,.vec 1 (k4.map ah))]⟩:=by
 unfold bP;have h0:=aaU e1 e2 e3 e4 p1 p2 p3 p4 k1 k2 k3 k4 so pol trm l1 l2 l3 l4 q1 q2 q3 q4 s t hs hc h ho hk hn;refine gvB (F:=iP) ?_
 (conv=>whnf)
 refine kP pzA [] ⟨rfl,rfl,rfl,rfl,rfl,rfl,rfl,rfl,rfl,trivial⟩ trivial h0 ?_
 repeat' (first|refine bb ?_|(refine ae ?_ ?_<;>intro h))
 (first|refine cG pzA [] [true,true,true,false,true,true,true,false,true] ?_|refine cH pzA [] [true,true,true,false,true,true,true,false,true] ?_)
 rfl
theorem Wh (e1 e2 e3 e4:List (List AV))(p1:aa e1=true)(p2:aa e2=true)(p3:aa e3=true)(p4:aa e4=true)(k1 k2 k3 k4:List (List UInt8))(so:Int)(pol trm:Bool)(l1:e1.length<2^30)(l2:e2.length<2^30)(l3:e3.length<2^30)(l4:e4.length<2^30)(q1:k1.length<2^30)(q2:k2.length<2^30)(q3:k3.length<2^30)(q4:k4.length<2^30)(s t:List UInt8)(hs:s.length<4294967281)(hc:ag s=(fg,t))(h:so<=4)(ho:bg t=true)(hk:k4.length<64)(hn:bq k4 t=0):ab G 541 [.ref 0 0 0,.str s] (bP e1.length e2.length e3.length e4.length so pol trm e1 e2 e3 e4 k1 k2 k3 k4 []) ⟨.tup [],mkR [(true,.cells [.vs 1 0 e1.length,.vs 2 0 e2.length,.vs 3 0 e3.length,.vs 4 0 (e4.length+1),.vs 5 0 k1.length,.vs 6 0 k2.length,.vs 7 0 k3.length,.vs 8 0 (k4.length+1),.int .i64 4,.bool true,.bool trm]),(true,.vec 2 e1),(true,.vec 2 e2),(true,.vec 2 e3),(false,.vec 3 (e4++[[.str t,.con (.slice none 0 0),.int .i64 0]])),(true,.vec 1 (k1.map ah)),(true,.vec 1 (k2.map ah)),(true,.vec 1 (k3.map ah)),(false,.vec 1 (k4.map ah++[[.str t]]))]⟩:=by
 unfold bP;have h0:=aaT e1 e2 e3 e4 p1 p2 p3 p4 k1 k2 k3 k4 so pol trm l1 l2 l3 l4 q1 q2 q3 q4 s t hs hc h ho hk hn;refine gvB (F:=iP) ?_
 (conv=>whnf)
 refine kP pzA [] ⟨rfl,rfl,rfl,rfl,rfl,rfl,rfl,rfl,rfl,trivial⟩ trivial h0 ?_
 repeat' (first|refine bb ?_|(refine ae ?_ ?_<;>intro h))
 (first|refine cG pzA [] [true,true,true,true,false,true,true,true,false] ?_|refine cH pzA [] [true,true,true,true,false,true,true,true,false] ?_)
 rfl
end Go.AM.IR
