/- What the functions of this program give, on the abstract machine. -/
import Derived.Test.YtomphmeopjpejaaGreatDoorDataN
set_option linter.unusedVariables false
set_option linter.unusedSimpArgs false
set_option maxHeartbeats 4000000
set_option maxRecDepth 20000
namespace Go.AM.IR
def plR (pre:List PList)(pa:List PathL)(co:List ComL)(po:List Pol)(nm:List UInt8)(ts:List Trm)(v:Int):List (Bool×Blk):=mkR [(true,.cells [.vs 1 0 pre.length,.vs 2 0 pa.length,.vs 3 0 co.length,.vs 4 0 (po.length+1),.vs 5 0 pre.length,.vs 6 0 pa.length,.vs 7 0 co.length,.vs 8 0 (po.length+1),.int .i64 4,.bool false,.bool false]),(true,.vec 2 (pre.map PList.enc)),(true,.vec 2 (pa.map PathL.enc)),(true,.vec 2 (co.map ComL.enc)),(true,.nest 3 (po.map Pol.enc) [[AV.str nm,AV.vs 9 0 ts.length,AV.int .i64 v]]),(true,.vec 1 ((pre.map PList.name).map ah)),(true,.vec 1 ((pa.map PathL.name).map ah)),(true,.vec 1 ((co.map ComL.name).map ah)),(true,.vec 1 ((po.map Pol.name++[nm]).map ah)),(true,.vec 4 (ts.map Trm.enc))]
def CR (pre:List PList)(pa:List PathL)(co:List ComL)(po:List Pol)(nm:List UInt8)(ts:List Trm)(t:List UInt8):List (Bool×Blk):=mkR [(true,.cells [.vs 1 0 pre.length,.vs 2 0 pa.length,.vs 3 0 co.length,.vs 4 0 (po.length+1),.vs 5 0 pre.length,.vs 6 0 pa.length,.vs 7 0 co.length,.vs 8 0 (po.length+1),.int .i64 4,.bool true,.bool true]),(true,.vec 2 (pre.map PList.enc)),(true,.vec 2 (pa.map PathL.enc)),(true,.vec 2 (co.map ComL.enc)),(true,.nest 3 (po.map Pol.enc) [[AV.str nm,AV.vs 9 0 (ts.length+1),AV.int .i64 0]]),(true,.vec 1 ((pre.map PList.name).map ah)),(true,.vec 1 ((pa.map PathL.name).map ah)),(true,.vec 1 ((co.map ComL.name).map ah)),(true,.vec 1 ((po.map Pol.name++[nm]).map ah)),(false,.vec 4 (ts.map Trm.enc++[[.str t,.con (.slice none 0 0),.con (.slice none 0 0),.int .i64 0]]))]
theorem Zr (pre:List PList)(pa:List PathL)(co:List ComL)(po:List Pol)(s:List UInt8)(hs:s.length<2^30)(l1:pre.length<2^30)(l2:pa.length<2^30)(l3:co.length<2^30)(l4:po.length<2^30)(nm:List UInt8)(ts:List Trm)(lt:ts.length<2^30)(hx:s=fF):bh (aX (.pol pre pa co po nm ts)) s ⟨.int .i64 0,plR pre pa co po nm ts 1⟩:=by
 subst hx;have h:=acB (pre.map PList.enc) (pa.map PathL.enc) (co.map ComL.enc) (po.map Pol.enc) (by simp) (by simp) (by simp) (by simp) (pre.map PList.name) (pa.map PathL.name) (co.map ComL.name) (po.map Pol.name++[nm]) 4 false nm 0 (po.length+1) (by simp) (by simpa using l4) ts lt
 simp only[bP,rP,At,Ar,List.length_singleton] at h;exact Ch fF h
theorem Zq (pre:List PList)(pa:List PathL)(co:List ComL)(po:List Pol)(s:List UInt8)(hs:s.length<2^30)(l1:pre.length<2^30)(l2:pa.length<2^30)(l3:co.length<2^30)(l4:po.length<2^30)(nm:List UInt8)(ts:List Trm)(lt:ts.length<2^30)(hx:s=fE):bh (aX (.pol pre pa co po nm ts)) s ⟨.int .i64 0,plR pre pa co po nm ts 2⟩:=by
 subst hx;have h:=acA (pre.map PList.enc) (pa.map PathL.enc) (co.map ComL.enc) (po.map Pol.enc) (by simp) (by simp) (by simp) (by simp) (pre.map PList.name) (pa.map PathL.name) (co.map ComL.name) (po.map Pol.name++[nm]) 4 false nm 0 (po.length+1) (by simp) (by simpa using l4) ts lt
 simp only[bP,rP,At,Ar,List.length_singleton] at h;exact Ch fE h
theorem Re (pre:List PList)(pa:List PathL)(co:List ComL)(po:List Pol)(s:List UInt8)(hs:s.length<2^30)(l1:pre.length<2^30)(l2:pa.length<2^30)(l3:co.length<2^30)(l4:po.length<2^30)(nm:List UInt8)(ts:List Trm)(lt:ts.length<2^30)(d1:s≠fF)(d2:s≠fE)(hw:(ag s).1≠dX):bh (aX (.pol pre pa co po nm ts)) s ⟨.int .i64 2,bv 4 (.pol pre pa co po nm ts)⟩:=by
 have h:=Yy (pre.map PList.enc) (pa.map PathL.enc) (co.map ComL.enc) (po.map Pol.enc) (by simp) (by simp) (by simp) (by simp) (pre.map PList.name) (pa.map PathL.name) (co.map ComL.name) (po.map Pol.name++[nm]) 4 false nm 0 (po.length+1) (by simp) (by simpa using l4) ts lt s (by omega) d1 d2 hw
 simp only[bP,rP,At,Ar,List.length_singleton] at h;exact sb s 2 h
theorem QZ (pre:List PList)(pa:List PathL)(co:List ComL)(po:List Pol)(s:List UInt8)(hs:s.length<2^30)(l1:pre.length<2^30)(l2:pa.length<2^30)(l3:co.length<2^30)(l4:po.length<2^30)(nm:List UInt8)(ts:List Trm)(lt:ts.length<2^30)(d1:s≠fF)(d2:s≠fE)(hw:(ag s).1=dX)(ho: ¬bg (ag s).2=true):bh (aX (.pol pre pa co po nm ts)) s ⟨.int .i64 2,bv 4 (.pol pre pa co po nm ts)⟩:=by
 have h:=Yv (pre.map PList.enc) (pa.map PathL.enc) (co.map ComL.enc) (po.map Pol.enc) (by simp) (by simp) (by simp) (by simp) (pre.map PList.name) (pa.map PathL.name) (co.map ComL.name) (po.map Pol.name++[nm]) 4 false nm 0 (po.length+1) (by simp) (by simpa using l4) ts lt s (by omega) d1 d2 hw ho
 simp only[bP,rP,At,Ar,List.length_singleton] at h;exact sb s 2 h
theorem Rc (pre:List PList)(pa:List PathL)(co:List ComL)(po:List Pol)(s:List UInt8)(hs:s.length<2^30)(l1:pre.length<2^30)(l2:pa.length<2^30)(l3:co.length<2^30)(l4:po.length<2^30)(nm:List UInt8)(ts:List Trm)(lt:ts.length<2^30)(d1:s≠fF)(d2:s≠fE)(hw:(ag s).1=dX)(ho:bg (ag s).2=true)(hk:64<=ts.length):bh (aX (.pol pre pa co po nm ts)) s ⟨.int .i64 4,bv 4 (.pol pre pa co po nm ts)⟩:=by
 have h:=Yx (pre.map PList.enc) (pa.map PathL.enc) (co.map ComL.enc) (po.map Pol.enc) (by simp) (by simp) (by simp) (by simp) (pre.map PList.name) (pa.map PathL.name) (co.map ComL.name) (po.map Pol.name++[nm]) 4 false nm 0 (po.length+1) (by simp) (by simpa using l4) ts lt s (by omega) d1 d2 hw ho hk
 simp only[bP,rP,At,Ar,List.length_singleton] at h;exact sb s 4 h
theorem Ra (pre:List PList)(pa:List PathL)(co:List ComL)(po:List Pol)(s:List UInt8)(hs:s.length<2^30)(l1:pre.length<2^30)(l2:pa.length<2^30)(l3:co.length<2^30)(l4:po.length<2^30)(nm:List UInt8)(ts:List Trm)(lt:ts.length<2^30)(hf:Kn.fit ⟨pre.map PList.name,pa.map PathL.name,co.map ComL.name,po.map Pol.name++[nm]⟩)(d1:s≠fF)(d2:s≠fE)(hw:(ag s).1=dX)(ho:bg (ag s).2=true)(hk:ts.length<64)(hc:eT ⟨pre.map PList.name,pa.map PathL.name,co.map ComL.name,po.map Pol.name++[nm]⟩ ts ⟨(ag s).2,[],[],1⟩≠0):bh (aX (.pol pre pa co po nm ts)) s ⟨.int .i64 (eT ⟨pre.map PList.name,pa.map PathL.name,co.map ComL.name,po.map Pol.name++[nm]⟩ ts ⟨(ag s).2,[],[],1⟩),bv 4 (.pol pre pa co po nm ts)⟩:=by
 have h:=Yw (pre.map PList.enc) (pa.map PathL.enc) (co.map ComL.enc) (po.map Pol.enc) (by simp) (by simp) (by simp) (by simp) (pre.map PList.name) (pa.map PathL.name) (co.map ComL.name) (po.map Pol.name++[nm]) 4 false nm 0 (po.length+1) (by simp) (by simpa using l4) ts lt hf s (by omega) d1 d2 hw ho hk hc
 simp only[bP,rP,At,Ar,List.length_singleton] at h;exact sb s (eT ⟨pre.map PList.name,pa.map PathL.name,co.map ComL.name,po.map Pol.name++[nm]⟩ ts ⟨(ag s).2,[],[],1⟩) h
theorem Zp (pre:List PList)(pa:List PathL)(co:List ComL)(po:List Pol)(s:List UInt8)(hs:s.length<2^30)(l1:pre.length<2^30)(l2:pa.length<2^30)(l3:co.length<2^30)(l4:po.length<2^30)(nm:List UInt8)(ts:List Trm)(lt:ts.length<2^30)(hf:Kn.fit ⟨pre.map PList.name,pa.map PathL.name,co.map ComL.name,po.map Pol.name++[nm]⟩)(d1:s≠fF)(d2:s≠fE)(hw:(ag s).1=dX)(ho:bg (ag s).2=true)(hk:ts.length<64)(hc:eT ⟨pre.map PList.name,pa.map PathL.name,co.map ComL.name,po.map Pol.name++[nm]⟩ ts ⟨(ag s).2,[],[],1⟩=0):bh (aX (.pol pre pa co po nm ts)) s ⟨.int .i64 0,CR pre pa co po nm ts (ag s).2⟩:=by
 have h:=acy (pre.map PList.enc) (pa.map PathL.enc) (co.map ComL.enc) (po.map Pol.enc) (by simp) (by simp) (by simp) (by simp) (pre.map PList.name) (pa.map PathL.name) (co.map ComL.name) (po.map Pol.name++[nm]) 4 false nm 0 (po.length+1) (by simp) (by simpa using l4) ts lt hf s (by omega) d1 d2 hw ho hk hc
 simp only[bP,rP,At,Ar,List.length_singleton] at h;exact Ch s h
def teR (pre:List PList)(pa:List PathL)(co:List ComL)(po:List Pol)(nm:List UInt8)(ts:List Trm)(tn:List UInt8)(ms:List Mat)(acs:List Actn)(v:Int):List (Bool×Blk):=mkR [(true,.cells [.vs 1 0 pre.length,.vs 2 0 pa.length,.vs 3 0 co.length,.vs 4 0 (po.length+1),.vs 5 0 pre.length,.vs 6 0 pa.length,.vs 7 0 co.length,.vs 8 0 (po.length+1),.int .i64 4,.bool true,.bool false]),(true,.vec 2 (pre.map PList.enc)),(true,.vec 2 (pa.map PathL.enc)),(true,.vec 2 (co.map ComL.enc)),(true,.nest 3 (po.map Pol.enc) [[AV.str nm,AV.vs 9 0 (ts.length+1),AV.int .i64 0]]),(true,.vec 1 ((pre.map PList.name).map ah)),(true,.vec 1 ((pa.map PathL.name).map ah)),(true,.vec 1 ((co.map ComL.name).map ah)),(true,.vec 1 ((po.map Pol.name++[nm]).map ah)),(true,.nest 4 (ts.map Trm.enc) [[AV.str tn,AV.vs 10 0 ms.length,AV.vs 11 0 acs.length,AV.int .i64 v]]),(true,.vec 6 (ms.map Mat.enc)),(true,.vec 5 (acs.map Actn.enc))]
def teM (pre:List PList)(pa:List PathL)(co:List ComL)(po:List Pol)(nm:List UInt8)(ts:List Trm)(tn:List UInt8)(ms:List Mat)(acs:List Actn)(x:Mat):List (Bool×Blk):=mkR [(true,.cells [.vs 1 0 pre.length,.vs 2 0 pa.length,.vs 3 0 co.length,.vs 4 0 (po.length+1),.vs 5 0 pre.length,.vs 6 0 pa.length,.vs 7 0 co.length,.vs 8 0 (po.length+1),.int .i64 4,.bool true,.bool true]),(true,.vec 2 (pre.map PList.enc)),(true,.vec 2 (pa.map PathL.enc)),(true,.vec 2 (co.map ComL.enc)),(true,.nest 3 (po.map Pol.enc) [[AV.str nm,AV.vs 9 0 (ts.length+1),AV.int .i64 0]]),(true,.vec 1 ((pre.map PList.name).map ah)),(true,.vec 1 ((pa.map PathL.name).map ah)),(true,.vec 1 ((co.map ComL.name).map ah)),(true,.vec 1 ((po.map Pol.name++[nm]).map ah)),(true,.nest 4 (ts.map Trm.enc) [[AV.str tn,AV.vs 10 0 (ms.length+1),AV.vs 11 0 acs.length,AV.int .i64 0]]),(false,.vec 6 (ms.map Mat.enc++[x.enc])),(true,.vec 5 (acs.map Actn.enc))]
def teA (pre:List PList)(pa:List PathL)(co:List ComL)(po:List Pol)(nm:List UInt8)(ts:List Trm)(tn:List UInt8)(ms:List Mat)(acs:List Actn)(x:Actn):List (Bool×Blk):=mkR [(true,.cells [.vs 1 0 pre.length,.vs 2 0 pa.length,.vs 3 0 co.length,.vs 4 0 (po.length+1),.vs 5 0 pre.length,.vs 6 0 pa.length,.vs 7 0 co.length,.vs 8 0 (po.length+1),.int .i64 4,.bool true,.bool true]),(true,.vec 2 (pre.map PList.enc)),(true,.vec 2 (pa.map PathL.enc)),(true,.vec 2 (co.map ComL.enc)),(true,.nest 3 (po.map Pol.enc) [[AV.str nm,AV.vs 9 0 (ts.length+1),AV.int .i64 0]]),(true,.vec 1 ((pre.map PList.name).map ah)),(true,.vec 1 ((pa.map PathL.name).map ah)),(true,.vec 1 ((co.map ComL.name).map ah)),(true,.vec 1 ((po.map Pol.name++[nm]).map ah)),(true,.nest 4 (ts.map Trm.enc) [[AV.str tn,AV.vs 10 0 ms.length,AV.vs 11 0 (acs.length+1),AV.int .i64 0]]),(true,.vec 6 (ms.map Mat.enc)),(false,.vec 5 (acs.map Actn.enc++[x.enc]))]
theorem Zo (pre:List PList)(pa:List PathL)(co:List ComL)(po:List Pol)(s:List UInt8)(hs:s.length<2^30)(l1:pre.length<2^30)(l2:pa.length<2^30)(l3:co.length<2^30)(l4:po.length<2^30)(nm:List UInt8)(ts:List Trm)(lt:ts.length<2^30)(tn:List UInt8)(ms:List Mat)(lm:ms.length<2^30)(acs:List Actn)(la:acs.length<2^30)(hx:s=cq):bh (aX (.term pre pa co po nm ts tn ms acs)) s ⟨.int .i64 0,teR pre pa co po nm ts tn ms acs 1⟩:=by
 subst hx;have h:=ab9 (pre.map PList.enc) (pa.map PathL.enc) (co.map ComL.enc) (po.map Pol.enc) (by simp) (by simp) (by simp) (by simp) (pre.map PList.name) (pa.map PathL.name) (co.map ComL.name) (po.map Pol.name++[nm]) 4 true nm 0 (po.length+1) (by simp) (by simpa using l4) ts lt tn ms lm acs la (ts.length+1) rfl
 simp only[bP,rP,At,Ar,List.length_singleton] at h;exact qK cq h
theorem Zn (pre:List PList)(pa:List PathL)(co:List ComL)(po:List Pol)(s:List UInt8)(hs:s.length<2^30)(l1:pre.length<2^30)(l2:pa.length<2^30)(l3:co.length<2^30)(l4:po.length<2^30)(nm:List UInt8)(ts:List Trm)(lt:ts.length<2^30)(tn:List UInt8)(ms:List Mat)(lm:ms.length<2^30)(acs:List Actn)(la:acs.length<2^30)(hx:s=cp):bh (aX (.term pre pa co po nm ts tn ms acs)) s ⟨.int .i64 0,teR pre pa co po nm ts tn ms acs 2⟩:=by
 subst hx;have h:=ab8 (pre.map PList.enc) (pa.map PathL.enc) (co.map ComL.enc) (po.map Pol.enc) (by simp) (by simp) (by simp) (by simp) (pre.map PList.name) (pa.map PathL.name) (co.map ComL.name) (po.map Pol.name++[nm]) 4 true nm 0 (po.length+1) (by simp) (by simpa using l4) ts lt tn ms lm acs la (ts.length+1) rfl
 simp only[bP,rP,At,Ar,List.length_singleton] at h;exact qK cp h
theorem Zm (pre:List PList)(pa:List PathL)(co:List ComL)(po:List Pol)(s:List UInt8)(hs:s.length<2^30)(l1:pre.length<2^30)(l2:pa.length<2^30)(l3:co.length<2^30)(l4:po.length<2^30)(nm:List UInt8)(ts:List Trm)(lt:ts.length<2^30)(tn:List UInt8)(ms:List Mat)(lm:ms.length<2^30)(acs:List Actn)(la:acs.length<2^30)(hx:s=bN):bh (aX (.term pre pa co po nm ts tn ms acs)) s ⟨.int .i64 0,teR pre pa co po nm ts tn ms acs 3⟩:=by
 subst hx;have h:=ab7 (pre.map PList.enc) (pa.map PathL.enc) (co.map ComL.enc) (po.map Pol.enc) (by simp) (by simp) (by simp) (by simp) (pre.map PList.name) (pa.map PathL.name) (co.map ComL.name) (po.map Pol.name++[nm]) 4 true nm 0 (po.length+1) (by simp) (by simpa using l4) ts lt tn ms lm acs la (ts.length+1) rfl
 simp only[bP,rP,At,Ar,List.length_singleton] at h;exact qK bN h
theorem QW (pre:List PList)(pa:List PathL)(co:List ComL)(po:List Pol)(s:List UInt8)(hs:s.length<2^30)(l1:pre.length<2^30)(l2:pa.length<2^30)(l3:co.length<2^30)(l4:po.length<2^30)(nm:List UInt8)(ts:List Trm)(lt:ts.length<2^30)(tn:List UInt8)(ms:List Mat)(lm:ms.length<2^30)(acs:List Actn)(la:acs.length<2^30)(d1:s≠cq)(d2:s≠cp)(d3:s≠bN)(hw:(ag s).1≠dj)(hw2:(ag s).1≠iq):bh (aX (.term pre pa co po nm ts tn ms acs)) s ⟨.int .i64 2,bv 4 (.term pre pa co po nm ts tn ms acs)⟩:=by
 have h:=Wa (pre.map PList.enc) (pa.map PathL.enc) (co.map ComL.enc) (po.map Pol.enc) (by simp) (by simp) (by simp) (by simp) (pre.map PList.name) (pa.map PathL.name) (co.map ComL.name) (po.map Pol.name++[nm]) 4 true nm 0 (po.length+1) (by simp) (by simpa using l4) ts lt tn ms lm acs la (ts.length+1) rfl s hs d1 d2 d3 hw hw2
 simp only[bP,rP,At,Ar,List.length_singleton] at h;exact j3 s 2 h
theorem QV (pre:List PList)(pa:List PathL)(co:List ComL)(po:List Pol)(s:List UInt8)(hs:s.length<2^30)(l1:pre.length<2^30)(l2:pa.length<2^30)(l3:co.length<2^30)(l4:po.length<2^30)(nm:List UInt8)(ts:List Trm)(lt:ts.length<2^30)(tn:List UInt8)(ms:List Mat)(lm:ms.length<2^30)(acs:List Actn)(la:acs.length<2^30)(d1:s≠cq)(d2:s≠cp)(d3:s≠bN)(hw:(ag s).1=dj)(ha:acs≠ []):bh (aX (.term pre pa co po nm ts tn ms acs)) s ⟨.int .i64 2,bv 4 (.term pre pa co po nm ts tn ms acs)⟩:=by
 have h:=V8 (pre.map PList.enc) (pa.map PathL.enc) (co.map ComL.enc) (po.map Pol.enc) (by simp) (by simp) (by simp) (by simp) (pre.map PList.name) (pa.map PathL.name) (co.map ComL.name) (po.map Pol.name++[nm]) 4 true nm 0 (po.length+1) (by simp) (by simpa using l4) ts lt tn ms lm acs la (ts.length+1) rfl s hs d1 d2 d3 hw ha
 simp only[bP,rP,At,Ar,List.length_singleton] at h;exact j3 s 2 h
theorem QU (pre:List PList)(pa:List PathL)(co:List ComL)(po:List Pol)(s:List UInt8)(hs:s.length<2^30)(l1:pre.length<2^30)(l2:pa.length<2^30)(l3:co.length<2^30)(l4:po.length<2^30)(nm:List UInt8)(ts:List Trm)(lt:ts.length<2^30)(tn:List UInt8)(ms:List Mat)(lm:ms.length<2^30)(acs:List Actn)(la:acs.length<2^30)(d1:s≠cq)(d2:s≠cp)(d3:s≠bN)(hw:(ag s).1=dj)(ha:acs.length=0)(hm2:ic (ag s).2=none):bh (aX (.term pre pa co po nm ts tn ms acs)) s ⟨.int .i64 2,bv 4 (.term pre pa co po nm ts tn ms acs)⟩:=by
 have h:=V7 (pre.map PList.enc) (pa.map PathL.enc) (co.map ComL.enc) (po.map Pol.enc) (by simp) (by simp) (by simp) (by simp) (pre.map PList.name) (pa.map PathL.name) (co.map ComL.name) (po.map Pol.name++[nm]) 4 true nm 0 (po.length+1) (by simp) (by simpa using l4) ts lt tn ms lm acs la (ts.length+1) rfl s hs d1 d2 d3 hw ha hm2
 simp only[bP,rP,At,Ar,List.length_singleton] at h;exact j3 s 2 h
theorem NC (pre:List PList)(pa:List PathL)(co:List ComL)(po:List Pol)(s:List UInt8)(hs:s.length<2^30)(l1:pre.length<2^30)(l2:pa.length<2^30)(l3:co.length<2^30)(l4:po.length<2^30)(nm:List UInt8)(ts:List Trm)(lt:ts.length<2^30)(tn:List UInt8)(ms:List Mat)(lm:ms.length<2^30)(acs:List Actn)(la:acs.length<2^30)(d1:s≠cq)(d2:s≠cp)(d3:s≠bN)(hw:(ag s).1=dj)(ha:acs.length=0)(x:Mat)(hm2:ic (ag s).2=some x)(hk:64<=ms.length):bh (aX (.term pre pa co po nm ts tn ms acs)) s ⟨.int .i64 4,bv 4 (.term pre pa co po nm ts tn ms acs)⟩:=by
 have h:=Qi (pre.map PList.enc) (pa.map PathL.enc) (co.map ComL.enc) (po.map Pol.enc) (by simp) (by simp) (by simp) (by simp) (pre.map PList.name) (pa.map PathL.name) (co.map ComL.name) (po.map Pol.name++[nm]) 4 true nm 0 (po.length+1) (by simp) (by simpa using l4) ts lt tn ms lm acs la (ts.length+1) rfl s hs d1 d2 d3 hw ha x hm2 hk
 simp only[bP,rP,At,Ar,List.length_singleton] at h;exact j3 s 4 h
theorem QT (pre:List PList)(pa:List PathL)(co:List ComL)(po:List Pol)(s:List UInt8)(hs:s.length<2^30)(l1:pre.length<2^30)(l2:pa.length<2^30)(l3:co.length<2^30)(l4:po.length<2^30)(nm:List UInt8)(ts:List Trm)(lt:ts.length<2^30)(tn:List UInt8)(ms:List Mat)(lm:ms.length<2^30)(acs:List Actn)(la:acs.length<2^30)(d1:s≠cq)(d2:s≠cp)(d3:s≠bN)(hw:(ag s).1=dj)(ha:acs.length=0)(hf:Kn.fit ⟨pre.map PList.name,pa.map PathL.name,co.map ComL.name,po.map Pol.name++[nm]⟩)(x:Mat)(hm2:ic (ag s).2=some x)(hxp:x.pfx.ok)(hk:ms.length<64)(hc:mtE ⟨pre.map PList.name,pa.map PathL.name,co.map ComL.name,po.map Pol.name++[nm]⟩ x≠0):bh (aX (.term pre pa co po nm ts tn ms acs)) s ⟨.int .i64 (mtE ⟨pre.map PList.name,pa.map PathL.name,co.map ComL.name,po.map Pol.name++[nm]⟩ x),bv 4 (.term pre pa co po nm ts tn ms acs)⟩:=by
 have h:=V6 (pre.map PList.enc) (pa.map PathL.enc) (co.map ComL.enc) (po.map Pol.enc) (by simp) (by simp) (by simp) (by simp) (pre.map PList.name) (pa.map PathL.name) (co.map ComL.name) (po.map Pol.name++[nm]) 4 true nm 0 (po.length+1) (by simp) (by simpa using l4) ts lt tn ms lm acs la (ts.length+1) rfl s hs d1 d2 d3 hw ha hf x hm2 hxp hk hc
 simp only[bP,rP,At,Ar,List.length_singleton] at h;exact j3 s (mtE ⟨pre.map PList.name,pa.map PathL.name,co.map ComL.name,po.map Pol.name++[nm]⟩ x) h
theorem WZ (pre:List PList)(pa:List PathL)(co:List ComL)(po:List Pol)(s:List UInt8)(hs:s.length<2^30)(l1:pre.length<2^30)(l2:pa.length<2^30)(l3:co.length<2^30)(l4:po.length<2^30)(nm:List UInt8)(ts:List Trm)(lt:ts.length<2^30)(tn:List UInt8)(ms:List Mat)(lm:ms.length<2^30)(acs:List Actn)(la:acs.length<2^30)(d1:s≠cq)(d2:s≠cp)(d3:s≠bN)(hw:(ag s).1=dj)(ha:acs.length=0)(hf:Kn.fit ⟨pre.map PList.name,pa.map PathL.name,co.map ComL.name,po.map Pol.name++[nm]⟩)(x:Mat)(hm2:ic (ag s).2=some x)(hxp:x.pfx.ok)(hk:ms.length<64)(hc:mtE ⟨pre.map PList.name,pa.map PathL.name,co.map ComL.name,po.map Pol.name++[nm]⟩ x=0):bh (aX (.term pre pa co po nm ts tn ms acs)) s ⟨.int .i64 0,teM pre pa co po nm ts tn ms acs x⟩:=by
 have h:=YO (pre.map PList.enc) (pa.map PathL.enc) (co.map ComL.enc) (po.map Pol.enc) (by simp) (by simp) (by simp) (by simp) (pre.map PList.name) (pa.map PathL.name) (co.map ComL.name) (po.map Pol.name++[nm]) 4 true nm 0 (po.length+1) (by simp) (by simpa using l4) ts lt tn ms lm acs la (ts.length+1) rfl s hs d1 d2 d3 hw ha hf x hm2 hxp hk hc
 simp only[bP,rP,At,Ar,List.length_singleton] at h;exact qK s h
theorem QY (pre:List PList)(pa:List PathL)(co:List ComL)(po:List Pol)(s:List UInt8)(hs:s.length<2^30)(l1:pre.length<2^30)(l2:pa.length<2^30)(l3:co.length<2^30)(l4:po.length<2^30)(nm:List UInt8)(ts:List Trm)(lt:ts.length<2^30)(tn:List UInt8)(ms:List Mat)(lm:ms.length<2^30)(acs:List Actn)(la:acs.length<2^30)(d1:s≠cq)(d2:s≠cp)(d3:s≠bN)(hw:(ag s).1=iq)(hm2:jl (ag s).2=none):bh (aX (.term pre pa co po nm ts tn ms acs)) s ⟨.int .i64 2,bv 4 (.term pre pa co po nm ts tn ms acs)⟩:=by
 have h:=Wc (pre.map PList.enc) (pa.map PathL.enc) (co.map ComL.enc) (po.map Pol.enc) (by simp) (by simp) (by simp) (by simp) (pre.map PList.name) (pa.map PathL.name) (co.map ComL.name) (po.map Pol.name++[nm]) 4 true nm 0 (po.length+1) (by simp) (by simpa using l4) ts lt tn ms lm acs la (ts.length+1) rfl s hs d1 d2 d3 hw hm2
 simp only[bP,rP,At,Ar,List.length_singleton] at h;exact j3 s 2 h
theorem ND (pre:List PList)(pa:List PathL)(co:List ComL)(po:List Pol)(s:List UInt8)(hs:s.length<2^30)(l1:pre.length<2^30)(l2:pa.length<2^30)(l3:co.length<2^30)(l4:po.length<2^30)(nm:List UInt8)(ts:List Trm)(lt:ts.length<2^30)(tn:List UInt8)(ms:List Mat)(lm:ms.length<2^30)(acs:List Actn)(la:acs.length<2^30)(d1:s≠cq)(d2:s≠cp)(d3:s≠bN)(hw:(ag s).1=iq)(x:Actn)(hm2:jl (ag s).2=some x)(hk:64<=acs.length):bh (aX (.term pre pa co po nm ts tn ms acs)) s ⟨.int .i64 4,bv 4 (.term pre pa co po nm ts tn ms acs)⟩:=by
 have h:=Qj (pre.map PList.enc) (pa.map PathL.enc) (co.map ComL.enc) (po.map Pol.enc) (by simp) (by simp) (by simp) (by simp) (pre.map PList.name) (pa.map PathL.name) (co.map ComL.name) (po.map Pol.name++[nm]) 4 true nm 0 (po.length+1) (by simp) (by simpa using l4) ts lt tn ms lm acs la (ts.length+1) rfl s hs d1 d2 d3 hw x hm2 hk
 simp only[bP,rP,At,Ar,List.length_singleton] at h;exact j3 s 4 h
theorem QX (pre:List PList)(pa:List PathL)(co:List ComL)(po:List Pol)(s:List UInt8)(hs:s.length<2^30)(l1:pre.length<2^30)(l2:pa.length<2^30)(l3:co.length<2^30)(l4:po.length<2^30)(nm:List UInt8)(ts:List Trm)(lt:ts.length<2^30)(tn:List UInt8)(ms:List Mat)(lm:ms.length<2^30)(acs:List Actn)(la:acs.length<2^30)(d1:s≠cq)(d2:s≠cp)(d3:s≠bN)(hw:(ag s).1=iq)(x:Actn)(hm2:jl (ag s).2=some x)(hk:acs.length<64)(hc:il x≠0):bh (aX (.term pre pa co po nm ts tn ms acs)) s ⟨.int .i64 (il x),bv 4 (.term pre pa co po nm ts tn ms acs)⟩:=by
 have h:=Wb (pre.map PList.enc) (pa.map PathL.enc) (co.map ComL.enc) (po.map Pol.enc) (by simp) (by simp) (by simp) (by simp) (pre.map PList.name) (pa.map PathL.name) (co.map ComL.name) (po.map Pol.name++[nm]) 4 true nm 0 (po.length+1) (by simp) (by simpa using l4) ts lt tn ms lm acs la (ts.length+1) rfl s hs d1 d2 d3 hw x hm2 hk hc
 simp only[bP,rP,At,Ar,List.length_singleton] at h;exact j3 s (il x) h
theorem W5 (pre:List PList)(pa:List PathL)(co:List ComL)(po:List Pol)(s:List UInt8)(hs:s.length<2^30)(l1:pre.length<2^30)(l2:pa.length<2^30)(l3:co.length<2^30)(l4:po.length<2^30)(nm:List UInt8)(ts:List Trm)(lt:ts.length<2^30)(tn:List UInt8)(ms:List Mat)(lm:ms.length<2^30)(acs:List Actn)(la:acs.length<2^30)(d1:s≠cq)(d2:s≠cp)(d3:s≠bN)(hw:(ag s).1=iq)(x:Actn)(hm2:jl (ag s).2=some x)(hk:acs.length<64)(hc:il x=0):bh (aX (.term pre pa co po nm ts tn ms acs)) s ⟨.int .i64 0,teA pre pa co po nm ts tn ms acs x⟩:=by
 have h:=YP (pre.map PList.enc) (pa.map PathL.enc) (co.map ComL.enc) (po.map Pol.enc) (by simp) (by simp) (by simp) (by simp) (pre.map PList.name) (pa.map PathL.name) (co.map ComL.name) (po.map Pol.name++[nm]) 4 true nm 0 (po.length+1) (by simp) (by simpa using l4) ts lt tn ms lm acs la (ts.length+1) rfl s hs d1 d2 d3 hw x hm2 hk hc
 simp only[bP,rP,At,Ar,List.length_singleton] at h;exact qK s h
end Go.AM.IR
namespace Go.AM.IR
theorem je {α β:Type}{f:α->β}(h: ∀a b,f a=f b->a=b): ∀l r:List α,l.map f=r.map f->l=r
 | [],[],_=>rfl
 | [],_::_,e=>by simp at e
 |_::_,[],e=>by simp at e
 |a::l,b::r,e=>by
  simp only[Ao,List.cons.injEq] at e;rw[h _ _ e.1,je h l r e.2]
theorem RuleP.enc_i: ∀a b:RuleP,a.enc=b.enc->a=b:=by
 rintro ⟨a1,⟨a2,l2⟩,a3,a4⟩ ⟨a1',⟨a'2,l'2⟩,a3',a4'⟩ h
 simp only[RuleP.enc,List.cons.injEq,AV.str.injEq,AV.int.injEq,AV.bool.injEq,AV.sl.injEq,true_and,and_true] at h;obtain ⟨rfl,rfl,rfl,rfl,rfl⟩:=h;rfl
theorem PathR.enc_i: ∀a b:PathR,a.enc=b.enc->a=b:=by
 rintro ⟨a1,a2⟩ ⟨a1',a2'⟩ h
 simp only[PathR.enc,List.cons.injEq,AV.str.injEq,AV.int.injEq,AV.bool.injEq,AV.sl.injEq,true_and,and_true] at h;obtain ⟨rfl,rfl⟩:=h;rfl
theorem ComR.enc_i: ∀a b:ComR,a.enc=b.enc->a=b:=by
 rintro ⟨a1,a2,a3⟩ ⟨a1',a2',a3'⟩ h
 simp only[ComR.enc,List.cons.injEq,AV.str.injEq,AV.int.injEq,AV.bool.injEq,AV.sl.injEq,true_and,and_true] at h;obtain ⟨rfl,rfl,rfl⟩:=h;rfl
theorem Mat.enc_i: ∀a b:Mat,a.enc=b.enc->a=b:=by
 rintro ⟨a1,a2,a3,⟨a4,l4⟩,a5⟩ ⟨a1',a2',a3',⟨a'4,l'4⟩,a5'⟩ h
 simp only[Mat.enc,List.cons.injEq,AV.str.injEq,AV.int.injEq,AV.bool.injEq,AV.sl.injEq,true_and,and_true] at h;obtain ⟨rfl,rfl,rfl,rfl,rfl,rfl⟩:=h;rfl
theorem Actn.enc_i: ∀a b:Actn,a.enc=b.enc->a=b:=by
 rintro ⟨a1,a2,a3,a4,a5⟩ ⟨a1',a2',a3',a4',a5'⟩ h
 simp only[Actn.enc,List.cons.injEq,AV.str.injEq,AV.int.injEq,AV.bool.injEq,AV.sl.injEq,true_and,and_true] at h;obtain ⟨rfl,rfl,rfl,rfl,rfl⟩:=h;rfl
theorem PList.enc_i: ∀a b:PList,a.enc=b.enc->a=b:=by
 rintro ⟨a1,a2⟩ ⟨a1',a2'⟩ h
 simp only[PList.enc,List.cons.injEq,AV.str.injEq,AV.int.injEq,AV.bool.injEq,AV.sl.injEq,true_and,and_true] at h;obtain ⟨rfl,xh⟩:=h;have xh:=je RuleP.enc_i _ _ xh;subst xh;rfl
theorem PathL.enc_i: ∀a b:PathL,a.enc=b.enc->a=b:=by
 rintro ⟨a1,a2⟩ ⟨a1',a2'⟩ h
 simp only[PathL.enc,List.cons.injEq,AV.str.injEq,AV.int.injEq,AV.bool.injEq,AV.sl.injEq,true_and,and_true] at h;obtain ⟨rfl,xh⟩:=h;have xh:=je PathR.enc_i _ _ xh;subst xh;rfl
theorem ComL.enc_i: ∀a b:ComL,a.enc=b.enc->a=b:=by
 rintro ⟨a1,a2⟩ ⟨a1',a2'⟩ h
 simp only[ComL.enc,List.cons.injEq,AV.str.injEq,AV.int.injEq,AV.bool.injEq,AV.sl.injEq,true_and,and_true] at h;obtain ⟨rfl,xh⟩:=h;have xh:=je ComR.enc_i _ _ xh;subst xh;rfl
theorem Trm.enc_i: ∀a b:Trm,a.enc=b.enc->a=b:=by
 rintro ⟨a1,a2,a3,a4⟩ ⟨a1',a2',a3',a4'⟩ h
 simp only[Trm.enc,List.cons.injEq,AV.str.injEq,AV.int.injEq,AV.bool.injEq,AV.sl.injEq,true_and,and_true] at h;obtain ⟨rfl,xh,yh,rfl⟩:=h;have xh:=je Mat.enc_i _ _ xh;subst xh;have yh:=je Actn.enc_i _ _ yh;subst yh;rfl
theorem Pol.enc_i: ∀a b:Pol,a.enc=b.enc->a=b:=by
 rintro ⟨a1,a2,a3⟩ ⟨a1',a2',a3'⟩ h
 simp only[Pol.enc,List.cons.injEq,AV.str.injEq,AV.int.injEq,AV.bool.injEq,AV.sl.injEq,true_and,and_true] at h;obtain ⟨rfl,xh,rfl⟩:=h;have xh:=je Trm.enc_i _ _ xh;subst xh;rfl
end Go.AM.IR
namespace Go.AM.IR
theorem acb {α:Type}{a b:List α}{x y:α}:a++[x]=b++[y]↔a=b/\x=y:=by
 constructor
 ·intro h
  obtain ⟨h1,h2⟩:=List.append_inj' h rfl;exact ⟨h1,by simpa using h2⟩
 ·rintro ⟨rfl,rfl⟩;rfl
theorem RuleP.mapE (l r:List RuleP):l.map RuleP.enc=r.map RuleP.enc↔l=r:=⟨je RuleP.enc_i l r,λh=>by rw[h]⟩
theorem PathR.mapE (l r:List PathR):l.map PathR.enc=r.map PathR.enc↔l=r:=⟨je PathR.enc_i l r,λh=>by rw[h]⟩
theorem ComR.mapE (l r:List ComR):l.map ComR.enc=r.map ComR.enc↔l=r:=⟨je ComR.enc_i l r,λh=>by rw[h]⟩
theorem Mat.mapE (l r:List Mat):l.map Mat.enc=r.map Mat.enc↔l=r:=⟨je Mat.enc_i l r,λh=>by rw[h]⟩
theorem Actn.mapE (l r:List Actn):l.map Actn.enc=r.map Actn.enc↔l=r:=⟨je Actn.enc_i l r,λh=>by rw[h]⟩
theorem PList.mapE (l r:List PList):l.map PList.enc=r.map PList.enc↔l=r:=⟨je PList.enc_i l r,λh=>by rw[h]⟩
theorem PathL.mapE (l r:List PathL):l.map PathL.enc=r.map PathL.enc↔l=r:=⟨je PathL.enc_i l r,λh=>by rw[h]⟩
theorem ComL.mapE (l r:List ComL):l.map ComL.enc=r.map ComL.enc↔l=r:=⟨je ComL.enc_i l r,λh=>by rw[h]⟩
theorem Trm.mapE (l r:List Trm):l.map Trm.enc=r.map Trm.enc↔l=r:=⟨je Trm.enc_i l r,λh=>by rw[h]⟩
theorem Pol.mapE (l r:List Pol):l.map Pol.enc=r.map Pol.enc↔l=r:=⟨je Pol.enc_i l r,λh=>by rw[h]⟩
theorem Rq (a b:PS)(h:aX a=aX b):a=b:=by
 cases a<;>cases b<;>simp only[aX,List.cons.injEq,Blk.cells.injEq,Blk.vec.injEq,AV.vs.injEq,AV.int.injEq,AV.bool.injEq,AV.str.injEq,acb,RuleP.mapE,PathR.mapE,ComR.mapE,Mat.mapE,Actn.mapE,PList.mapE,PathL.mapE,ComL.mapE,Trm.mapE,Pol.mapE,true_and,and_true,reduceCtorEq,false_and,and_false] at h
 all_goals first
  |(exfalso;revert h;decide)
  |(exfalso;omega)
  |simp only[PS.top.injEq,PS.pre.injEq,PS.pat.injEq,PS.com.injEq,PS.pol.injEq,PS.term.injEq,h,and_self]
end Go.AM.IR
namespace Go.AM.IR
theorem Ju {h t:List UInt8}{ng:Bool}{x:Mat}(e:qY h t ng=some x):x.pfx.ok:=by
 have z:Pfx.ok ⟨0,0⟩:=⟨by unfold okU;simp,by unfold okI;simp⟩
 have hN: ∀k o,ix k ng o=some x->x.pfx.ok:=λk o e=>by
  unfold ix at e;cases o with
  |none=>cases e
  |some n=>injection e with e;subst e;exact z
 unfold qY at e;split at e
 ·injection e with e;subst e;exact z
 ·split at e
  ·injection e with e;subst e;exact z
  ·split at e
   ·injection e with e;subst e;exact z
   ·split at e
    ·exact hN _ _ e
    ·split at e
     ·exact hN _ _ e
     ·split at e
      ·exact hN _ _ e
      ·split at e
       ·exact hN _ _ e
       ·split at e
        ·split at e
         ·rename_i hp
          injection e with e;subst e;exact J.psP_ok hp
         ·cases e
        ·cases e
theorem Jt {s:List UInt8}{x:Mat}(e:ic s=some x):x.pfx.ok:=by
 unfold ic qX at e
 repeat' split at e
 all_goals first
  |exact Ju e
  |cases e
def rE (e z:Int)(st:PS):Ret:=⟨.int .i64 e,bv z st⟩
def rO (R:List (Bool×Blk)):Ret:=⟨.int .i64 0,R⟩
def ki (st:PS)(so k:Int)(ks:List (List UInt8))(t:List UInt8)(R:List (Bool×Blk)):Ret:=
 if¬so<=k then rE 2 so st else if¬bg t=true then rE 2 so st else if 64<=ks.length then rE 4 k st else if bq ks t≠0 then rE (bq ks t) k st else rO R
def rdT:PS->List UInt8->Ret
 | .top pre pa co po so,s=>if br (ag s).1=0 then rE 2 so (.top pre pa co po so)
   else if (ag s).1=cn then ki (.top pre pa co po so) so 1 (pre.map PList.name) (ag s).2 (xA pre pa co po (ag s).2)
   else if (ag s).1=cm then ki (.top pre pa co po so) so 2 (pa.map PathL.name) (ag s).2 (xz pre pa co po (ag s).2)
   else if (ag s).1=ck then ki (.top pre pa co po so) so 3 (co.map ComL.name) (ag s).2 (xy pre pa co po (ag s).2)
   else ki (.top pre pa co po so) so 4 (po.map Pol.name) (ag s).2 (xx pre pa co po (ag s).2)
 | .pre pre pa co po nm rl,s=>if (J.plP s).2≠0 then rE 2 0 (.pre pre pa co po nm rl) else if 64<=rl.length then rE 4 0 (.pre pre pa co po nm rl) else rO (B6 pre pa co po nm rl ⟨(J.plP s).1.permit,(J.plP s).1.pfx,(J.plP s).1.min,(J.plP s).1.max⟩)
 | .pat pre pa co po nm rl,s=>match cR s with
   |none=>rE 2 0 (.pat pre pa co po nm rl)
   |some (b,t)=>if (fu t).isSome=true then (if 64<=rl.length then rE 4 0 (.pat pre pa co po nm rl) else rO (B5 pre pa co po nm rl ⟨b,t⟩)) else rE 2 0 (.pat pre pa co po nm rl)
 | .com pre pa co po nm rl,s=>match cR s with
   |none=>rE 2 0 (.com pre pa co po nm rl)
   |some (b,t)=>if (dH b t rl.length).1=0 then rO (BZ pre pa co po nm rl (dH b t rl.length).2) else rE (dH b t rl.length).1 0 (.com pre pa co po nm rl)
 | .pol pre pa co po nm ts,s=>if s=fF then rO (plR pre pa co po nm ts 1) else if s=fE then rO (plR pre pa co po nm ts 2) else
   if (ag s).1≠dX then rE 2 4 (.pol pre pa co po nm ts) else if¬bg (ag s).2=true then rE 2 4 (.pol pre pa co po nm ts) else if 64<=ts.length then rE 4 4 (.pol pre pa co po nm ts) else
   if (eT ⟨pre.map PList.name,pa.map PathL.name,co.map ComL.name,po.map Pol.name++[nm]⟩ ts ⟨(ag s).2,[],[],1⟩)≠0 then rE (eT ⟨pre.map PList.name,pa.map PathL.name,co.map ComL.name,po.map Pol.name++[nm]⟩ ts ⟨(ag s).2,[],[],1⟩) 4 (.pol pre pa co po nm ts) else rO (CR pre pa co po nm ts (ag s).2)
 | .term pre pa co po nm ts tn ms acs,s=>if s=cq then rO (teR pre pa co po nm ts tn ms acs 1) else if s=cp then rO (teR pre pa co po nm ts tn ms acs 2) else if s=bN then rO (teR pre pa co po nm ts tn ms acs 3) else
   if (ag s).1=dj then (if acs.length≠0 then rE 2 4 (.term pre pa co po nm ts tn ms acs) else match ic (ag s).2 with
    |none=>rE 2 4 (.term pre pa co po nm ts tn ms acs)
    |some x=>if 64<=ms.length then rE 4 4 (.term pre pa co po nm ts tn ms acs) else if (mtE ⟨pre.map PList.name,pa.map PathL.name,co.map ComL.name,po.map Pol.name++[nm]⟩ x)≠0 then rE (mtE ⟨pre.map PList.name,pa.map PathL.name,co.map ComL.name,po.map Pol.name++[nm]⟩ x) 4 (.term pre pa co po nm ts tn ms acs) else rO (teM pre pa co po nm ts tn ms acs x)) else
   if (ag s).1=iq then (match jl (ag s).2 with
    |none=>rE 2 4 (.term pre pa co po nm ts tn ms acs)
    |some x=>if 64<=acs.length then rE 4 4 (.term pre pa co po nm ts tn ms acs) else if il x≠0 then rE (il x) 4 (.term pre pa co po nm ts tn ms acs) else rO (teA pre pa co po nm ts tn ms acs x)) else rE 2 4 (.term pre pa co po nm ts tn ms acs)
def PS.fit:PS->Prop
 | .top p1 pa co po _=>p1.length<2^30/\pa.length<2^30/\co.length<2^30/\po.length<2^30
 | .pre p1 pa co po _ _| .pat p1 pa co po _ _| .com p1 pa co po _ _=>p1.length<2^30/\pa.length<2^30/\co.length<2^30/\po.length<2^30
 | .pol p1 pa co po _ ts=>p1.length<2^30/\pa.length<2^30/\co.length<2^30/\po.length<2^30/\ts.length<2^30
 | .term p1 pa co po _ ts _ ms acs=>p1.length<2^30/\pa.length<2^30/\co.length<2^30/\po.length<2^30/\ts.length<2^30/\ms.length<2^30/\acs.length<2^30
def PS.shut:PS->List UInt8->Prop
 | .top _ _ _ _ so,s=>br (ag s).1=0->so≠1/\so≠2/\so≠3
 | .pre ..,s| .pat ..,s| .com ..,s=>br (ag s).1=0
 |_,_=>True
theorem Ox {pre:List PList}{pa:List PathL}{co:List ComL}{po:List Pol}{nm:List UInt8}(l1:pre.length<2^30)(l2:pa.length<2^30)(l3:co.length<2^30)(l4:po.length<2^30):Kn.fit ⟨pre.map PList.name,pa.map PathL.name,co.map ComL.name,po.map Pol.name++[nm]⟩:=
 ⟨by simp only[At];omega,by simp only[At];omega,by simp only[At];omega,by simp only[At,Ar,List.length_singleton];omega⟩
theorem QR (pre:List PList)(pa:List PathL)(co:List ComL)(po:List Pol)(so:Int)(s:List UInt8)(hs:s.length<2^30)(l1:pre.length<2^30)(l2:pa.length<2^30)(l3:co.length<2^30)(l4:po.length<2^30)(t:List UInt8)(hc:ag s=(cn,t)):bh (aX (.top pre pa co po so)) s (ki (.top pre pa co po so) so 1 (pre.map PList.name) t (xA pre pa co po t)):=by
 unfold ki
 by_cases h:so<=1
 ·rw[Ac (λq=>q h)]
  by_cases ho:bg t=true
  ·rw[Ac (λq=>q ho)]
   by_cases hk:64<=(pre.map PList.name).length
   ·rw[Ad hk];exact NB pre pa co po so s hs l1 l2 l3 l4 t hc h ho hk
   ·rw[Ac hk]
    by_cases hn:bq (pre.map PList.name) t=0
    ·rw[Ac (λq=>q hn)];exact WL pre pa co po so s hs l1 l2 l3 l4 t hc h ho (by omega) hn
    ·rw[Ad hn];exact Nw pre pa co po so s hs l1 l2 l3 l4 t hc h ho (by omega) hn
  ·rw[Ad ho];exact Ns pre pa co po so s hs l1 l2 l3 l4 t hc h ho
 ·rw[Ad h];exact WQ pre pa co po so s hs l1 l2 l3 l4 t hc h
theorem QQ (pre:List PList)(pa:List PathL)(co:List ComL)(po:List Pol)(so:Int)(s:List UInt8)(hs:s.length<2^30)(l1:pre.length<2^30)(l2:pa.length<2^30)(l3:co.length<2^30)(l4:po.length<2^30)(t:List UInt8)(hc:ag s=(cm,t)):bh (aX (.top pre pa co po so)) s (ki (.top pre pa co po so) so 2 (pa.map PathL.name) t (xz pre pa co po t)):=by
 unfold ki
 by_cases h:so<=2
 ·rw[Ac (λq=>q h)]
  by_cases ho:bg t=true
  ·rw[Ac (λq=>q ho)]
   by_cases hk:64<=(pa.map PathL.name).length
   ·rw[Ad hk];exact NA pre pa co po so s hs l1 l2 l3 l4 t hc h ho hk
   ·rw[Ac hk]
    by_cases hn:bq (pa.map PathL.name) t=0
    ·rw[Ac (λq=>q hn)];exact WH pre pa co po so s hs l1 l2 l3 l4 t hc h ho (by omega) hn
    ·rw[Ad hn];exact Nv pre pa co po so s hs l1 l2 l3 l4 t hc h ho (by omega) hn
  ·rw[Ad ho];exact Nr pre pa co po so s hs l1 l2 l3 l4 t hc h ho
 ·rw[Ad h];exact WO pre pa co po so s hs l1 l2 l3 l4 t hc h
theorem QP (pre:List PList)(pa:List PathL)(co:List ComL)(po:List Pol)(so:Int)(s:List UInt8)(hs:s.length<2^30)(l1:pre.length<2^30)(l2:pa.length<2^30)(l3:co.length<2^30)(l4:po.length<2^30)(t:List UInt8)(hc:ag s=(ck,t)):bh (aX (.top pre pa co po so)) s (ki (.top pre pa co po so) so 3 (co.map ComL.name) t (xy pre pa co po t)):=by
 unfold ki
 by_cases h:so<=3
 ·rw[Ac (λq=>q h)]
  by_cases ho:bg t=true
  ·rw[Ac (λq=>q ho)]
   by_cases hk:64<=(co.map ComL.name).length
   ·rw[Ad hk];exact Ny pre pa co po so s hs l1 l2 l3 l4 t hc h ho hk
   ·rw[Ac hk]
    by_cases hn:bq (co.map ComL.name) t=0
    ·rw[Ac (λq=>q hn)];exact WG pre pa co po so s hs l1 l2 l3 l4 t hc h ho (by omega) hn
    ·rw[Ad hn];exact Nu pre pa co po so s hs l1 l2 l3 l4 t hc h ho (by omega) hn
  ·rw[Ad ho];exact Nq pre pa co po so s hs l1 l2 l3 l4 t hc h ho
 ·rw[Ad h];exact WN pre pa co po so s hs l1 l2 l3 l4 t hc h
theorem QN (pre:List PList)(pa:List PathL)(co:List ComL)(po:List Pol)(so:Int)(s:List UInt8)(hs:s.length<2^30)(l1:pre.length<2^30)(l2:pa.length<2^30)(l3:co.length<2^30)(l4:po.length<2^30)(t:List UInt8)(hc:ag s=(fg,t)):bh (aX (.top pre pa co po so)) s (ki (.top pre pa co po so) so 4 (po.map Pol.name) t (xx pre pa co po t)):=by
 unfold ki
 by_cases h:so<=4
 ·rw[Ac (λq=>q h)]
  by_cases ho:bg t=true
  ·rw[Ac (λq=>q ho)]
   by_cases hk:64<=(po.map Pol.name).length
   ·rw[Ad hk];exact Nx pre pa co po so s hs l1 l2 l3 l4 t hc h ho hk
   ·rw[Ac hk]
    by_cases hn:bq (po.map Pol.name) t=0
    ·rw[Ac (λq=>q hn)];exact WE pre pa co po so s hs l1 l2 l3 l4 t hc h ho (by omega) hn
    ·rw[Ad hn];exact Nt pre pa co po so s hs l1 l2 l3 l4 t hc h ho (by omega) hn
  ·rw[Ad ho];exact Nl pre pa co po so s hs l1 l2 l3 l4 t hc h ho
 ·rw[Ad h];exact WM pre pa co po so s hs l1 l2 l3 l4 t hc h
theorem Vz {w:List UInt8}(h:br w≠0)(h1:w≠cn)(h2:w≠cm)(h3:w≠ck):w=fg:=by
 unfold br at h;rw[Ac h1,Ac h2,Ac h3] at h
 by_cases h4:w=fg
 ·exact h4
 ·rw[Ac h4] at h;exact absurd rfl h
theorem QM (st:PS)(s:List UInt8)(hs:s.length<2^30)(hf:st.fit)(hsh:st.shut s):bh (aX st) s (rdT st s):=by
 cases st with
 |top pre pa co po so=>
  obtain ⟨l1,l2,l3,l4⟩:=hf;simp only[rdT]
  by_cases h0:br (ag s).1=0
  ·rw[Ad h0];exact WT pre pa co po so s hs l1 l2 l3 l4 h0 (hsh h0).1 (hsh h0).2.1 (hsh h0).2.2
  ·rw[Ac h0]
   by_cases h1:(ag s).1=cn
   ·rw[Ad h1];exact QR pre pa co po so s hs l1 l2 l3 l4 _ (Prod.ext h1 rfl)
   ·rw[Ac h1]
    by_cases h2:(ag s).1=cm
    ·rw[Ad h2];exact QQ pre pa co po so s hs l1 l2 l3 l4 _ (Prod.ext h2 rfl)
    ·rw[Ac h2]
     by_cases h3:(ag s).1=ck
     ·rw[Ad h3];exact QP pre pa co po so s hs l1 l2 l3 l4 _ (Prod.ext h3 rfl)
     ·rw[Ac h3];exact QN pre pa co po so s hs l1 l2 l3 l4 _ (Prod.ext (Vz h0 h1 h2 h3) rfl)
 |pre pre pa co po nm rl=>
  obtain ⟨l1,l2,l3,l4⟩:=hf;simp only[rdT]
  by_cases h1:(J.plP s).2=0
  ·rw[Ac (λq=>q h1)]
   by_cases h2:64<=rl.length
   ·rw[Ad h2];exact Rj pre pa co po s hs l1 l2 l3 l4 nm rl hsh h1 h2
   ·rw[Ac h2];exact Zx pre pa co po s hs l1 l2 l3 l4 nm rl hsh h1 (by omega)
  ·rw[Ad h1];exact W8 pre pa co po s hs l1 l2 l3 l4 nm rl hsh h1
 |pat pre pa co po nm rl=>
  obtain ⟨l1,l2,l3,l4⟩:=hf;simp only[rdT];rcases hP:cR s with _|⟨b,t⟩
  ·exact Rh pre pa co po s hs l1 l2 l3 l4 nm rl hsh hP
  ·dsimp only
   by_cases h1:(fu t).isSome=true
   ·rw[Ad h1]
    by_cases h2:64<=rl.length
    ·rw[Ad h2];exact Ri pre pa co po s hs l1 l2 l3 l4 nm rl hsh b t hP h1 h2
    ·rw[Ac h2];exact Zw pre pa co po s hs l1 l2 l3 l4 nm rl hsh b t hP h1 (by omega)
   ·rw[Ac h1];exact W7 pre pa co po s hs l1 l2 l3 l4 nm rl hsh b t hP (by simpa using h1)
 |com pre pa co po nm rl=>
  obtain ⟨l1,l2,l3,l4⟩:=hf;simp only[rdT];rcases hP:cR s with _|⟨b,t⟩
  ·exact Rf pre pa co po s hs l1 l2 l3 l4 nm rl hsh hP
  ·dsimp only
   by_cases h1:(dH b t rl.length).1=0
   ·rw[Ad h1];exact Zt pre pa co po s hs l1 l2 l3 l4 nm rl hsh b t hP h1
   ·rw[Ac h1];exact W6 pre pa co po s hs l1 l2 l3 l4 nm rl hsh b t hP h1
 |pol pre pa co po nm ts=>
  obtain ⟨l1,l2,l3,l4,lt⟩:=hf;have hf:=Ox (nm:=nm) l1 l2 l3 l4;simp only[rdT]
  by_cases d1:s=fF
  ·rw[Ad d1];exact Zr pre pa co po s hs l1 l2 l3 l4 nm ts lt d1
  rw[Ac d1]
  by_cases d2:s=fE
  ·rw[Ad d2];exact Zq pre pa co po s hs l1 l2 l3 l4 nm ts lt d2
  rw[Ac d2]
  by_cases hw:(ag s).1=dX
  ·rw[Ac (λq=>q hw)]
   by_cases ho:bg (ag s).2=true
   ·rw[Ac (λq=>q ho)]
    by_cases hk:64<=ts.length
    ·rw[Ad hk];exact Rc pre pa co po s hs l1 l2 l3 l4 nm ts lt d1 d2 hw ho hk
    ·rw[Ac hk]
     split
     ·rename_i hc;exact Ra pre pa co po s hs l1 l2 l3 l4 nm ts lt hf d1 d2 hw ho (by omega) hc
     ·rename_i hc;exact Zp pre pa co po s hs l1 l2 l3 l4 nm ts lt hf d1 d2 hw ho (by omega) (AF.mp hc)
   ·rw[Ad ho];exact QZ pre pa co po s hs l1 l2 l3 l4 nm ts lt d1 d2 hw ho
  ·rw[Ad hw];exact Re pre pa co po s hs l1 l2 l3 l4 nm ts lt d1 d2 hw
 |term pre pa co po nm ts tn ms acs=>
  obtain ⟨l1,l2,l3,l4,lt,lm,la⟩:=hf;have hf:=Ox (nm:=nm) l1 l2 l3 l4;simp only[rdT]
  by_cases d1:s=cq
  ·rw[Ad d1];exact Zo pre pa co po s hs l1 l2 l3 l4 nm ts lt tn ms lm acs la d1
  rw[Ac d1]
  by_cases d2:s=cp
  ·rw[Ad d2];exact Zn pre pa co po s hs l1 l2 l3 l4 nm ts lt tn ms lm acs la d2
  rw[Ac d2]
  by_cases d3:s=bN
  ·rw[Ad d3];exact Zm pre pa co po s hs l1 l2 l3 l4 nm ts lt tn ms lm acs la d3
  rw[Ac d3]
  by_cases hw:(ag s).1=dj
  ·rw[Ad hw]
   by_cases ha:acs.length=0
   ·rw[Ac (λq=>q ha)]
    rcases hm:ic (ag s).2 with _|x
    ·exact QU pre pa co po s hs l1 l2 l3 l4 nm ts lt tn ms lm acs la d1 d2 d3 hw ha hm
    ·dsimp only
     by_cases hk:64<=ms.length
     ·rw[Ad hk];exact NC pre pa co po s hs l1 l2 l3 l4 nm ts lt tn ms lm acs la d1 d2 d3 hw ha x hm hk
     ·rw[Ac hk]
      split
      ·rename_i hc;exact QT pre pa co po s hs l1 l2 l3 l4 nm ts lt tn ms lm acs la d1 d2 d3 hw ha hf x hm (Jt hm) (by omega) hc
      ·rename_i hc;exact WZ pre pa co po s hs l1 l2 l3 l4 nm ts lt tn ms lm acs la d1 d2 d3 hw ha hf x hm (Jt hm) (by omega) (AF.mp hc)
   ·rw[Ad ha];exact QV pre pa co po s hs l1 l2 l3 l4 nm ts lt tn ms lm acs la d1 d2 d3 hw (λq=>ha (by rw[q];rfl))
  ·rw[Ac hw]
   by_cases hw2:(ag s).1=iq
   ·rw[Ad hw2]
    rcases hm:jl (ag s).2 with _|x
    ·exact QY pre pa co po s hs l1 l2 l3 l4 nm ts lt tn ms lm acs la d1 d2 d3 hw2 hm
    ·dsimp only
     by_cases hk:64<=acs.length
     ·rw[Ad hk];exact ND pre pa co po s hs l1 l2 l3 l4 nm ts lt tn ms lm acs la d1 d2 d3 hw2 x hm hk
     ·rw[Ac hk]
      split
      ·rename_i hc;exact QX pre pa co po s hs l1 l2 l3 l4 nm ts lt tn ms lm acs la d1 d2 d3 hw2 x hm (by omega) hc
      ·rename_i hc;exact W5 pre pa co po s hs l1 l2 l3 l4 nm ts lt tn ms lm acs la d1 d2 d3 hw2 x hm (by omega) (AF.mp hc)
   ·rw[Ac hw2];exact QW pre pa co po s hs l1 l2 l3 l4 nm ts lt tn ms lm acs la d1 d2 d3 hw hw2
end Go.AM.IR
namespace Go.AM.IR
open Classical in
noncomputable def uM (bs:List Blk)(s:List UInt8):Option Ret:=if h: ∃st,aX st=bs/\bh (aX st) s (rdT st s) then some (rdT (Classical.choose h) s) else none
noncomputable def pRd:List AV->List Blk->Option Ret
 | [.ref 0 0 0,.str s],bs=>uM bs s
 |_,_=>none
theorem ZO {st:PS}{s:List UInt8}(h:bh (aX st) s (rdT st s)):pRd [.ref 0 0 0,.str s] (aX st)=some (rdT st s):=by
 have hx: ∃st',aX st'=aX st/\bh (aX st') s (rdT st' s):=⟨st,rfl,h⟩
 show uM (aX st) s=_
 unfold uM;rw[dif_pos hx,Rq _ _ (Classical.choose_spec hx).1]
theorem ZN {args:List AV}{bs:List Blk}{t:Ret}(h:pRd args bs=some t): ∃s,args= [.ref 0 0 0,.str s]/\bh bs s t:=by
 unfold pRd at h;split at h
 ·rename_i s
  unfold uM at h;split at h
  ·rename_i hx
   injection h with h
   obtain ⟨h1,h2⟩:=Classical.choose_spec hx;subst h;rw[h1] at h2;exact ⟨s,rfl,h2⟩
  ·cases h
 ·cases h
theorem RH {P:Program}{N:Nums}(hG:GOk P N G)(hm:P.follows .mixedOrders=true){f:Nat}{fn:Func}(hfn:P.funcs[N.num f]? =some fn)(hc:ky P N fn=some KR)
  (hD: ∀(C:Ctx)(cs:Array Value),cs.size=1->C.num=N.num->C.tnum=N.tnum->C.dfr= [{target:=.fn (.func (N.num 540)) cs,args:= #[]}]->C.dval= .func (.func (N.num 540)) #[] cs->DSem P C fn J7)
  : ∀args bs t,pRd args bs=some t->eF P N f args bs t:=by
 intro args bs t h;obtain ⟨s,rfl,A,caps,hA,hd,hcl,hE⟩:=ZN h;exact vH hG hm hfn hc (by decide) (λC cs h0=>hD C cs (by rw[h0];exact hcl)) rfl hA hd hE
noncomputable def GR (f:Nat):Fun:=bif Nat.beq f 466 then .prim false pRd else G f
end Go.AM.IR
namespace Go.AM.IR
def PS.close:PS->List UInt8->PS
 | .pre p1 pa co po nm rl,s=>if br (ag s).1=0 then .pre p1 pa co po nm rl else .top (p1++[⟨nm,rl⟩]) pa co po 1
 | .pat p1 pa co po nm rl,s=>if br (ag s).1=0 then .pat p1 pa co po nm rl else .top p1 (pa++[⟨nm,rl⟩]) co po 2
 | .com p1 pa co po nm rl,s=>if br (ag s).1=0 then .com p1 pa co po nm rl else .top p1 pa (co++[⟨nm,rl⟩]) po 3
 |st,_=>st
inductive OkR:PS->PS->List (Bool×Blk)->Prop
 |h1 (pre pa co po so t):OkR (.top pre pa co po so) (.pre pre pa co po t []) (xA pre pa co po t)
 |h2 (pre pa co po so t):OkR (.top pre pa co po so) (.pat pre pa co po t []) (xz pre pa co po t)
 |h3 (pre pa co po so t):OkR (.top pre pa co po so) (.com pre pa co po t []) (xy pre pa co po t)
 |h4 (pre pa co po so t):OkR (.top pre pa co po so) (.pol pre pa co po t []) (xx pre pa co po t)
 |r1 (pre pa co po nm rl x):rl.length<64->OkR (.pre pre pa co po nm rl) (.pre pre pa co po nm (rl++[x])) (B6 pre pa co po nm rl x)
 |r2 (pre pa co po nm rl x):rl.length<64->OkR (.pat pre pa co po nm rl) (.pat pre pa co po nm (rl++[x])) (B5 pre pa co po nm rl x)
 |r3 (pre pa co po nm rl x):OkR (.com pre pa co po nm rl) (.com pre pa co po nm (rl++[x])) (BZ pre pa co po nm rl x)
 |pl (pre pa co po nm ts v):OkR (.pol pre pa co po nm ts) (.top pre pa co (po++[⟨nm,ts,v⟩]) 4) (plR pre pa co po nm ts v)
 |pt (pre pa co po nm ts t):ts.length<64->OkR (.pol pre pa co po nm ts) (.term pre pa co po nm ts t [] []) (CR pre pa co po nm ts t)
 |te (pre pa co po nm ts tn ms acs v):OkR (.term pre pa co po nm ts tn ms acs) (.pol pre pa co po nm (ts++[⟨tn,ms,acs,v⟩])) (teR pre pa co po nm ts tn ms acs v)
 |tm (pre pa co po nm ts tn ms acs x):ms.length<64->OkR (.term pre pa co po nm ts tn ms acs) (.term pre pa co po nm ts tn (ms++[x]) acs) (teM pre pa co po nm ts tn ms acs x)
 |ta (pre pa co po nm ts tn ms acs x):acs.length<64->OkR (.term pre pa co po nm ts tn ms acs) (.term pre pa co po nm ts tn ms (acs++[x])) (teA pre pa co po nm ts tn ms acs x)
def qi (o:PO)(st:PS)(r:Ret):Prop:=(∃e z,e≠0/\o= .err e/\r=rE e z st)∨ ∃st' R,o= .ok st'/\r=rO R/\OkR st st' R
theorem cg {st:PS}{e z:Int}(h:e≠0):qi (.err e) st (rE e z st):=.inl ⟨e,z,h,rfl,rfl⟩
theorem gq {st st':PS}{R:List (Bool×Blk)}(h:OkR st st' R):qi (.ok st') st (rO R):=.inr ⟨st',R,rfl,rfl,h⟩
theorem nn1 {p:Prop}(h:p): ¬ ¬p:=λq=>q h
theorem nn2 {α:Type}{a b:α}(h:a=b): ¬(a≠b):=λq=>q h
theorem r5 {st st':PS}{so k:Int}{ks:List (List UInt8)}{t:List UInt8}{R:List (Bool×Blk)}(h:OkR st st' R):qi (hdO (hdE so k ks t) st') st (ki st so k ks t R):=by
 unfold hdO hdE ki
 by_cases h1:so<=k
 ·simp only[Ac (nn1 h1)]
  by_cases h2:bg t=true
  ·simp only[Ac (nn1 h2)]
   by_cases h3:64<=ks.length
   ·simp only[Ad h3,Ac (show¬(4:Int)=0 by decide)];exact cg (by decide)
   ·simp only[Ac h3]
    by_cases h4:bq ks t=0
    ·simp only[Ad h4,Ac (nn2 h4)];exact gq h
    ·simp only[Ac h4,Ad h4];exact cg h4
  ·simp only[Ad h2,Ac (show¬(2:Int)=0 by decide)];exact cg (by decide)
 ·simp only[Ad h1,Ac (show¬(2:Int)=0 by decide)];exact cg (by decide)
theorem r6 (pre pa co po so) (s:List UInt8) (h0:br (ag s).1≠0):qi (lu pre pa co po so (ag s).1 (ag s).2) (.top pre pa co po so) (rdT (.top pre pa co po so) s):=by
 simp only[rdT,lu];simp only[Ac h0]
 by_cases h1:(ag s).1=cn
 ·simp only[Ad h1];exact r5 (.h1 ..)
 simp only[Ac h1]
 by_cases h2:(ag s).1=cm
 ·simp only[Ad h2];exact r5 (.h2 ..)
 simp only[Ac h2]
 by_cases h3:(ag s).1=ck
 ·simp only[Ad h3];exact r5 (.h3 ..)
 ·simp only[Ac h3];exact r5 (.h4 ..)
theorem wL (st:PS)(s:List UInt8):qi (dp st s) (st.close s) (rdT (st.close s) s):=by
 cases st with
 |top pre pa co po so=>
  simp only[dp,PS.close]
  by_cases h0:br (ag s).1=0
  ·simp only[Ad h0];simp only[rdT];simp only[Ad h0];exact cg (by decide)
  ·simp only[Ac h0];exact r6 _ _ _ _ _ s h0
 |pre pre pa co po nm rl=>
  simp only[dp,PS.close]
  by_cases h0:br (ag s).1=0
  ·simp only[Ad h0];simp only[rdT]
   by_cases h1:(J.plP s).2=0
   ·simp only[Ac (nn2 h1)]
    by_cases h2:64<=rl.length
    ·simp only[Ad h2];exact cg (by decide)
    ·simp only[Ac h2];exact gq (.r1 _ _ _ _ _ _ _ (by omega))
   ·simp only[Ad h1];exact cg (by decide)
  ·simp only[Ac h0];exact r6 _ _ _ _ _ s h0
 |pat pre pa co po nm rl=>
  simp only[dp,PS.close]
  by_cases h0:br (ag s).1=0
  ·simp only[Ad h0];simp only[rdT]
   rcases hP:cR s with _|⟨b,t⟩
   ·exact cg (by decide)
   ·dsimp only
    by_cases h1:(fu t).isSome=true
    ·simp only[Ad h1]
     by_cases h2:64<=rl.length
     ·simp only[Ad h2];exact cg (by decide)
     ·simp only[Ac h2];exact gq (.r2 _ _ _ _ _ _ _ (by omega))
    ·simp only[Ac h1];exact cg (by decide)
  ·simp only[Ac h0];exact r6 _ _ _ _ _ s h0
 |com pre pa co po nm rl=>
  simp only[dp,PS.close]
  by_cases h0:br (ag s).1=0
  ·simp only[Ad h0];simp only[rdT]
   rcases hP:cR s with _|⟨b,t⟩
   ·exact cg (by decide)
   ·dsimp only
    by_cases h1:(dH b t rl.length).1=0
    ·simp only[Ad h1];exact gq (.r3 ..)
    ·simp only[Ac h1];exact cg h1
  ·simp only[Ac h0];exact r6 _ _ _ _ _ s h0
 |pol pre pa co po nm ts=>
  simp only[dp,PS.close,rdT,List.map_append,Ao,Bd]
  by_cases d1:s=fF
  ·simp only[Ad d1];exact gq (.pl ..)
  simp only[Ac d1]
  by_cases d2:s=fE
  ·simp only[Ad d2];exact gq (.pl ..)
  simp only[Ac d2]
  by_cases hw:(ag s).1=dX
  ·simp only[Ac (nn2 hw)]
   by_cases ho:bg (ag s).2=true
   ·simp only[Ac (nn1 ho)]
    by_cases hk:64<=ts.length
    ·simp only[Ad hk];exact cg (by decide)
    ·simp only[Ac hk]
     split
     ·rename_i hc;exact cg hc
     ·exact gq (.pt _ _ _ _ _ _ _ (by omega))
   ·simp only[Ad ho];exact cg (by decide)
  ·simp only[Ad hw];exact cg (by decide)
 |term pre pa co po nm ts tn ms acs=>
  simp only[dp,PS.close,rdT,List.map_append,Ao,Bd]
  by_cases d1:s=cq
  ·simp only[Ad d1];exact gq (.te ..)
  simp only[Ac d1]
  by_cases d2:s=cp
  ·simp only[Ad d2];exact gq (.te ..)
  simp only[Ac d2]
  by_cases d3:s=bN
  ·simp only[Ad d3];exact gq (.te ..)
  simp only[Ac d3]
  by_cases hw:(ag s).1=dj
  ·simp only[Ad hw]
   by_cases ha:acs.length=0
   ·simp only[Ac (nn2 ha)]
    rcases hm:ic (ag s).2 with _|x
    ·exact cg (by decide)
    ·dsimp only
     by_cases hk:64<=ms.length
     ·simp only[Ad hk];exact cg (by decide)
     ·simp only[Ac hk]
      split
      ·rename_i hc;exact cg hc
      ·exact gq (.tm _ _ _ _ _ _ _ _ _ _ (by omega))
   ·simp only[Ad ha];exact cg (by decide)
  ·simp only[Ac hw]
   by_cases hw2:(ag s).1=iq
   ·simp only[Ad hw2]
    rcases hm:jl (ag s).2 with _|x
    ·exact cg (by decide)
    ·dsimp only
     by_cases hk:64<=acs.length
     ·simp only[Ad hk];exact cg (by decide)
     ·simp only[Ac hk]
      split
      ·rename_i hc;exact cg hc
      ·exact gq (.ta _ _ _ _ _ _ _ _ _ _ (by omega))
   ·simp only[Ac hw2];exact cg (by decide)
end Go.AM.IR
namespace Go.AM.IR
theorem ss (s:List UInt8)(hs:s.length<2^30)(x:UInt8)(done rest:List UInt8)(e:s=done++x::rest)(hx:x≠10)(kp g a b:Nat)(fr n i:Int)(R:Ret)(hi:i=done.length)(H:ap)(g2:Nat)
 (ih: ∀(T:TV)(c:Nat),Ev GR ⟨fp,⟨(18,.int .i64 (i+1))::(17,.int .i64 s.length)::(0,.str s)::(5,.ref kp g 0)::(6,.int .i64 fr)::(7,.int .i64 n)::(2,.ref 66 g2 0)::T,H,c⟩,[.cell 2 (some 4),.t 3,.t 4],0⟩ R)
 (T:TV) (c:Nat):Ev GR ⟨fp,⟨(18,.int .i64 i)::(17,.int .i64 s.length)::(0,.str s)::(5,.ref kp g 0)::(6,.int .i64 fr)::(7,.int .i64 n)::(2,.ref 66 g2 0)::T,H,c⟩,[.cell 2 (some 4),.t 3,.t 4],0⟩ R:=by
 have hl:=md e;have hb:s[i.toNat]? =some x:=by rw[e,hi];simp
 have hn:(x.toNat:Int)≠10:=λq=>hx (A8.mp (by simpa using (by omega:x.toNat=10)))
 refine evl ?_
 repeat' (first|refine b8 ?_|(refine ae ?_ ?_<;>intro h))
 all_goals (conv=>whnf)
 refine au [18,17,0,5,6,7,2] [] ?_;exact ih _ _
end Go.AM.IR
namespace Go.AM.IR
theorem NF (s:List UInt8)(hs:s.length<=65536)(R:Ret)
 (ih: ∀(T:TV)(H:ap)(c:Nat)(g g0 g1 g2 g3 g4 g5 g6 g7 g8:Nat),Ev GR ⟨fp,⟨(18,.int .i64 0)::(17,.int .i64 s.length)::(0,.str s)::(5,.ref 79 g0 0)::(6,.int .i64 0)::(7,.int .i64 0)::(2,.ref 66 g 0)::T,(66,some (g,.cells [ba,ba,ba,ba]))::(79,some (g0,.cells [.vs 9001 g1 0,.vs 9002 g2 0,.vs 9003 g3 0,.vs 9004 g4 0,.vs 9005 g5 0,.vs 9006 g6 0,.vs 9007 g7 0,.vs 9008 g8 0,.int .i64 0,.bool false,.bool false]))::(9001,some (g1,.vec 2 []))::(9002,some (g2,.vec 2 []))::(9003,some (g3,.vec 2 []))::(9004,some (g4,.vec 3 []))::(9005,some (g5,.vec 1 []))::(9006,some (g6,.vec 1 []))::(9007,some (g7,.vec 1 []))::(9008,some (g8,.vec 1 []))::H,c⟩,[.cell 2 (some 4),.t 3,.t 4],0⟩ R):ab GR 418 [.str s] [] R:=by
 refine gvB (F:=D7) ?_;refine eN 9001 2 [] [(79,some (_,.cells [.vs 9001 _ 0,ba,ba,ba,ba,ba,ba,ba,.int .i64 0,.bool false,.bool false]))] trivial ⟨⟨rfl,⟨LeP.nilV _ _ _,.refl _,.refl _,.refl _,.refl _,.refl _,.refl _,.refl _,.refl _,.refl _,.refl _,trivial⟩⟩,trivial⟩ ?_;refine eN 9002 2 [] [(79,some (_,.cells [.vs 9001 _ 0,.vs 9002 _ 0,ba,ba,ba,ba,ba,ba,.int .i64 0,.bool false,.bool false]))] trivial ⟨⟨rfl,⟨.refl _,LeP.nilV _ _ _,.refl _,.refl _,.refl _,.refl _,.refl _,.refl _,.refl _,.refl _,.refl _,trivial⟩⟩,trivial⟩ ?_;refine eN 9003 2 [] [(79,some (_,.cells [.vs 9001 _ 0,.vs 9002 _ 0,.vs 9003 _ 0,ba,ba,ba,ba,ba,.int .i64 0,.bool false,.bool false]))] trivial ⟨⟨rfl,⟨.refl _,.refl _,LeP.nilV _ _ _,.refl _,.refl _,.refl _,.refl _,.refl _,.refl _,.refl _,.refl _,trivial⟩⟩,trivial⟩ ?_;refine eN 9004 3 [] [(79,some (_,.cells [.vs 9001 _ 0,.vs 9002 _ 0,.vs 9003 _ 0,.vs 9004 _ 0,ba,ba,ba,ba,.int .i64 0,.bool false,.bool false]))] trivial ⟨⟨rfl,⟨.refl _,.refl _,.refl _,LeP.nilV _ _ _,.refl _,.refl _,.refl _,.refl _,.refl _,.refl _,.refl _,trivial⟩⟩,trivial⟩ ?_;refine eN 9005 1 [] [(79,some (_,.cells [.vs 9001 _ 0,.vs 9002 _ 0,.vs 9003 _ 0,.vs 9004 _ 0,.vs 9005 _ 0,ba,ba,ba,.int .i64 0,.bool false,.bool false]))] trivial ⟨⟨rfl,⟨.refl _,.refl _,.refl _,.refl _,LeP.nilV _ _ _,.refl _,.refl _,.refl _,.refl _,.refl _,.refl _,trivial⟩⟩,trivial⟩ ?_;refine eN 9006 1 [] [(79,some (_,.cells [.vs 9001 _ 0,.vs 9002 _ 0,.vs 9003 _ 0,.vs 9004 _ 0,.vs 9005 _ 0,.vs 9006 _ 0,ba,ba,.int .i64 0,.bool false,.bool false]))] trivial ⟨⟨rfl,⟨.refl _,.refl _,.refl _,.refl _,.refl _,LeP.nilV _ _ _,.refl _,.refl _,.refl _,.refl _,.refl _,trivial⟩⟩,trivial⟩ ?_
 refine eN 9007 1 [] [(79,some (_,.cells [.vs 9001 _ 0,.vs 9002 _ 0,.vs 9003 _ 0,.vs 9004 _ 0,.vs 9005 _ 0,.vs 9006 _ 0,.vs 9007 _ 0,ba,.int .i64 0,.bool false,.bool false]))] trivial ⟨⟨rfl,⟨.refl _,.refl _,.refl _,.refl _,.refl _,.refl _,LeP.nilV _ _ _,.refl _,.refl _,.refl _,.refl _,trivial⟩⟩,trivial⟩ ?_;refine eN 9008 1 [] [(79,some (_,.cells [.vs 9001 _ 0,.vs 9002 _ 0,.vs 9003 _ 0,.vs 9004 _ 0,.vs 9005 _ 0,.vs 9006 _ 0,.vs 9007 _ 0,.vs 9008 _ 0,.int .i64 0,.bool false,.bool false]))] trivial ⟨⟨rfl,⟨.refl _,.refl _,.refl _,.refl _,.refl _,.refl _,.refl _,LeP.nilV _ _ _,.refl _,.refl _,.refl _,trivial⟩⟩,trivial⟩ ?_
 (conv=>whnf)
 refine au [18,17,0,5,6,7,2] [66,79,9001,9002,9003,9004,9005,9006,9007,9008] ?_;exact ih _ _ _ _ _ _ _ _ _ _ _ _ _
end Go.AM.IR
namespace Go.AM.IR
def IvT (s:List UInt8)(R:Ret)(e1 e2 e3 e4:List (List AV))(k1 k2 k3 k4:List (List UInt8))(n1 n2 n3 n4:Nat)(so i fr n:Int):Prop:= ∀(T:TV)(H:ap)(c:Nat)(g g0 g1 g2 g3 g4 g5 g6 g7 g8:Nat),Ev GR ⟨fp,⟨(18,.int .i64 i)::(17,.int .i64 s.length)::(0,.str s)::(5,.ref 79 g0 0)::(6,.int .i64 fr)::(7,.int .i64 n)::(2,.ref 66 g 0)::T,(66,some (g,.cells [ba,ba,ba,ba]))::(79,some (g0,.cells [.vs 9001 g1 n1,.vs 9002 g2 n2,.vs 9003 g3 n3,.vs 9004 g4 n4,.vs 9005 g5 n1,.vs 9006 g6 n2,.vs 9007 g7 n3,.vs 9008 g8 n4,.int .i64 so,.bool false,.bool false]))::(9001,some (g1,.vec 2 e1))::(9002,some (g2,.vec 2 e2))::(9003,some (g3,.vec 2 e3))::(9004,some (g4,.vec 3 e4))::(9005,some (g5,.vec 1 (k1.map ah)))::(9006,some (g6,.vec 1 (k2.map ah)))::(9007,some (g7,.vec 1 (k3.map ah)))::(9008,some (g8,.vec 1 (k4.map ah)))::H,c⟩,[.cell 2 (some 4),.t 3,.t 4],0⟩ R
def Iv1 (s:List UInt8)(R:Ret)(pre:List PList)(pa:List PathL)(co:List ComL)(po:List Pol)(nm:List UInt8)(m:Nat)(rw:List (List AV))(i fr n:Int):Prop:= ∀(T:TV)(H:ap)(c:Nat)(g g0 g1 g2 g3 g4 g5 g6 g7 g8 g9:Nat),Ev GR ⟨fp,⟨(18,.int .i64 i)::(17,.int .i64 s.length)::(0,.str s)::(5,.ref 79 g0 0)::(6,.int .i64 fr)::(7,.int .i64 n)::(2,.ref 66 g 0)::T,(66,some (g,.cells [ba,ba,ba,ba]))::(79,some (g0,.cells [.vs 9001 g1 (pre.length+1),.vs 9002 g2 pa.length,.vs 9003 g3 co.length,.vs 9004 g4 po.length,.vs 9005 g5 (pre.length+1),.vs 9006 g6 pa.length,.vs 9007 g7 co.length,.vs 9008 g8 po.length,.int .i64 1,.bool false,.bool false]))::(9001,some (g1,.vec 2 ((pre.map PList.enc)++[[AV.str nm,AV.vs 9009 g9 m]])))::(9002,some (g2,.vec 2 (pa.map PathL.enc)))::(9003,some (g3,.vec 2 (co.map ComL.enc)))::(9004,some (g4,.vec 3 (po.map Pol.enc)))::(9005,some (g5,.vec 1 ((pre.map PList.name++[nm]).map ah)))::(9006,some (g6,.vec 1 ((pa.map PathL.name).map ah)))::(9007,some (g7,.vec 1 ((co.map ComL.name).map ah)))::(9008,some (g8,.vec 1 ((po.map Pol.name).map ah)))::(9009,some (g9,.vec 5 rw))::H,c⟩,[.cell 2 (some 4),.t 3,.t 4],0⟩ R
def Iv2 (s:List UInt8)(R:Ret)(pre:List PList)(pa:List PathL)(co:List ComL)(po:List Pol)(nm:List UInt8)(m:Nat)(rw:List (List AV))(i fr n:Int):Prop:= ∀(T:TV)(H:ap)(c:Nat)(g g0 g1 g2 g3 g4 g5 g6 g7 g8 g9:Nat),Ev GR ⟨fp,⟨(18,.int .i64 i)::(17,.int .i64 s.length)::(0,.str s)::(5,.ref 79 g0 0)::(6,.int .i64 fr)::(7,.int .i64 n)::(2,.ref 66 g 0)::T,(66,some (g,.cells [ba,ba,ba,ba]))::(79,some (g0,.cells [.vs 9001 g1 pre.length,.vs 9002 g2 (pa.length+1),.vs 9003 g3 co.length,.vs 9004 g4 po.length,.vs 9005 g5 pre.length,.vs 9006 g6 (pa.length+1),.vs 9007 g7 co.length,.vs 9008 g8 po.length,.int .i64 2,.bool false,.bool false]))::(9001,some (g1,.vec 2 (pre.map PList.enc)))::(9002,some (g2,.vec 2 ((pa.map PathL.enc)++[[AV.str nm,AV.vs 9009 g9 m]])))::(9003,some (g3,.vec 2 (co.map ComL.enc)))::(9004,some (g4,.vec 3 (po.map Pol.enc)))::(9005,some (g5,.vec 1 ((pre.map PList.name).map ah)))::(9006,some (g6,.vec 1 ((pa.map PathL.name++[nm]).map ah)))::(9007,some (g7,.vec 1 ((co.map ComL.name).map ah)))::(9008,some (g8,.vec 1 ((po.map Pol.name).map ah)))::(9009,some (g9,.vec 2 rw))::H,c⟩,[.cell 2 (some 4),.t 3,.t 4],0⟩ R
def Iv3 (s:List UInt8)(R:Ret)(pre:List PList)(pa:List PathL)(co:List ComL)(po:List Pol)(nm:List UInt8)(m:Nat)(rw:List (List AV))(i fr n:Int):Prop:= ∀(T:TV)(H:ap)(c:Nat)(g g0 g1 g2 g3 g4 g5 g6 g7 g8 g9:Nat),Ev GR ⟨fp,⟨(18,.int .i64 i)::(17,.int .i64 s.length)::(0,.str s)::(5,.ref 79 g0 0)::(6,.int .i64 fr)::(7,.int .i64 n)::(2,.ref 66 g 0)::T,(66,some (g,.cells [ba,ba,ba,ba]))::(79,some (g0,.cells [.vs 9001 g1 pre.length,.vs 9002 g2 pa.length,.vs 9003 g3 (co.length+1),.vs 9004 g4 po.length,.vs 9005 g5 pre.length,.vs 9006 g6 pa.length,.vs 9007 g7 (co.length+1),.vs 9008 g8 po.length,.int .i64 3,.bool false,.bool false]))::(9001,some (g1,.vec 2 (pre.map PList.enc)))::(9002,some (g2,.vec 2 (pa.map PathL.enc)))::(9003,some (g3,.vec 2 ((co.map ComL.enc)++[[AV.str nm,AV.vs 9009 g9 m]])))::(9004,some (g4,.vec 3 (po.map Pol.enc)))::(9005,some (g5,.vec 1 ((pre.map PList.name).map ah)))::(9006,some (g6,.vec 1 ((pa.map PathL.name).map ah)))::(9007,some (g7,.vec 1 ((co.map ComL.name++[nm]).map ah)))::(9008,some (g8,.vec 1 ((po.map Pol.name).map ah)))::(9009,some (g9,.vec 3 rw))::H,c⟩,[.cell 2 (some 4),.t 3,.t 4],0⟩ R
def Iv4 (s:List UInt8)(R:Ret)(pre:List PList)(pa:List PathL)(co:List ComL)(po:List Pol)(nm:List UInt8)(pol:Bool)(df:Int)(m:Nat)(rw:List (List AV))(i fr n:Int):Prop:= ∀(T:TV)(H:ap)(c:Nat)(g g0 g1 g2 g3 g4 g5 g6 g7 g8 g9:Nat),Ev GR ⟨fp,⟨(18,.int .i64 i)::(17,.int .i64 s.length)::(0,.str s)::(5,.ref 79 g0 0)::(6,.int .i64 fr)::(7,.int .i64 n)::(2,.ref 66 g 0)::T,(66,some (g,.cells [ba,ba,ba,ba]))::(79,some (g0,.cells [.vs 9001 g1 pre.length,.vs 9002 g2 pa.length,.vs 9003 g3 co.length,.vs 9004 g4 (po.length+1),.vs 9005 g5 pre.length,.vs 9006 g6 pa.length,.vs 9007 g7 co.length,.vs 9008 g8 (po.length+1),.int .i64 4,.bool pol,.bool false]))::(9001,some (g1,.vec 2 (pre.map PList.enc)))::(9002,some (g2,.vec 2 (pa.map PathL.enc)))::(9003,some (g3,.vec 2 (co.map ComL.enc)))::(9004,some (g4,.vec 3 ((po.map Pol.enc)++[[AV.str nm,AV.vs 9009 g9 m,AV.int .i64 df]])))::(9005,some (g5,.vec 1 ((pre.map PList.name).map ah)))::(9006,some (g6,.vec 1 ((pa.map PathL.name).map ah)))::(9007,some (g7,.vec 1 ((co.map ComL.name).map ah)))::(9008,some (g8,.vec 1 ((po.map Pol.name++[nm]).map ah)))::(9009,some (g9,.vec 4 rw))::H,c⟩,[.cell 2 (some 4),.t 3,.t 4],0⟩ R
def Iv5 (s:List UInt8)(R:Ret)(pre:List PList)(pa:List PathL)(co:List ComL)(po:List Pol)(nm:List UInt8)(ts:List Trm)(tn:List UInt8)(trm:Bool)(v:Int)(mm:Nat)(mr:List (List AV))(an:Nat)(ar:List (List AV))(i fr n:Int):Prop:= ∀(T:TV)(H:ap)(c:Nat)(g g0 g1 g2 g3 g4 g5 g6 g7 g8 g9 ga gb:Nat),Ev GR ⟨fp,⟨(18,.int .i64 i)::(17,.int .i64 s.length)::(0,.str s)::(5,.ref 79 g0 0)::(6,.int .i64 fr)::(7,.int .i64 n)::(2,.ref 66 g 0)::T,(66,some (g,.cells [ba,ba,ba,ba]))::(79,some (g0,.cells [.vs 9001 g1 pre.length,.vs 9002 g2 pa.length,.vs 9003 g3 co.length,.vs 9004 g4 (po.length+1),.vs 9005 g5 pre.length,.vs 9006 g6 pa.length,.vs 9007 g7 co.length,.vs 9008 g8 (po.length+1),.int .i64 4,.bool true,.bool trm]))::(9001,some (g1,.vec 2 (pre.map PList.enc)))::(9002,some (g2,.vec 2 (pa.map PathL.enc)))::(9003,some (g3,.vec 2 (co.map ComL.enc)))::(9004,some (g4,.vec 3 ((po.map Pol.enc)++[[AV.str nm,AV.vs 9009 g9 (ts.length+1),AV.int .i64 0]])))::(9005,some (g5,.vec 1 ((pre.map PList.name).map ah)))::(9006,some (g6,.vec 1 ((pa.map PathL.name).map ah)))::(9007,some (g7,.vec 1 ((co.map ComL.name).map ah)))::(9008,some (g8,.vec 1 ((po.map Pol.name++[nm]).map ah)))::(9009,some (g9,.vec 4 (ts.map Trm.enc++[[AV.str tn,AV.vs 9010 ga mm,AV.vs 9011 gb an,AV.int .i64 v]])))::(9010,some (ga,.vec 6 mr))::(9011,some (gb,.vec 5 ar))::H,c⟩,[.cell 2 (some 4),.t 3,.t 4],0⟩ R
structure Ln (s acc done rest:List UInt8)(i fr n:Int):Prop where
 hs:s.length<=65536
 e:s=done++(acc++10::rest)
 hi:i=done.length+acc.length
 hfr:fr=done.length
 hn0:0<=n
 hn:n<=65536
theorem Ln.all {s acc done rest:List UInt8}{i fr n:Int}(q:Ln s acc done rest i fr n):s.length<=65536/\i=done.length+acc.length/\fr=done.length/\0<=n/\n<=65536/\s.length=done.length+(acc.length+(rest.length+1))/\s[i.toNat]? =some 10/\(s.drop fr.toNat).take (i.toNat-fr.toNat)=acc:=by
 obtain ⟨hs,e,hi,hfr,hn0,hn⟩:=q;refine ⟨hs,hi,hfr,hn0,hn,by simp[e],?_,?_⟩
 ·rw[show i.toNat=done.length+acc.length by omega,e];simp
 ·rw[show i.toNat-fr.toNat=acc.length by omega,show fr.toNat=done.length by omega,e];simp
end Go.AM.IR
namespace Go.AM.IR
theorem Kz {s acc done rest:List UInt8}{i fr n:Int}(q:Ln s acc done rest i fr n)(pre:List PList)(pa:List PathL)(co:List ComL)(po:List Pol)(so:Int)(er z:Int)(he:er≠0)(hG:ab GR 466 [.ref 0 0 0,.str acc] (aX (.top pre pa co po so)) (rE er z (.top pre pa co po so))):IvT s (fx (dl,n+1,er)) (pre.map PList.enc) (pa.map PathL.enc) (co.map ComL.enc) (po.map Pol.enc) (pre.map PList.name) (pa.map PathL.name) (co.map ComL.name) (po.map Pol.name) pre.length pa.length co.length po.length so i fr n:=by
 intro T H c g g0 g1 g2 g3 g4 g5 g6 g7 g8;obtain ⟨hs,hi,hfr,hn0,hn,hl,hb,hsl⟩:=q.all;dsimp only[aX,rE,bv] at hG;refine evl ?_
 repeat' (first|refine b8 ?_|(refine ae ?_ ?_<;>intro h))
 (conv=>whnf)
 rw[hsl];refine kP [(79,_,.cells _),(9001,_,.vec _ _),(9002,_,.vec _ _),(9003,_,.vec _ _),(9004,_,.vec _ _),(9005,_,.vec _ _),(9006,_,.vec _ _),(9007,_,.vec _ _),(9008,_,.vec _ _)] [] ⟨rfl,rfl,rfl,rfl,rfl,rfl,rfl,rfl,rfl,trivial⟩ trivial hG ?_
 repeat' (first|refine bb ?_|(refine ae ?_ ?_<;>intro h))
 (conv=>whnf)
 refine iY [] [(66,some (_,.cells [.sl 2 [],.sl 2 [],.sl 2 [],.sl 3 []]))] trivial ⟨⟨rfl,⟨LeP.nil _,LeP.nil _,LeP.nil _,LeP.nil _,trivial⟩⟩,trivial⟩ ?_;refine ax ?_
 (conv=>whnf)
 first|(refine ⟨rfl,?_⟩;trivial)|(refine ⟨?_,?_⟩; ·rfl)|(apply congrArg;rfl)|(unfold fx dl PSet.enc;rfl)
end Go.AM.IR
namespace Go.AM.IR
theorem Oa {s acc done rest:List UInt8}{i fr n:Int}(q:Ln s acc done rest i fr n)(pre:List PList)(pa:List PathL)(co:List ComL)(po:List Pol)(so:Int)(t:List UInt8)(R:Ret)(hG:ab GR 466 [.ref 0 0 0,.str acc] (aX (.top pre pa co po so)) (rO (xA pre pa co po t)))(ih:Iv1 s R pre pa co po t 0 [] (i+1) (i+1) (n+1)):IvT s R (pre.map PList.enc) (pa.map PathL.enc) (co.map ComL.enc) (po.map Pol.enc) (pre.map PList.name) (pa.map PathL.name) (co.map ComL.name) (po.map Pol.name) pre.length pa.length co.length po.length so i fr n:=by
 intro T H c g g0 g1 g2 g3 g4 g5 g6 g7 g8;obtain ⟨hs,hi,hfr,hn0,hn,hl,hb,hsl⟩:=q.all;dsimp only[aX,rO,xA] at hG;refine evl ?_
 repeat' (first|refine b8 ?_|(refine ae ?_ ?_<;>intro h))
 (conv=>whnf)
 rw[hsl];refine kP [(79,_,.cells _),(9001,_,.vec _ _),(9002,_,.vec _ _),(9003,_,.vec _ _),(9004,_,.vec _ _),(9005,_,.vec _ _),(9006,_,.vec _ _),(9007,_,.vec _ _),(9008,_,.vec _ _)] [] ⟨rfl,rfl,rfl,rfl,rfl,rfl,rfl,rfl,rfl,trivial⟩ trivial hG ?_
 repeat' (first|refine bb ?_|(refine ae ?_ ?_<;>intro h))
 (conv=>whnf)
 refine eN 9009 5 [] [(9001,some (_,.vec 2 ((pre.map PList.enc)++[[AV.str t,AV.vs 9009 _ 0]])))] trivial ⟨⟨rfl,rfl,LLLe.app _ ⟨⟨.refl _,LeP.nilV _ _ _,trivial⟩,trivial⟩⟩,trivial⟩ ?_;rw[show ((pre.map PList.name).map ah)++[[.str t]]=((pre.map PList.name++[t]).map ah) by simp[ah]]
 (conv=>whnf)
 refine au [18,17,0,5,6,7,2] [66,79,9001,9002,9003,9004,9005,9006,9007,9008,9009] ?_;exact ih _ _ _ _ _ _ _ _ _ _ _ _ _ _
theorem N9 {s acc done rest:List UInt8}{i fr n:Int}(q:Ln s acc done rest i fr n)(pre:List PList)(pa:List PathL)(co:List ComL)(po:List Pol)(so:Int)(t:List UInt8)(R:Ret)(hG:ab GR 466 [.ref 0 0 0,.str acc] (aX (.top pre pa co po so)) (rO (xz pre pa co po t)))(ih:Iv2 s R pre pa co po t 0 [] (i+1) (i+1) (n+1)):IvT s R (pre.map PList.enc) (pa.map PathL.enc) (co.map ComL.enc) (po.map Pol.enc) (pre.map PList.name) (pa.map PathL.name) (co.map ComL.name) (po.map Pol.name) pre.length pa.length co.length po.length so i fr n:=by
 intro T H c g g0 g1 g2 g3 g4 g5 g6 g7 g8;obtain ⟨hs,hi,hfr,hn0,hn,hl,hb,hsl⟩:=q.all;dsimp only[aX,rO,xz] at hG;refine evl ?_
 repeat' (first|refine b8 ?_|(refine ae ?_ ?_<;>intro h))
 (conv=>whnf)
 rw[hsl];refine kP [(79,_,.cells _),(9001,_,.vec _ _),(9002,_,.vec _ _),(9003,_,.vec _ _),(9004,_,.vec _ _),(9005,_,.vec _ _),(9006,_,.vec _ _),(9007,_,.vec _ _),(9008,_,.vec _ _)] [] ⟨rfl,rfl,rfl,rfl,rfl,rfl,rfl,rfl,rfl,trivial⟩ trivial hG ?_
 repeat' (first|refine bb ?_|(refine ae ?_ ?_<;>intro h))
 (conv=>whnf)
 refine eN 9009 2 [] [(9002,some (_,.vec 2 ((pa.map PathL.enc)++[[AV.str t,AV.vs 9009 _ 0]])))] trivial ⟨⟨rfl,rfl,LLLe.app _ ⟨⟨.refl _,LeP.nilV _ _ _,trivial⟩,trivial⟩⟩,trivial⟩ ?_;rw[show ((pa.map PathL.name).map ah)++[[.str t]]=((pa.map PathL.name++[t]).map ah) by simp[ah]]
 (conv=>whnf)
 refine au [18,17,0,5,6,7,2] [66,79,9001,9002,9003,9004,9005,9006,9007,9008,9009] ?_;exact ih _ _ _ _ _ _ _ _ _ _ _ _ _ _
theorem N8 {s acc done rest:List UInt8}{i fr n:Int}(q:Ln s acc done rest i fr n)(pre:List PList)(pa:List PathL)(co:List ComL)(po:List Pol)(so:Int)(t:List UInt8)(R:Ret)(hG:ab GR 466 [.ref 0 0 0,.str acc] (aX (.top pre pa co po so)) (rO (xy pre pa co po t)))(ih:Iv3 s R pre pa co po t 0 [] (i+1) (i+1) (n+1)):IvT s R (pre.map PList.enc) (pa.map PathL.enc) (co.map ComL.enc) (po.map Pol.enc) (pre.map PList.name) (pa.map PathL.name) (co.map ComL.name) (po.map Pol.name) pre.length pa.length co.length po.length so i fr n:=by
 intro T H c g g0 g1 g2 g3 g4 g5 g6 g7 g8;obtain ⟨hs,hi,hfr,hn0,hn,hl,hb,hsl⟩:=q.all;dsimp only[aX,rO,xy] at hG;refine evl ?_
 repeat' (first|refine b8 ?_|(refine ae ?_ ?_<;>intro h))
 (conv=>whnf)
 rw[hsl];refine kP [(79,_,.cells _),(9001,_,.vec _ _),(9002,_,.vec _ _),(9003,_,.vec _ _),(9004,_,.vec _ _),(9005,_,.vec _ _),(9006,_,.vec _ _),(9007,_,.vec _ _),(9008,_,.vec _ _)] [] ⟨rfl,rfl,rfl,rfl,rfl,rfl,rfl,rfl,rfl,trivial⟩ trivial hG ?_
 repeat' (first|refine bb ?_|(refine ae ?_ ?_<;>intro h))
 (conv=>whnf)
 refine eN 9009 3 [] [(9003,some (_,.vec 2 ((co.map ComL.enc)++[[AV.str t,AV.vs 9009 _ 0]])))] trivial ⟨⟨rfl,rfl,LLLe.app _ ⟨⟨.refl _,LeP.nilV _ _ _,trivial⟩,trivial⟩⟩,trivial⟩ ?_;rw[show ((co.map ComL.name).map ah)++[[.str t]]=((co.map ComL.name++[t]).map ah) by simp[ah]]
 (conv=>whnf)
 refine au [18,17,0,5,6,7,2] [66,79,9001,9002,9003,9004,9005,9006,9007,9008,9009] ?_;exact ih _ _ _ _ _ _ _ _ _ _ _ _ _ _
theorem NZ {s acc done rest:List UInt8}{i fr n:Int}(q:Ln s acc done rest i fr n)(pre:List PList)(pa:List PathL)(co:List ComL)(po:List Pol)(so:Int)(t:List UInt8)(R:Ret)(hG:ab GR 466 [.ref 0 0 0,.str acc] (aX (.top pre pa co po so)) (rO (xx pre pa co po t)))(ih:Iv4 s R pre pa co po t true 0 0 [] (i+1) (i+1) (n+1)):IvT s R (pre.map PList.enc) (pa.map PathL.enc) (co.map ComL.enc) (po.map Pol.enc) (pre.map PList.name) (pa.map PathL.name) (co.map ComL.name) (po.map Pol.name) pre.length pa.length co.length po.length so i fr n:=by
 intro T H c g g0 g1 g2 g3 g4 g5 g6 g7 g8;obtain ⟨hs,hi,hfr,hn0,hn,hl,hb,hsl⟩:=q.all;dsimp only[aX,rO,xx] at hG;refine evl ?_
 repeat' (first|refine b8 ?_|(refine ae ?_ ?_<;>intro h))
 (conv=>whnf)
 rw[hsl];refine kP [(79,_,.cells _),(9001,_,.vec _ _),(9002,_,.vec _ _),(9003,_,.vec _ _),(9004,_,.vec _ _),(9005,_,.vec _ _),(9006,_,.vec _ _),(9007,_,.vec _ _),(9008,_,.vec _ _)] [] ⟨rfl,rfl,rfl,rfl,rfl,rfl,rfl,rfl,rfl,trivial⟩ trivial hG ?_
 repeat' (first|refine bb ?_|(refine ae ?_ ?_<;>intro h))
 (conv=>whnf)
 refine eN 9009 4 [] [(9004,some (_,.vec 3 ((po.map Pol.enc)++[[AV.str t,AV.vs 9009 _ 0,AV.int .i64 0]])))] trivial ⟨⟨rfl,rfl,LLLe.app _ ⟨⟨.refl _,LeP.nilV _ _ _,.refl _,trivial⟩,trivial⟩⟩,trivial⟩ ?_;rw[show ((po.map Pol.name).map ah)++[[.str t]]=((po.map Pol.name++[t]).map ah) by simp[ah]]
 (conv=>whnf)
 refine au [18,17,0,5,6,7,2] [66,79,9001,9002,9003,9004,9005,9006,9007,9008,9009] ?_;exact ih _ _ _ _ _ _ _ _ _ _ _ _ _ _
end Go.AM.IR
