/- What functions of this program give. -/
import Derived.Test.YtomphmeopjpejaaGreatDoorDataT
set_option linter.unusedSectionVars false
set_option linter.unusedVariables false
set_option linter.unusedSimpArgs false
set_option maxHeartbeats 4000000
set_option maxRecDepth 20000
namespace Go.AM.IR
section
variable {e1 e2 e3 e4:B6}(p1:ab e1=true)(p2:ab e2=true)(p3:ab e3=true)(p4:ab e4=true)(l1:e1.length<2^30)(l2:e2.length<2^30)(l3:e3.length<2^30)(l4:e4.length<2^30){nm:B5}{ts:C4}(lt:ts.length<2^30)
include p1 p2 p3 p4 l1 l2 l3 l4 lt
theorem afi (l:CF)(hl:l.length<2^30)(h:l.length≠2∨ ∃w t,l= [w,t]/\(t= []∨(w≠qb/\w≠d8))):ag G 600 [.ref 0 0 0,.sl 1 (l.map ah)] (rdC e1 e2 e3 e4 nm (ts.map Trm.enc)) ⟨.int .i64 2,roC 4 e1 e2 e3 e4 nm (ts.map Trm.enc).length 0 true (ts.map Trm.enc)⟩:=by
 unfold rdC rdc;have pt:ab (ts.map Trm.enc)=true:=by simp
 have lm:=ml ts Trm.enc;rw[lm];generalize hn:e4.length+1=n;rcases h with h|⟨w,t,rfl,h⟩
 ·have m1:=ml l ah
  have q1:ab (l.map ah)=true:=by simp
  generalize l.map ah=ll at*;have hz: ¬(ll.length:Int)=2:=by omega
  refine gvH (F:=nY) ?_;subst hn;exact bi shC t6
 simp only[An,A6,ah]
 by_cases t0:t= []
 ·subst t0
  refine gvH (F:=nY) ?_;subst hn;exact bi shC t6
 obtain ⟨w1,w2⟩:=h.resolve_left t0;unfold qb at w1;unfold d8 at w2;refine gvH (F:=nY) ?_;subst hn;exact bi shC t6
theorem afh (t:B5)(t0:t≠ [])(h:cZ t=1∨cZ t=2):ag G 600 [.ref 0 0 0,.sl 1 [[.str [100,101,102,97,117,108,116]],[.str t]]] (rdC e1 e2 e3 e4 nm (ts.map Trm.enc)) ⟨.int .i64 0,roC 0 e1 e2 e3 e4 nm (ts.map Trm.enc).length (cZ t) true (ts.map Trm.enc)⟩:=by
 unfold rdC rdc;have pt:ab (ts.map Trm.enc)=true:=by simp
 have lm:=ml ts Trm.enc;rw[lm];generalize hn:e4.length+1=n;have h1:=ko t;generalize cZ t=v at*;rcases h with h|h
 ·skip
  refine gvH (F:=nY) ?_;rw[hsL hn];subst hn;exact bi shC t6
 ·have z1: ¬v=1:=by omega
  refine gvH (F:=nY) ?_;rw[hsL hn];subst hn;exact bi shC t6
theorem ada (t:B5)(t0:t≠ [])(h: ¬(cZ t=1∨cZ t=2)):ag G 600 [.ref 0 0 0,.sl 1 [[.str [100,101,102,97,117,108,116]],[.str t]]] (rdC e1 e2 e3 e4 nm (ts.map Trm.enc)) ⟨.int .i64 2,roC 4 e1 e2 e3 e4 nm (ts.map Trm.enc).length (cZ t) true (ts.map Trm.enc)⟩:=by
 unfold rdC rdc;have pt:ab (ts.map Trm.enc)=true:=by simp
 have lm:=ml ts Trm.enc;rw[lm];generalize hn:e4.length+1=n;have h1:=ko t;generalize cZ t=v at*;have z1: ¬v=1:=λq=>h (.inl q)
 have z2: ¬v=2:=λq=>h (.inr q)
 refine gvH (F:=nY) ?_;rw[hsL hn];subst hn;exact bi shC t6
end
theorem yO {e1 e2 e3 e4:B6}(p1:ab e1=true)(p2:ab e2=true)(p3:ab e3=true)(p4:ab e4=true)(l1:e1.length<2^30)(l2:e2.length<2^30)(l3:e3.length<2^30)(l4:e4.length<2^30){nm:B5}{ts:C4}(lt:ts.length<2^30)(w t:B5)(g5:Nat)(hg:g5≠0): ∀(rest done:C4)(T:TV)(H:az)(c:Nat)(i:Int)(e:ts=done++rest)(hi:i=done.length),
  Ev G ⟨UK,⟨(103,.int .i64 i)::(1,.sl 1 [[.str w],[.str t]])::(101,.vs 5 g5 ts.length)::(102,.int .i64 ts.length)::T,(0,some (0,.cells (rdc e1.length e2.length e3.length (e4.length+1) 5 4)))::(1,some (0,.vec 2 e1))::(2,some (0,.vec 2 e2))::(3,some (0,.vec 2 e3))::(4,some (0,.vec 3 (e4++[[.str nm,.vs 5 g5 (ts.length+1),.int .i64 0]])))::(5,some (g5,.vec 4 ((ts.map Trm.enc)++[[AV.str t,AV.con (.slice none 0 0),AV.con (.slice none 0 0),AV.int .i64 0]])))::H,c⟩,[.t 4],6⟩ ⟨.int .i64 (if rest.any (λu=>u.name==t) then 7 else 0),roC 5 e1 e2 e3 e4 nm (ts.length+1) 0 false ((ts.map Trm.enc)++[[AV.str t,AV.con (.slice none 0 0),AV.con (.slice none 0 0),AV.int .i64 0]])⟩
 | [],done,T,H,c,i,e,hi=>by
  have hl:=md0 e;have pt:ab (ts.map Trm.enc)=true:=by simp
  refine evA ?_;exact bi shC [true,true,true,true,true,false] (hfl:=by repeat' (first|exact trivial|refine ⟨(by first|rfl|exact (Al hg).symm),?_⟩))
 |x::rest,done,T,H,c,i,e,hi=>by
  have hl:=md e;have pt:ab (ts.map Trm.enc)=true:=by simp
  have lm:((ts.map Trm.enc)++[[AV.str t,AV.con (.slice none 0 0),AV.con (.slice none 0 0),AV.int .i64 0]]).length=ts.length+1:=by simp
  have hx:((ts.map Trm.enc)++[[AV.str t,AV.con (.slice none 0 0),AV.con (.slice none 0 0),AV.int .i64 0]])[i.toNat]? =some x.enc:=by rw[e,hi];simp
  have ih:=λT H c=>yO p1 p2 p3 p4 l1 l2 l3 l4 (nm:=nm) lt w t g5 hg rest (done++[x]) T H c (i+1) (by simp[e]) (by simp[hi])
  rw[List.any_cons];unfold Trm.enc at hx
  by_cases h:x.name=t
  ·rw[show (x.name==t)=true by simp[h],Bool.true_or,Ac rfl]
   refine evl ?_
   repeat' (first|refine bp ?_|apply ae<;>intro h)
   exact bi shC [true,true,true,true,true,false] (hfl:=by repeat' (first|exact trivial|refine ⟨(by first|rfl|exact (Al hg).symm),?_⟩))
  ·rw[show (x.name==t)=false by simp[h],Bool.false_or]
   refine evl ?_
   repeat' ((conv=>whnf);first|refine aG h ?_|refine aq ?_|apply ae<;>intro h)
   refine au [103,1,101,102] [0,1,2,3,4,5] ?_;exact ih _ _ _
section
variable {e1 e2 e3 e4:B6}(p1:ab e1=true)(p2:ab e2=true)(p3:ab e3=true)(p4:ab e4=true)(l1:e1.length<2^30)(l2:e2.length<2^30)(l3:e3.length<2^30)(l4:e4.length<2^30){nm:B5}{ts:C4}(lt:ts.length<2^30)(t:B5)(ht:t.length<2^30)(t0:t≠ [])
include p1 p2 p3 p4 l1 l2 l3 l4 lt ht t0
theorem ac9 (hk:64<=ts.length):ag G 600 [.ref 0 0 0,.sl 1 [[.str [116,101,114,109]],[.str t]]] (rdC e1 e2 e3 e4 nm (ts.map Trm.enc)) ⟨.int .i64 4,roC 5 e1 e2 e3 e4 nm (ts.length+1) 0 false ((ts.map Trm.enc)++[[AV.str t,AV.con (.slice none 0 0),AV.con (.slice none 0 0),AV.int .i64 0]])⟩:=by
 unfold rdC rdc;have pt:ab (ts.map Trm.enc)=true:=by simp
 have lm:=ml ts Trm.enc;rw[lm];generalize hn:e4.length+1=n;have w1: [116,101,114,109]≠ [100,101,102,97,117,108,116]:=by decide
 have h1:=dq ((ts.length+1:Nat):Int);rw[Ac (by omega)] at h1
 refine gvH (F:=nY) ?_;rw[hsL hn];subst hn;exact bi shC [true,true,true,true,true,false]
theorem ac8 (hk:ts.length<64)(hm:nmB t=false):ag G 600 [.ref 0 0 0,.sl 1 [[.str [116,101,114,109]],[.str t]]] (rdC e1 e2 e3 e4 nm (ts.map Trm.enc)) ⟨.int .i64 1,roC 5 e1 e2 e3 e4 nm (ts.length+1) 0 false ((ts.map Trm.enc)++[[AV.str t,AV.con (.slice none 0 0),AV.con (.slice none 0 0),AV.int .i64 0]])⟩:=by
 unfold rdC rdc;have pt:ab (ts.map Trm.enc)=true:=by simp
 have lm:=ml ts Trm.enc;rw[lm];generalize hn:e4.length+1=n;have w1: [116,101,114,109]≠ [100,101,102,97,117,108,116]:=by decide
 have h1:=dq ((ts.length+1:Nat):Int);rw[Aa (by omega)] at h1
 have h2:=qK t (by omega)
 rw[hm] at h2;refine gvH (F:=nY) ?_;rw[hsL hn];subst hn;exact bi shC [true,true,true,true,true,false]
theorem ahc (hk:ts.length<64)(hm:nmB t=true):ag G 600 [.ref 0 0 0,.sl 1 [[.str [116,101,114,109]],[.str t]]] (rdC e1 e2 e3 e4 nm (ts.map Trm.enc)) ⟨.int .i64 (if ts.any (λu=>u.name==t) then 7 else 0),roC 5 e1 e2 e3 e4 nm (ts.length+1) 0 false ((ts.map Trm.enc)++[[AV.str t,AV.con (.slice none 0 0),AV.con (.slice none 0 0),AV.int .i64 0]])⟩:=by
 unfold rdC rdc;have pt:ab (ts.map Trm.enc)=true:=by simp
 have lm:=ml ts Trm.enc;rw[lm];generalize hn:e4.length+1=n;have w1: [116,101,114,109]≠ [100,101,102,97,117,108,116]:=by decide
 have h1:=dq ((ts.length+1:Nat):Int);rw[Aa (by omega)] at h1
 have h2:=qK t (by omega)
 rw[hm] at h2;have z1:([[AV.str t,AV.con (.slice none 0 0),AV.con (.slice none 0 0),AV.int .i64 0]]:B6).length=1:=rfl;have z2:(((ts.length+([[AV.str t,AV.con (.slice none 0 0),AV.con (.slice none 0 0),AV.int .i64 0]]:B6).length:Nat):Int)-1).toNat=ts.length:=by omega
 refine gvC (F:=nY) ?_
 repeat' ((conv=>whnf);first|refine aG t0 ?_|refine aG w1 ?_|refine OL rfl ?_|refine cy hn ?_|refine ia hn ?_|refine aq ?_|refine Or.inl ⟨rfl,rfl,?_⟩|apply ae<;>intro h)
 rw[hsL hn];subst hn;refine au [103,1,101,102] [0,1,2,3,4,5] ?_;rw[z2];exact yO p1 p2 p3 p4 l1 l2 l3 l4 lt _ t _ (by omega) ts [] _ _ _ 0 rfl rfl
end
def rdS (n1 n2 n3 n4:Nat):AV:=.agg [.vs 0 0 n1,.vs 1 0 n2,.vs 2 0 n3,.vs 3 0 (n4+1)]
section
variable (pre:CL)(pa:CO)(co:CS)(e4:B6)(nm:B5)(ts:B6)(tn:B5)(ms acs:B6)
def rdM:C5:=[.vec 2 (pre.map PList.enc),.vec 2 (pa.map PathL.enc),.vec 2 (co.map ComL.enc),.vec 3 (e4++[[.str nm,.vs 4 0 (ts.length+1),.int .i64 0]]),.vec 4 (ts++[[.str tn,.vs 5 0 ms.length,.vs 6 0 acs.length,.int .i64 0]]),.vec 6 ms,.vec 5 acs]
def roM:Co:=mkR [(true,.vec 2 (pre.map PList.enc)),(true,.vec 2 (pa.map PathL.enc)),(true,.vec 2 (co.map ComL.enc)),(true,.nest 3 e4 [[.str nm,.vs 4 0 (ts.length+1),.int .i64 0]]),(true,.nest 4 ts [[.str tn,.vs 5 0 ms.length,.vs 6 0 acs.length,.int .i64 0]]),(true,.vec 6 ms),(true,.vec 5 acs)]
end
theorem yx {pre:CL}{pa:CO}{co:CS}{e4 ts ms acs:B6}(p4:ab e4=true)(pt:ab ts=true)(pm:ab ms=true)(pc:ab acs=true)(l1:pre.length<2^30)(l2:pa.length<2^30)(l3:co.length<2^30)(l4:e4.length<2^30)(l5:ts.length<2^30)(l6:ms.length<2^30)(l7:acs.length<2^30){nm tn:B5}(k:B5): ∀(rest done:CL)(T:TV)(H:az)(c g:Nat)(i:Int)(e:pre=done++rest)(hi:i=done.length),
  Ev G ⟨ZO,⟨(11,.int .i64 i)::(9,.vs 0 0 pre.length)::(10,.int .i64 pre.length)::(4,.ref 68 g 0)::(1,.str k)::T,(68,some (g,.cells [.str [],.con (.slice none 0 0)]))::(0,some (0,.vec 2 (pre.map PList.enc)))::(1,some (0,.vec 2 (pa.map PathL.enc)))::(2,some (0,.vec 2 (co.map ComL.enc)))::(3,some (0,.vec 3 (e4++[[.str nm,.vs 4 0 (ts.length+1),.int .i64 0]])))::(4,some (0,.vec 4 (ts++[[.str tn,.vs 5 0 ms.length,.vs 6 0 acs.length,.int .i64 0]])))::(5,some (0,.vec 6 ms))::(6,some (0,.vec 5 acs))::H,c⟩,[.cell 4 (some 2),.t 5],7⟩ ⟨(plsR (qI rest k)).r,roM pre pa co e4 nm ts tn ms acs⟩
 | [],done,T,H,c,g,i,e,hi=>by
  have hl:=md0 e;have u1:ab (pre.map PList.enc)=true:=by simp
  have u2:ab (pa.map PathL.enc)=true:=by simp
  have u3:ab (co.map ComL.enc)=true:=by simp
  refine evA ?_;exact bi shM t7
 |x::rest,done,T,H,c,g,i,e,hi=>by
  have hl:=md e;have u1:ab (pre.map PList.enc)=true:=by simp
  have u2:ab (pa.map PathL.enc)=true:=by simp
  have u3:ab (co.map ComL.enc)=true:=by simp
  have lm:=ml pre PList.enc;have hx:(pre.map PList.enc)[i.toNat]? =some x.enc:=by rw[e,hi];simp
  have ih:=λT H c g=>yx p4 pt pm pc l1 l2 l3 l4 l5 l6 l7 (nm:=nm) (tn:=tn) k rest (done++[x]) T H c g (i+1) (by simp[e]) (by simp[hi])
  unfold PList.enc at hx
  by_cases hk:x.name=k
  ·rw[qI,Ac hk]
   refine evl ?_
   repeat' (first|refine bp ?_|apply ae<;>intro h)
   exact bi shM t7
  ·rw[qI,Aa hk]
   refine evl ?_
   repeat' (first|refine bp ?_|apply ae<;>intro h)
   refine au [11,9,10,4,1] [68,0,1,2,3,4,5,6] ?_;exact ih _ _ _ _
section
variable {pre:CL}{pa:CO}{co:CS}{e4 ts ms acs:B6}
theorem Mf (p4:ab e4=true)(pt:ab ts=true)(pm:ab ms=true)(pc:ab acs=true)(l1:pre.length<2^30)(l2:pa.length<2^30)(l3:co.length<2^30)(l4:e4.length<2^30)(l5:ts.length<2^30)(l6:ms.length<2^30)(l7:acs.length<2^30){nm tn:B5}(k:B5):ag G 620 [rdS pre.length pa.length co.length e4.length,.str k] (rdM pre pa co e4 nm ts tn ms acs) ⟨(plsR (qI pre k)).r,roM pre pa co e4 nm ts tn ms acs⟩:=by
 unfold rdM rdS;have u1:ab (pre.map PList.enc)=true:=by simp
 have u2:ab (pa.map PathL.enc)=true:=by simp
 have u3:ab (co.map ComL.enc)=true:=by simp
 refine gvB (F:=Ri) ?_;refine au [11,9,10,4,1] [68,0,1,2,3,4,5,6] ?_;exact yx p4 pt pm pc l1 l2 l3 l4 l5 l6 l7 k pre [] _ _ _ _ 0 rfl rfl
theorem yw {pre:CL}{pa:CO}{co:CS}{e4 ts ms acs:B6}(p4:ab e4=true)(pt:ab ts=true)(pm:ab ms=true)(pc:ab acs=true)(l1:pre.length<2^30)(l2:pa.length<2^30)(l3:co.length<2^30)(l4:e4.length<2^30)(l5:ts.length<2^30)(l6:ms.length<2^30)(l7:acs.length<2^30){nm tn:B5}(k:B5): ∀(rest done:CO)(T:TV)(H:az)(c g:Nat)(i:Int)(e:pa=done++rest)(hi:i=done.length),
  Ev G ⟨ZN,⟨(11,.int .i64 i)::(9,.vs 1 0 pa.length)::(10,.int .i64 pa.length)::(4,.ref 68 g 0)::(1,.str k)::T,(68,some (g,.cells [.str [],.con (.slice none 0 0)]))::(0,some (0,.vec 2 (pre.map PList.enc)))::(1,some (0,.vec 2 (pa.map PathL.enc)))::(2,some (0,.vec 2 (co.map ComL.enc)))::(3,some (0,.vec 3 (e4++[[.str nm,.vs 4 0 (ts.length+1),.int .i64 0]])))::(4,some (0,.vec 4 (ts++[[.str tn,.vs 5 0 ms.length,.vs 6 0 acs.length,.int .i64 0]])))::(5,some (0,.vec 6 ms))::(6,some (0,.vec 5 acs))::H,c⟩,[.cell 4 (some 2),.t 5],7⟩ ⟨(palR (qJ rest k)).r,roM pre pa co e4 nm ts tn ms acs⟩
 | [],done,T,H,c,g,i,e,hi=>by
  have hl:=md0 e;have u1:ab (pre.map PList.enc)=true:=by simp
  have u2:ab (pa.map PathL.enc)=true:=by simp
  have u3:ab (co.map ComL.enc)=true:=by simp
  refine evA ?_;exact bi shM t7
 |x::rest,done,T,H,c,g,i,e,hi=>by
  have hl:=md e;have u1:ab (pre.map PList.enc)=true:=by simp
  have u2:ab (pa.map PathL.enc)=true:=by simp
  have u3:ab (co.map ComL.enc)=true:=by simp
  have lm:=ml pa PathL.enc;have hx:(pa.map PathL.enc)[i.toNat]? =some x.enc:=by rw[e,hi];simp
  have ih:=λT H c g=>yw p4 pt pm pc l1 l2 l3 l4 l5 l6 l7 (nm:=nm) (tn:=tn) k rest (done++[x]) T H c g (i+1) (by simp[e]) (by simp[hi])
  unfold PathL.enc at hx
  by_cases hk:x.name=k
  ·rw[qJ,Ac hk]
   refine evl ?_
   repeat' (first|refine bp ?_|apply ae<;>intro h)
   exact bi shM t7
  ·rw[qJ,Aa hk]
   refine evl ?_
   repeat' (first|refine bp ?_|apply ae<;>intro h)
   refine au [11,9,10,4,1] [68,0,1,2,3,4,5,6] ?_;exact ih _ _ _ _
theorem Me (p4:ab e4=true)(pt:ab ts=true)(pm:ab ms=true)(pc:ab acs=true)(l1:pre.length<2^30)(l2:pa.length<2^30)(l3:co.length<2^30)(l4:e4.length<2^30)(l5:ts.length<2^30)(l6:ms.length<2^30)(l7:acs.length<2^30){nm tn:B5}(k:B5):ag G 621 [rdS pre.length pa.length co.length e4.length,.str k] (rdM pre pa co e4 nm ts tn ms acs) ⟨(palR (qJ pa k)).r,roM pre pa co e4 nm ts tn ms acs⟩:=by
 unfold rdM rdS;have u1:ab (pre.map PList.enc)=true:=by simp
 have u2:ab (pa.map PathL.enc)=true:=by simp
 have u3:ab (co.map ComL.enc)=true:=by simp
 refine gvB (F:=Rh) ?_;refine au [11,9,10,4,1] [68,0,1,2,3,4,5,6] ?_;exact yw p4 pt pm pc l1 l2 l3 l4 l5 l6 l7 k pa [] _ _ _ _ 0 rfl rfl
end
theorem yv {pre:CL}{pa:CO}{co:CS}{e4 ts ms acs:B6}(p4:ab e4=true)(pt:ab ts=true)(pm:ab ms=true)(pc:ab acs=true)(l1:pre.length<2^30)(l2:pa.length<2^30)(l3:co.length<2^30)(l4:e4.length<2^30)(l5:ts.length<2^30)(l6:ms.length<2^30)(l7:acs.length<2^30){nm tn:B5}(k:B5): ∀(rest done:CS)(T:TV)(H:az)(c g:Nat)(i:Int)(e:co=done++rest)(hi:i=done.length),
  Ev G ⟨ZL,⟨(11,.int .i64 i)::(9,.vs 2 0 co.length)::(10,.int .i64 co.length)::(4,.ref 68 g 0)::(1,.str k)::T,(68,some (g,.cells [.str [],.con (.slice none 0 0)]))::(0,some (0,.vec 2 (pre.map PList.enc)))::(1,some (0,.vec 2 (pa.map PathL.enc)))::(2,some (0,.vec 2 (co.map ComL.enc)))::(3,some (0,.vec 3 (e4++[[.str nm,.vs 4 0 (ts.length+1),.int .i64 0]])))::(4,some (0,.vec 4 (ts++[[.str tn,.vs 5 0 ms.length,.vs 6 0 acs.length,.int .i64 0]])))::(5,some (0,.vec 6 ms))::(6,some (0,.vec 5 acs))::H,c⟩,[.cell 4 (some 2),.t 5],7⟩ ⟨(colR (qR rest k)).r,roM pre pa co e4 nm ts tn ms acs⟩
 | [],done,T,H,c,g,i,e,hi=>by
  have hl:=md0 e;have u1:ab (pre.map PList.enc)=true:=by simp
  have u2:ab (pa.map PathL.enc)=true:=by simp
  have u3:ab (co.map ComL.enc)=true:=by simp
  refine evA ?_;exact bi shM t7
 |x::rest,done,T,H,c,g,i,e,hi=>by
  have hl:=md e;have u1:ab (pre.map PList.enc)=true:=by simp
  have u2:ab (pa.map PathL.enc)=true:=by simp
  have u3:ab (co.map ComL.enc)=true:=by simp
  have lm:=ml co ComL.enc;have hx:(co.map ComL.enc)[i.toNat]? =some x.enc:=by rw[e,hi];simp
  have ih:=λT H c g=>yv p4 pt pm pc l1 l2 l3 l4 l5 l6 l7 (nm:=nm) (tn:=tn) k rest (done++[x]) T H c g (i+1) (by simp[e]) (by simp[hi])
  unfold ComL.enc at hx
  by_cases hk:x.name=k
  ·rw[qR,Ac hk]
   refine evl ?_
   repeat' (first|refine bp ?_|apply ae<;>intro h)
   exact bi shM t7
  ·rw[qR,Aa hk]
   refine evl ?_
   repeat' (first|refine bp ?_|apply ae<;>intro h)
   refine au [11,9,10,4,1] [68,0,1,2,3,4,5,6] ?_;exact ih _ _ _ _
section
variable {pre:CL}{pa:CO}{co:CS}{e4 ts ms acs:B6}(p4:ab e4=true)(pt:ab ts=true)(pm:ab ms=true)(pc:ab acs=true)(l1:pre.length<2^30)(l2:pa.length<2^30)(l3:co.length<2^30)(l4:e4.length<2^30)(l5:ts.length<2^30)(l6:ms.length<2^30)(l7:acs.length<2^30){nm tn:B5}(po:C0)(m:Mat)
include p4 pt pm pc l1 l2 l3 l4 l5 l6 l7
theorem Mb (k:B5):ag G 622 [rdS pre.length pa.length co.length e4.length,.str k] (rdM pre pa co e4 nm ts tn ms acs) ⟨(colR (qR co k)).r,roM pre pa co e4 nm ts tn ms acs⟩:=by
 unfold rdM rdS;have u1:ab (pre.map PList.enc)=true:=by simp
 have u2:ab (pa.map PathL.enc)=true:=by simp
 have u3:ab (co.map ComL.enc)=true:=by simp
 refine gvB (F:=Rf) ?_;refine au [11,9,10,4,1] [68,0,1,2,3,4,5,6] ?_;exact yv p4 pt pm pc l1 l2 l3 l4 l5 l6 l7 k co [] _ _ _ _ 0 rfl rfl
section
variable (hp:m.pfx.ok)
include hp
theorem aeL (hk:m.kind=1):ag G 574 [rdS pre.length pa.length co.length e4.length,.agg m.enc] (rdM pre pa co e4 nm ts tn ms acs) ⟨.int .i64 (ip ⟨pre,pa,co,po⟩ m),roM pre pa co e4 nm ts tn ms acs⟩:=by
 unfold rdM rdS;have u1:ab (pre.map PList.enc)=true:=by simp
 have u2:ab (pa.map PathL.enc)=true:=by simp
 have u3:ab (co.map ComL.enc)=true:=by simp
 have h0:=jl m.kind;have h1:ag G 179 [.agg [.int .u32 m.pfx.addr,.int .i64 m.pfx.len]] [] ⟨.bool (bu m.pfx),[]⟩:=eC m.pfx hp;obtain ⟨kd,mn,mN,⟨a,b⟩,ng⟩:=m;dsimp only at*;subst hk;simp (decide:=true) only[ip,XZ,sj,if_true,if_false,reduceIte] at h0⊢;generalize bu ⟨a,b⟩=v at*;have h2:=Mf (pre:=pre) (pa:=pa) (co:=co) p4 pt pm pc l1 l2 l3 l4 l5 l6 l7 (nm:=nm) (tn:=tn) mn;generalize qI pre mn=z at*
 by_cases c0:mN=0
 case neg=>
  refine gvC (F:=ii) ?_
  repeat' ((conv=>whnf);first|refine ft c0 ?_|refine aq ?_|apply ae<;>intro h)
  (conv=>whnf)
  exact bi shM t7 (e:=by simp[*]<;>exact ⟨rfl,rfl⟩)
 by_cases c1:a=0
 case neg=>
  refine gvC (F:=ii) ?_
  repeat' ((conv=>whnf);first|refine cK c0 ?_|refine ft c1 ?_|refine aq ?_|apply ae<;>intro h)
  (conv=>whnf)
  exact bi shM t7 (e:=by simp[*]<;>exact ⟨rfl,rfl⟩)
 by_cases c2:b=0
 case neg=>
  refine gvC (F:=ii) ?_
  repeat' ((conv=>whnf);first|refine cK c0 ?_|refine cK c1 ?_|refine ft c2 ?_|refine aq ?_|apply ae<;>intro h)
  (conv=>whnf)
  exact bi shM t7 (e:=by simp[*]<;>exact ⟨rfl,rfl⟩)
 rcases z with _|z<;>cases v
 all_goals
  refine gvC (F:=ii) ?_
  repeat' ((conv=>whnf);first|refine cK c0 ?_|refine cK c1 ?_|refine cK c2 ?_|refine aq ?_|apply ae<;>intro h)
  (conv=>whnf)
  refine kP shM [] Ph trivial h2 ?_
  repeat' (first|refine aW ?_|apply ae<;>intro h)
  all_goals ((conv=>whnf);exact bi shM t7 (e:=by simp[*]<;>exact ⟨rfl,rfl⟩))
theorem aeK (hk:m.kind=2):ag G 574 [rdS pre.length pa.length co.length e4.length,.agg m.enc] (rdM pre pa co e4 nm ts tn ms acs) ⟨.int .i64 (ip ⟨pre,pa,co,po⟩ m),roM pre pa co e4 nm ts tn ms acs⟩:=by
 unfold rdM rdS;have u1:ab (pre.map PList.enc)=true:=by simp
 have u2:ab (pa.map PathL.enc)=true:=by simp
 have u3:ab (co.map ComL.enc)=true:=by simp
 have h0:=jl m.kind;have h1:ag G 179 [.agg [.int .u32 m.pfx.addr,.int .i64 m.pfx.len]] [] ⟨.bool (bu m.pfx),[]⟩:=eC m.pfx hp;obtain ⟨kd,mn,mN,⟨a,b⟩,ng⟩:=m;dsimp only at*;subst hk;simp (decide:=true) only[ip,XY,sj,if_true,if_false,reduceIte] at h0⊢;generalize bu ⟨a,b⟩=v at*;have h2:=Me (pre:=pre) (pa:=pa) (co:=co) p4 pt pm pc l1 l2 l3 l4 l5 l6 l7 (nm:=nm) (tn:=tn) mn;generalize qJ pa mn=z at*
 by_cases c0:mN=0
 case neg=>
  refine gvC (F:=ii) ?_
  repeat' ((conv=>whnf);first|refine ft c0 ?_|refine aq ?_|apply ae<;>intro h)
  (conv=>whnf)
  exact bi shM t7 (e:=by simp[*]<;>exact ⟨rfl,rfl⟩)
 by_cases c1:a=0
 case neg=>
  refine gvC (F:=ii) ?_
  repeat' ((conv=>whnf);first|refine cK c0 ?_|refine ft c1 ?_|refine aq ?_|apply ae<;>intro h)
  (conv=>whnf)
  exact bi shM t7 (e:=by simp[*]<;>exact ⟨rfl,rfl⟩)
 by_cases c2:b=0
 case neg=>
  refine gvC (F:=ii) ?_
  repeat' ((conv=>whnf);first|refine cK c0 ?_|refine cK c1 ?_|refine ft c2 ?_|refine aq ?_|apply ae<;>intro h)
  (conv=>whnf)
  exact bi shM t7 (e:=by simp[*]<;>exact ⟨rfl,rfl⟩)
 rcases z with _|z<;>cases v
 all_goals
  refine gvC (F:=ii) ?_
  repeat' ((conv=>whnf);first|refine cK c0 ?_|refine cK c1 ?_|refine cK c2 ?_|refine aq ?_|apply ae<;>intro h)
  (conv=>whnf)
  refine kP shM [] Ph trivial h2 ?_
  repeat' (first|refine aW ?_|apply ae<;>intro h)
  all_goals ((conv=>whnf);exact bi shM t7 (e:=by simp[*]<;>exact ⟨rfl,rfl⟩))
theorem aeJ (hk:m.kind=3):ag G 574 [rdS pre.length pa.length co.length e4.length,.agg m.enc] (rdM pre pa co e4 nm ts tn ms acs) ⟨.int .i64 (ip ⟨pre,pa,co,po⟩ m),roM pre pa co e4 nm ts tn ms acs⟩:=by
 unfold rdM rdS;have u1:ab (pre.map PList.enc)=true:=by simp
 have u2:ab (pa.map PathL.enc)=true:=by simp
 have u3:ab (co.map ComL.enc)=true:=by simp
 have h0:=jl m.kind;have h1:ag G 179 [.agg [.int .u32 m.pfx.addr,.int .i64 m.pfx.len]] [] ⟨.bool (bu m.pfx),[]⟩:=eC m.pfx hp;obtain ⟨kd,mn,mN,⟨a,b⟩,ng⟩:=m;dsimp only at*;subst hk;simp (decide:=true) only[ip,XX,sj,if_true,if_false,reduceIte] at h0⊢;generalize bu ⟨a,b⟩=v at*;have h2:=Mb (pre:=pre) (pa:=pa) (co:=co) p4 pt pm pc l1 l2 l3 l4 l5 l6 l7 (nm:=nm) (tn:=tn) mn;generalize qR co mn=z at*
 by_cases c0:mN=0
 case neg=>
  refine gvC (F:=ii) ?_
  repeat' ((conv=>whnf);first|refine ft c0 ?_|refine aq ?_|apply ae<;>intro h)
  (conv=>whnf)
  exact bi shM t7 (e:=by simp[*]<;>exact ⟨rfl,rfl⟩)
 by_cases c1:a=0
 case neg=>
  refine gvC (F:=ii) ?_
  repeat' ((conv=>whnf);first|refine cK c0 ?_|refine ft c1 ?_|refine aq ?_|apply ae<;>intro h)
  (conv=>whnf)
  exact bi shM t7 (e:=by simp[*]<;>exact ⟨rfl,rfl⟩)
 by_cases c2:b=0
 case neg=>
  refine gvC (F:=ii) ?_
  repeat' ((conv=>whnf);first|refine cK c0 ?_|refine cK c1 ?_|refine ft c2 ?_|refine aq ?_|apply ae<;>intro h)
  (conv=>whnf)
  exact bi shM t7 (e:=by simp[*]<;>exact ⟨rfl,rfl⟩)
 rcases z with _|z<;>cases v
 all_goals
  refine gvC (F:=ii) ?_
  repeat' ((conv=>whnf);first|refine cK c0 ?_|refine cK c1 ?_|refine cK c2 ?_|refine aq ?_|apply ae<;>intro h)
  (conv=>whnf)
  refine kP shM [] Ph trivial h2 ?_
  repeat' (first|refine aW ?_|apply ae<;>intro h)
  all_goals ((conv=>whnf);exact bi shM t7 (e:=by simp[*]<;>exact ⟨rfl,rfl⟩))
theorem aeH (hk:m.kind=4∨m.kind=5∨m.kind=6∨m.kind=8):ag G 574 [rdS pre.length pa.length co.length e4.length,.agg m.enc] (rdM pre pa co e4 nm ts tn ms acs) ⟨.int .i64 (ip ⟨pre,pa,co,po⟩ m),roM pre pa co e4 nm ts tn ms acs⟩:=by
 unfold rdM rdS;have u1:ab (pre.map PList.enc)=true:=by simp
 have u2:ab (pa.map PathL.enc)=true:=by simp
 have u3:ab (co.map ComL.enc)=true:=by simp
 have h0:=jl m.kind;have h1:ag G 179 [.agg [.int .u32 m.pfx.addr,.int .i64 m.pfx.len]] [] ⟨.bool (bu m.pfx),[]⟩:=eC m.pfx hp;obtain ⟨kd,mn,mN,⟨a,b⟩,ng⟩:=m;dsimp only at*;rcases hk with hk|hk|hk|hk
 all_goals
  subst hk;simp (decide:=true) only[ip,Qk,Qj,Qi,Qh,Qg,sj,if_true,if_false,reduceIte] at h0⊢;generalize bu ⟨a,b⟩=v at*
  by_cases c0:mn= []
  case neg=>
   refine gvC (F:=ii) ?_
   repeat' ((conv=>whnf);first|refine PD c0 ?_|refine aq ?_|apply ae<;>intro h)
   (conv=>whnf)
   exact bi shM t7 (e:=by simp[*]<;>exact ⟨rfl,rfl⟩)
  by_cases c1:a=0
  case neg=>
   refine gvC (F:=ii) ?_
   repeat' ((conv=>whnf);first|refine wN c0 ?_|refine ft c1 ?_|refine aq ?_|apply ae<;>intro h)
   (conv=>whnf)
   exact bi shM t7 (e:=by simp[*]<;>exact ⟨rfl,rfl⟩)
  by_cases c2:b=0
  case neg=>
   refine gvC (F:=ii) ?_
   repeat' ((conv=>whnf);first|refine wN c0 ?_|refine cK c1 ?_|refine ft c2 ?_|refine aq ?_|apply ae<;>intro h)
   (conv=>whnf)
   exact bi shM t7 (e:=by simp[*]<;>exact ⟨rfl,rfl⟩)
  cases v
  all_goals
   refine gvC (F:=ii) ?_
   repeat' ((conv=>whnf);first|refine wN c0 ?_|refine cK c1 ?_|refine cK c2 ?_|refine aq ?_|apply ae<;>intro h)
  all_goals ((conv=>whnf);exact bi shM t7 (e:=by simp[*]<;>exact ⟨rfl,rfl⟩))
theorem aeI (hk:m.kind=7):ag G 574 [rdS pre.length pa.length co.length e4.length,.agg m.enc] (rdM pre pa co e4 nm ts tn ms acs) ⟨.int .i64 (ip ⟨pre,pa,co,po⟩ m),roM pre pa co e4 nm ts tn ms acs⟩:=by
 unfold rdM rdS;have u1:ab (pre.map PList.enc)=true:=by simp
 have u2:ab (pa.map PathL.enc)=true:=by simp
 have u3:ab (co.map ComL.enc)=true:=by simp
 have h0:=jl m.kind;have h1:ag G 179 [.agg [.int .u32 m.pfx.addr,.int .i64 m.pfx.len]] [] ⟨.bool (bu m.pfx),[]⟩:=eC m.pfx hp;obtain ⟨kd,mn,mN,⟨a,b⟩,ng⟩:=m;dsimp only at*
 skip
 all_goals
  subst hk;simp (decide:=true) only[ip,Qk,Qj,Qi,Qh,Qg,sj,if_true,if_false,reduceIte] at h0⊢;generalize bu ⟨a,b⟩=v at*
  by_cases c0:mn= []
  case neg=>
   refine gvC (F:=ii) ?_
   repeat' ((conv=>whnf);first|refine PD c0 ?_|refine aq ?_|apply ae<;>intro h)
   (conv=>whnf)
   exact bi shM t7 (e:=by simp[*]<;>exact ⟨rfl,rfl⟩)
  by_cases c1:mN=0
  case neg=>
   refine gvC (F:=ii) ?_
   repeat' ((conv=>whnf);first|refine wN c0 ?_|refine ft c1 ?_|refine aq ?_|apply ae<;>intro h)
   (conv=>whnf)
   exact bi shM t7 (e:=by simp[*]<;>exact ⟨rfl,rfl⟩)
  cases v
  all_goals
   refine gvC (F:=ii) ?_
   repeat' ((conv=>whnf);first|refine wN c0 ?_|refine cK c1 ?_|refine aq ?_|apply ae<;>intro h)
  all_goals ((conv=>whnf);exact bi shM t7 (e:=by simp[*]<;>exact ⟨rfl,rfl⟩))
theorem EZ:ag G 574 [rdS pre.length pa.length co.length e4.length,.agg m.enc] (rdM pre pa co e4 nm ts tn ms acs) ⟨.int .i64 (ip ⟨pre,pa,co,po⟩ m),roM pre pa co e4 nm ts tn ms acs⟩:=by
 have u1:ab (pre.map PList.enc)=true:=by simp
 have u2:ab (pa.map PathL.enc)=true:=by simp
 have u3:ab (co.map ComL.enc)=true:=by simp
 by_cases a:m.kind<1
 ·rw[ip,Ac a]
  unfold rdM rdS;refine gvB (F:=ii) ?_;exact bi shM t7
 by_cases b:8<m.kind
 ·rw[ip,Aa a,Ac b]
  unfold rdM rdS;refine gvB (F:=ii) ?_;exact bi shM t7
 by_cases k1:m.kind=1
 ·exact aeL p4 pt pm pc l1 l2 l3 l4 l5 l6 l7 po m hp k1
 by_cases k2:m.kind=2
 ·exact aeK p4 pt pm pc l1 l2 l3 l4 l5 l6 l7 po m hp k2
 by_cases k3:m.kind=3
 ·exact aeJ p4 pt pm pc l1 l2 l3 l4 l5 l6 l7 po m hp k3
 by_cases k7:m.kind=7
 ·exact aeI p4 pt pm pc l1 l2 l3 l4 l5 l6 l7 po m hp k7
 exact aeH p4 pt pm pc l1 l2 l3 l4 l5 l6 l7 po m hp (by omega)
end
end
end Go.AM.IR
