/- What functions of this program give. -/
import Derived.Test.YtomphmeopjpejaaGreatDoorDataV
import Derived.Test.YtomphmeopjpejaaGreatDoorDataQ
set_option linter.unusedSectionVars false
set_option linter.unusedVariables false
set_option linter.unusedSimpArgs false
set_option maxHeartbeats 4000000
set_option maxRecDepth 20000
namespace Go.AM.IR
theorem mt_k (h t:B5)(ng:Bool):(vt h t ng=none/\(mRt (kOf h kR 0 0) t ng).2=false)∨ ∃x,vt h t ng=some x/\mRt (kOf h kR 0 0) t ng=(x,true):=by
 have num: ∀k:Int,4<=k->k≠7->(gJ k ng (n32 t)=none/\(mRt k t ng).2=false)∨ ∃x,gJ k ng (n32 t)=some x/\mRt k t ng=(x,true):=by
  intro k h4 h7;have e:mRt k t ng=(⟨k,[],(J.fNum 4294967295 t).1,⟨0,0⟩,ng⟩,decide ((J.fNum 4294967295 t).2=0)):=by grind [mRt]
  rw[e];unfold n32
  by_cases q:(J.fNum 4294967295 t).2=0
  ·right;rw[Ac q];exact ⟨_,rfl,by simp[q]⟩
  ·left;rw[Aa q];exact ⟨rfl,by simp[q]⟩
 unfold vt
 by_cases c1:h=cH
 ·right;rw[Ac c1,c1];exact ⟨_,rfl,rfl⟩
 by_cases c2:h=cG
 ·right;rw[Aa c1,Ac c2,c2];exact ⟨_,rfl,rfl⟩
 by_cases c3:h=cz
 ·right;rw[Aa c1,Aa c2,Ac c3,c3];exact ⟨_,rfl,rfl⟩
 rw[Aa c1,Aa c2,Aa c3]
 by_cases c4:h=ib
 ·rw[Ac c4,c4];exact num 4 (by decide) (by decide)
 by_cases c5:h=kM
 ·rw[Aa c4,Ac c5,c5];exact num 5 (by decide) (by decide)
 by_cases c6:h=fE
 ·rw[Aa c4,Aa c5,Ac c6,c6];exact num 6 (by decide) (by decide)
 by_cases c7:h=ic
 ·rw[Aa c4,Aa c5,Aa c6,Ac c7,c7];exact num 8 (by decide) (by decide)
 rw[Aa c4,Aa c5,Aa c6,Aa c7]
 by_cases c8:h=gy
 ·rw[Ac c8,c8]
  have e:mRt (kOf gy kR 0 0) t ng=(⟨7,[],0,(J.psR t).1,ng⟩,decide ((J.psR t).2=0)):=rfl
  grind
 ·left
  rw[Aa c8];refine ⟨rfl,?_⟩;simp only[kR,kOf,Aa c1,Aa c2,Aa c3,Aa c4,Aa c5,Aa c6,Aa c7,Aa c8];rfl
theorem mt_2 (l:CF)(ng:Bool):(qg l ng=none/\(nW l ng).2=false)∨ ∃x,qg l ng=some x/\nW l ng=(x,true):=by
 rcases l with _|⟨k,_|⟨t,_|⟨u,r⟩⟩⟩
 ·left;exact ⟨rfl,rfl⟩
 ·left;exact ⟨rfl,rfl⟩
 ·simp only[qg,nW]
  by_cases q:t= []
  ·left;rw[Ac q,Ac q];exact ⟨rfl,rfl⟩
  grind [mt_k]
 ·left;exact ⟨rfl,rfl⟩
theorem mt_S (l:CF):(r7 l=none/\(mtS l).2=false)∨ ∃x,r7 l=some x/\mtS l=(x,true):=by
 rcases l with _|⟨w,r⟩
 ·left;exact ⟨rfl,rfl⟩
 grind [r7,mtS,mt_2]
theorem IJ:Pfx.ok ⟨0,0⟩:=⟨by grind [okU],by grind [okI]⟩
theorem ae4 {k:Int}{t:B5}{ng:Bool}(h:(mRt k t ng).2=true):(mRt k t ng).1.pfx.ok:=by
 grind [mRt,IJ,J.psR_ok]
theorem acU {l:CF}{ng:Bool}(h:(nW l ng).2=true):(nW l ng).1.pfx.ok:=by
 rcases l with _|⟨k,_|⟨t,_|⟨u,r⟩⟩⟩
 ·cases h
 ·cases h
 ·simp only[nW] at h⊢
  split
  ·exact IJ
  grind [ae4]
 ·cases h
theorem aeG {l:CF}(h:(mtS l).2=true):(mtS l).1.pfx.ok:=by
 rcases l with _|⟨w,r⟩
 ·cases h
 grind [mtS,acU]
theorem Wa {k:Int}{t:B5}{r:CF}(h:r≠ [])(h8:k≠8∨ ∀u,r≠ [u]):(aRt k t r).2=false:=by
 unfold aRt
 grind
theorem ac_k (w t:B5)(hw:w≠jd):kOf w jx 0 0≠8/\((yp w t=none/\(aRt (kOf w jx 0 0) t []).2=false)∨ ∃x,yp w t=some x/\aRt (kOf w jx 0 0) t []=(x,true)):=by
 have num: ∀k:Int,k≠0->k<5->(mj k (n32 t)=none/\(aRt k t []).2=false)∨ ∃x,mj k (n32 t)=some x/\aRt k t []=(x,true):=by
  intro k h0 h5;have e:aRt k t []=(⟨k,(J.fNum 4294967295 t).1,0,0,0⟩,decide (([]:CF)= []/\(J.fNum 4294967295 t).2=0)):=by grind [aRt]
  rw[e];unfold n32
  by_cases q:(J.fNum 4294967295 t).2=0
  ·right;rw[Ac q];exact ⟨_,rfl,by simp[q]⟩
  ·left;rw[Aa q];exact ⟨rfl,by simp[q]⟩
 have com: ∀k:Int,k=6∨k=7->(qC k (cmP t)=none/\(aRt k t []).2=false)∨ ∃x,qC k (cmP t)=some x/\aRt k t []=(x,true):=by
  intro k hk;unfold aRt;rw[Aa (by omega),Aa (by omega),Ac hk]
  rcases cmP t with _|v
  ·left;exact ⟨rfl,rfl⟩
  ·right;exact ⟨_,rfl,rfl⟩
 unfold yp
 by_cases c1:w=ot
 ·rw[Ac c1,c1];exact ⟨by decide,num 1 (by decide) (by decide)⟩
 by_cases c2:w=r6
 ·rw[Aa c1,Ac c2,c2];exact ⟨by decide,num 2 (by decide) (by decide)⟩
 by_cases c3:w=jU
 ·rw[Aa c1,Aa c2,Ac c3,c3];exact ⟨by decide,num 3 (by decide) (by decide)⟩
 by_cases c4:w=r0
 ·rw[Aa c1,Aa c2,Aa c3,Ac c4,c4];exact ⟨by decide,num 4 (by decide) (by decide)⟩
 rw[Aa c1,Aa c2,Aa c3,Aa c4]
 by_cases c5:w=nr
 ·rw[Ac c5,c5]
  refine ⟨by decide,?_⟩
  have e:aRt (kOf nr jx 0 0) t []=(⟨5,0,0,0,(J.paP t).1⟩,decide (([]:CF)= []/\(J.paP t).2=0)):=rfl
  grind
 by_cases c6:w=sa
 ·rw[Aa c5,Ac c6,c6];exact ⟨by decide,com 6 (.inl rfl)⟩
 by_cases c7:w=r8
 ·rw[Aa c5,Aa c6,Ac c7,c7];exact ⟨by decide,com 7 (.inr rfl)⟩
 have e:kOf w jx 0 0=0:=by simp_all[jx,kOf]
 rw[Aa c5,Aa c6,Aa c7,e];exact ⟨by decide,.inl ⟨rfl,rfl⟩⟩
theorem ac_S (l:CF):(oZ l=none/\(iO l).2=false)∨ ∃x,oZ l=some x/\iO l=(x,true):=by
 rcases l with _|⟨w,_|⟨t,_|⟨u,_|⟨v,r⟩⟩⟩⟩
 ·left;exact ⟨rfl,rfl⟩
 ·left;exact ⟨rfl,rfl⟩
 ·simp only[oZ,iO]
  by_cases q:w=jd
  ·left;rw[Ac q,q];exact ⟨rfl,rfl⟩
  grind [ac_k]
 ·simp only[oZ,iO]
  by_cases q:w=jd
  ·rw[Ac q,q]
   have e:aRt (kOf jd jx 0 0) t [u]=(⟨8,(J.fNum 4294967295 u).1,(J.fNum 4294967295 t).1,0,0⟩,decide ((J.fNum 4294967295 t).2=0/\(J.fNum 4294967295 u).2=0)):=rfl;rw[e];unfold n32
   by_cases a:(J.fNum 4294967295 t).2=0
   ·by_cases b:(J.fNum 4294967295 u).2=0
    ·right;rw[Ac a,Ac b];exact ⟨_,rfl,by grind⟩
    ·left;rw[Ac a,Aa b];exact ⟨rfl,by simp[b]⟩
   ·left;rw[Aa a];exact ⟨by split<;>rfl,by simp[a]⟩
  ·left;rw[Aa q];exact ⟨rfl,Wa (by simp) (.inl (ac_k w t q).1)⟩
 ·left;exact ⟨rfl,Wa (by simp) (.inr λu q=>by simp at q)⟩
theorem vC {α:Type}(l:List α)(enc:α->B7)(name:α->B5)(he: ∀x,∃tl,enc x= .str (name x)::tl)(t:B5):
  ∃b,(((l.map enc).length=0/\b= [])∨(0<(l.map enc).length/\ ∃a,(l.map enc)[(((l.map enc).length:Int)-1).toNat]? =some (.str b::a)))/\hdX (l.map enc).length t b=hdQ (l.map name) t:=by
 rcases List.eq_nil_or_concat l with rfl|⟨l',x,rfl⟩
 ·grind [hdX,hdQ,yQ,eW]
 ·obtain ⟨tl,e⟩:=he x
  refine ⟨name x,.inr ⟨by simp,tl,?_⟩,?_⟩
  ·simp_all
  ·simp only[hdX,hdQ,yQ,eW,List.concat_eq_append,List.map_append,An,A6,Ao,As,List.length_singleton]
   grind
theorem ae8 (w:B5):kOf w cj 0 0=bn w:=by
 grind [bn,cH,cG,cz,gv,cj,kOf]
theorem iu: ∀s:B5,(wds s).length<=s.length+1/\ ∀u∈wds s,u.length<=s.length
 | []=>by simp[wds]
 |c::r=>by
  obtain ⟨h1,h2⟩:=iu r
  grind [wds]
theorem afj {st:PS}{s:B5}{mo:Int}(h: ∀w t,wds s= [w,t]-> ¬(t≠ []/\st.inPol=false/\bn w≠0/\st.grp<=bn w))(hp:st.inPol=false):hNo mo st.grp (wds s):=by
 by_cases hl:(wds s).length=2
 ·obtain ⟨w,t,e⟩: ∃w t,wds s= [w,t]:=by
   generalize wds s=l at hl⊢;rcases l with _|⟨w,_|⟨t,_|⟨x,r⟩⟩⟩
   all_goals grind
  refine .inr ⟨w,t,e,?_⟩
  grind [ae8]
 ·exact .inl hl
theorem W5 (st:PS)(s:B5):(∃w t,wds s= [w,t]/\t≠ []/\st.inPol=false/\bn w≠0/\st.grp<=bn w/\ns st s=yo st.set w t)∨(ns st s=br st s (wds s)/\(st.inPol=false-> ∀mo,hNo mo st.grp (wds s))):=by
 grind [ns,afj]
theorem Yi {n:Nat}{e:Int}:(if 64<((n+1:Nat):Int) then 4 else e)=if 64<=n then 4 else e:=by
 omega
theorem aZ {α:Type}{l:List α}{f:α->B7}{n:Nat}(h:l.length<n):(l.map f).length<n:=by grind
theorem cp (l:CL):ab (l.map PList.enc)=true:=by simp
theorem cq (l:CO):ab (l.map PathL.enc)=true:=by simp
theorem cr (l:CS):ab (l.map ComL.enc)=true:=by simp
theorem bM (l:C0):ab (l.map Pol.enc)=true:=by simp
section
variable (pre:CL)(pa:CO)(co:CS)(po:C0)(nm:B5)(rl:DN)
def Ln1 (s:B5):Prop:= ∃(E:Int)(n2:Nat)(rl2:B6)(f:Bool),ab rl2=true/\ag G 553 [.ref 0 0 0,.str s] (j3 (pre.map PList.enc) (pa.map PathL.enc) (co.map ComL.enc) (po.map Pol.enc) nm (rl.map RuleP.enc)) ⟨.int .i64 E,nT (pre.map PList.enc) (pa.map PathL.enc) (co.map ComL.enc) (po.map Pol.enc) nm n2 f rl2⟩/\
  ((E≠0/\br (.pre pre pa co po nm rl) s (wds s)= .err E)∨(E=0/\ ∃x,br (.pre pre pa co po nm rl) s (wds s)= .ok (.pre pre pa co po nm (rl++[x]))/\n2=(rl.map RuleP.enc).length+1/\rl2=rl.map RuleP.enc++[x.enc]))
theorem ahb (l1:pre.length<2^30)(l2:pa.length<2^30)(l3:co.length<2^30)(l4:po.length<2^30)(lr0:rl.length<2^30)(s:B5)(hs:s.length<2^29)(hno:hNo 1 1 (wds s)):Ln1 pre pa co po nm rl s:=by
 have pr:ab (rl.map RuleP.enc)=true:=by simp
 have lr:(rl.map RuleP.enc).length<2^30:=aZ lr0;have hs:s.length<2^30:=by omega
 have go: ∀ {n2 rl2 f E},ab rl2=true->ag G 602 [.ref 0 0 0,.str s] (j3 (pre.map PList.enc) (pa.map PathL.enc) (co.map ComL.enc) (po.map Pol.enc) nm (rl.map RuleP.enc)) ⟨.int .i64 E,nT (pre.map PList.enc) (pa.map PathL.enc) (co.map ComL.enc) (po.map Pol.enc) nm n2 f rl2⟩->_:=λz h3=>ag5 (cp pre) (cq pa) (cr co) (bM po) (aZ l1) (aZ l2) (aZ l3) (aZ l4) pr lr z s hs (by have:=(iu s).1;omega) hno _ h3
 have bad:ag G 602 [.ref 0 0 0,.str s] (j3 (pre.map PList.enc) (pa.map PathL.enc) (co.map ComL.enc) (po.map Pol.enc) nm (rl.map RuleP.enc)) ⟨.int .i64 2,nT (pre.map PList.enc) (pa.map PathL.enc) (co.map ComL.enc) (po.map Pol.enc) nm (rl.map RuleP.enc).length true (rl.map RuleP.enc)⟩->br (.pre pre pa co po nm rl) s (wds s)= .err 2->Ln1 pre pa co po nm rl s:=λh3 hE=>⟨_,_,_,_,pr,go pr h3,.inl ⟨by decide,hE⟩⟩
 rcases hp:pmR s with _|⟨b,t⟩
 ·exact bad (aea (cp pre) (cq pa) (cr co) (bM po) (aZ l1) (aZ l2) (aZ l3) (aZ l4) pr lr s hs hp) (by rw[br,hp])
 by_cases hr:(J.refP s).2=0
 ·have h3:=acg (cp pre) (cq pa) (cr co) (bM po) (aZ l1) (aZ l2) (aZ l3) (aZ l4) (nm:=nm) pr lr s t b hs hp hr
  rw[Yi] at h3
  have hz:ab ((rl.map RuleP.enc)++[(J.refP s).1.enc])=true:=by
   rw[dx,pr];rfl
  refine ⟨_,_,_,_,hz,go hz h3,?_⟩;rw[br,hp];dsimp only;rw[Aa (nn2 hr)]
  by_cases hk:64<=rl.length
  ·have hk2:64<=(rl.map RuleP.enc).length:=by simpa using hk
   left;simp only[Ac hk,Ac hk2];exact ⟨by decide,trivial⟩
  ·have hk2: ¬64<=(rl.map RuleP.enc).length:=by simpa using hk
   right;simp only[Aa hk,Aa hk2];exact ⟨(by first|rfl|trivial),⟨(J.refP s).1.permit,(J.refP s).1.pfx,(J.refP s).1.min,(J.refP s).1.max⟩,(by first|rfl|trivial),(by first|rfl|trivial),(by first|rfl|trivial)⟩
 ·exact bad (acd (cp pre) (cq pa) (cr co) (bM po) (aZ l1) (aZ l2) (aZ l3) (aZ l4) pr lr s t b hs hp hr) (by rw[br,hp];dsimp only;rw[Ac hr])
def Ln2 (rl:DO)(s:B5):Prop:= ∃(E:Int)(n2:Nat)(rl2:B6)(f:Bool),ab rl2=true/\ag G 553 [.ref 0 0 0,.str s] (jZ (pre.map PList.enc) (pa.map PathL.enc) (co.map ComL.enc) (po.map Pol.enc) nm (rl.map PathR.enc)) ⟨.int .i64 E,nR (pre.map PList.enc) (pa.map PathL.enc) (co.map ComL.enc) (po.map Pol.enc) nm n2 f rl2⟩/\
  ((E≠0/\br (.pat pre pa co po nm rl) s (wds s)= .err E)∨(E=0/\ ∃x,br (.pat pre pa co po nm rl) s (wds s)= .ok (.pat pre pa co po nm (rl++[x]))/\n2=(rl.map PathR.enc).length+1/\rl2=rl.map PathR.enc++[x.enc]))
theorem aha (rl:DO)(l1:pre.length<2^30)(l2:pa.length<2^30)(l3:co.length<2^30)(l4:po.length<2^30)(lr0:rl.length<2^30)(s:B5)(hs:s.length<2^29)(hno:hNo 2 2 (wds s)):Ln2 pre pa co po nm rl s:=by
 have pr:ab (rl.map PathR.enc)=true:=by simp
 have lr:(rl.map PathR.enc).length<2^30:=aZ lr0;have hs:s.length<2^30:=by omega
 have go: ∀ {n2 rl2 f E},ab rl2=true->ag G 602 [.ref 0 0 0,.str s] (jZ (pre.map PList.enc) (pa.map PathL.enc) (co.map ComL.enc) (po.map Pol.enc) nm (rl.map PathR.enc)) ⟨.int .i64 E,nR (pre.map PList.enc) (pa.map PathL.enc) (co.map ComL.enc) (po.map Pol.enc) nm n2 f rl2⟩->_:=λz h3=>ag4 (cp pre) (cq pa) (cr co) (bM po) (aZ l1) (aZ l2) (aZ l3) (aZ l4) pr lr z s hs (by have:=(iu s).1;omega) hno _ h3
 have bad:ag G 602 [.ref 0 0 0,.str s] (jZ (pre.map PList.enc) (pa.map PathL.enc) (co.map ComL.enc) (po.map Pol.enc) nm (rl.map PathR.enc)) ⟨.int .i64 2,nR (pre.map PList.enc) (pa.map PathL.enc) (co.map ComL.enc) (po.map Pol.enc) nm (rl.map PathR.enc).length true (rl.map PathR.enc)⟩->br (.pat pre pa co po nm rl) s (wds s)= .err 2->Ln2 pre pa co po nm rl s:=λh3 hE=>⟨_,_,_,_,pr,go pr h3,.inl ⟨by decide,hE⟩⟩
 rcases hp:pmR s with _|⟨b,t⟩
 ·exact bad (ad9 (cp pre) (cq pa) (cr co) (bM po) (aZ l1) (aZ l2) (aZ l3) (aZ l4) pr lr s hs hp) (by rw[br,hp])
 rcases hr:ff t with _|v
 ·exact bad (acb (cp pre) (cq pa) (cr co) (bM po) (aZ l1) (aZ l2) (aZ l3) (aZ l4) pr lr s t b hs hp hr) (by rw[br,hp];dsimp only;rw[hr];rfl)
 ·have hs1:(ff t).isSome=true:=by rw[hr];rfl
  have h3:=acf (cp pre) (cq pa) (cr co) (bM po) (aZ l1) (aZ l2) (aZ l3) (aZ l4) (nm:=nm) pr lr s t b hs hp hs1;rw[Yi] at h3;have hz:ab ((rl.map PathR.enc)++[[AV.bool b,AV.str t]])=true:=by rw[dx,pr];rfl
  refine ⟨_,_,_,_,hz,go hz h3,?_⟩;rw[br,hp];dsimp only
  by_cases hk:64<=rl.length
  ·have hk2:64<=(rl.map PathR.enc).length:=by simpa using hk
   left;simp only[Ac hs1,Ac hk,Ac hk2];exact ⟨by decide,trivial⟩
  ·have hk2: ¬64<=(rl.map PathR.enc).length:=by simpa using hk
   right;simp only[Ac hs1,Aa hk,Aa hk2];exact ⟨(by first|rfl|trivial),⟨b,t⟩,(by first|rfl|trivial),(by first|rfl|trivial),(by first|rfl|trivial)⟩
def Ln3 (rl:DR)(s:B5):Prop:= ∃(E:Int)(n2:Nat)(rl2:B6)(f:Bool),ab rl2=true/\ag G 553 [.ref 0 0 0,.str s] (ju (pre.map PList.enc) (pa.map PathL.enc) (co.map ComL.enc) (po.map Pol.enc) nm (rl.map ComR.enc)) ⟨.int .i64 E,mC (pre.map PList.enc) (pa.map PathL.enc) (co.map ComL.enc) (po.map Pol.enc) nm n2 f rl2⟩/\
  ((E≠0/\br (.com pre pa co po nm rl) s (wds s)= .err E)∨(E=0/\ ∃x,br (.com pre pa co po nm rl) s (wds s)= .ok (.com pre pa co po nm (rl++[x]))/\n2=(rl.map ComR.enc).length+1/\rl2=rl.map ComR.enc++[x.enc]))
theorem ag9 (rl:DR)(l1:pre.length<2^30)(l2:pa.length<2^30)(l3:co.length<2^30)(l4:po.length<2^30)(lr0:rl.length<2^30)(s:B5)(hs:s.length<2^29)(hno:hNo 3 3 (wds s)):Ln3 pre pa co po nm rl s:=by
 have pr:ab (rl.map ComR.enc)=true:=by simp
 have lr:(rl.map ComR.enc).length<2^30:=aZ lr0;have hs:s.length<2^30:=by omega
 have go: ∀ {n2 rl2 f E},ab rl2=true->ag G 602 [.ref 0 0 0,.str s] (ju (pre.map PList.enc) (pa.map PathL.enc) (co.map ComL.enc) (po.map Pol.enc) nm (rl.map ComR.enc)) ⟨.int .i64 E,mC (pre.map PList.enc) (pa.map PathL.enc) (co.map ComL.enc) (po.map Pol.enc) nm n2 f rl2⟩->_:=λz h3=>ag3 (cp pre) (cq pa) (cr co) (bM po) (aZ l1) (aZ l2) (aZ l3) (aZ l4) pr lr z s hs (by have:=(iu s).1;omega) hno _ h3
 have bad:ag G 602 [.ref 0 0 0,.str s] (ju (pre.map PList.enc) (pa.map PathL.enc) (co.map ComL.enc) (po.map Pol.enc) nm (rl.map ComR.enc)) ⟨.int .i64 2,mC (pre.map PList.enc) (pa.map PathL.enc) (co.map ComL.enc) (po.map Pol.enc) nm (rl.map ComR.enc).length true (rl.map ComR.enc)⟩->br (.com pre pa co po nm rl) s (wds s)= .err 2->Ln3 pre pa co po nm rl s:=λh3 hE=>⟨_,_,_,_,pr,go pr h3,.inl ⟨by decide,hE⟩⟩
 rcases hp:pmR s with _|⟨b,t⟩
 ·exact bad (ad8 (cp pre) (cq pa) (cr co) (bM po) (aZ l1) (aZ l2) (aZ l3) (aZ l4) pr lr s hs hp) (by rw[br,hp])
 have hE3:br (.com pre pa co po nm rl) s (wds s)=if (eY b t rl.length).1=0 then .ok (.com pre pa co po nm (rl++[(eY b t rl.length).2])) else .err (eY b t rl.length).1:=by rw[br,hp]
 have b2:eY b t rl.length=(2,⟨b,0,0⟩)->br (.com pre pa co po nm rl) s (wds s)= .err 2:=λhv=>by rw[hE3,hv];rfl
 rcases hc:fM t with _|⟨x,y⟩
 ·exact bad (WO (cp pre) (cq pa) (cr co) (bM po) (aZ l1) (aZ l2) (aZ l3) (aZ l4) pr lr s t b hs hp hc) (b2 (by simp only[eY,hc]))
 rcases hx:eN x with _|v
 ·exact bad (GU (cp pre) (cq pa) (cr co) (bM po) (aZ l1) (aZ l2) (aZ l3) (aZ l4) pr lr s t x y b hs hp hc (.inl hx)) (b2 (by simp only[eY,hc,hx]))
 rcases hy:eN y with _|w
 ·exact bad (GU (cp pre) (cq pa) (cr co) (bM po) (aZ l1) (aZ l2) (aZ l3) (aZ l4) pr lr s t x y b hs hp hc (.inr hy)) (b2 (by simp only[eY,hc,hx,hy]))
 have h3:=ace (cp pre) (cq pa) (cr co) (bM po) (aZ l1) (aZ l2) (aZ l3) (aZ l4) (nm:=nm) pr lr s t x y b hs hp hc v w hx hy;rw[Yi] at h3;have hz:ab ((rl.map ComR.enc)++[[AV.bool b,AV.int .i64 v,AV.int .i64 w]])=true:=by rw[dx,pr];rfl
 refine ⟨_,_,_,_,hz,go hz h3,?_⟩;have hv:eY b t rl.length=if rl.length<64 then (jP ⟨b,v,w⟩,⟨b,v,w⟩) else (4,⟨b,0,0⟩):=by simp only[eY,hc,hx,hy]
 rw[hE3,hv]
 by_cases hk:64<=rl.length
 ·have hk2:64<=(rl.map ComR.enc).length:=by simpa using hk
  have hk3: ¬rl.length<64:=by omega
  left;simp only[Aa hk3,Ac hk2];exact ⟨by decide,rfl⟩
 ·have hk2: ¬64<=(rl.map ComR.enc).length:=by simpa using hk
  have hk3:rl.length<64:=by omega
  simp only[Ac hk3,Aa hk2]
  by_cases hv:jP ⟨b,v,w⟩=0
  ·right;rw[Ac hv];exact ⟨hv,⟨b,v,w⟩,(by first|rfl|trivial),(by first|rfl|trivial),(by first|rfl|trivial)⟩
  ·left;rw[Aa hv];exact ⟨hv,rfl⟩
section
variable (ts:C4)(tn:B5)(ms:C9)(acs:C8)(s:B5)
def Ln4:Prop:= ∃(E mo2:Int)(n2:Nat)(v2:Int)(ts2:B6)(f:Bool),ab ts2=true/\ag G 553 [.ref 0 0 0,.str s] (rdC (pre.map PList.enc) (pa.map PathL.enc) (co.map ComL.enc) (po.map Pol.enc) nm (ts.map Trm.enc)) ⟨.int .i64 E,roC mo2 (pre.map PList.enc) (pa.map PathL.enc) (co.map ComL.enc) (po.map Pol.enc) nm n2 v2 f ts2⟩/\
  ((E≠0/\br (.pol pre pa co po nm ts) s (wds s)= .err E)∨(E=0/\mo2=0/\n2=(ts.map Trm.enc).length/\ts2=(ts.map Trm.enc)/\br (.pol pre pa co po nm ts) s (wds s)= .ok (.top pre pa co (po++[⟨nm,ts,v2⟩]) 4))∨
   (E=0/\mo2=5/\n2=(ts.map Trm.enc).length+1/\v2=0/\ ∃t,ts2=((ts.map Trm.enc)++[[AV.str t,AV.con (.slice none 0 0),AV.con (.slice none 0 0),AV.int .i64 0]])/\br (.pol pre pa co po nm ts) s (wds s)= .ok (.term pre pa co po nm ts t [] [])))
theorem ag8 (l1:pre.length<2^30)(l2:pa.length<2^30)(l3:co.length<2^30)(l4:po.length<2^30)(lt0:ts.length<2^30)(s:B5)(hs:s.length<2^29):Ln4 pre pa co po nm ts s:=by
 have pt:ab (ts.map Trm.enc)=true:=by simp
 have lt:(ts.map Trm.enc).length<2^30:=aZ lt0;have hs:s.length<2^30:=by omega
 have et:=ml ts Trm.enc;have go: ∀ {n2 mo2 v2 ts2 f E},ab ts2=true->ag G 600 [.ref 0 0 0,.sl 1 ((wds s).map ah)] (rdC (pre.map PList.enc) (pa.map PathL.enc) (co.map ComL.enc) (po.map Pol.enc) nm (ts.map Trm.enc)) ⟨.int .i64 E,roC mo2 (pre.map PList.enc) (pa.map PathL.enc) (co.map ComL.enc) (po.map Pol.enc) nm n2 v2 f ts2⟩->_:=λz h3=>ln_C (cp pre) (cq pa) (cr co) (bM po) (aZ l1) (aZ l2) (aZ l3) (aZ l4) pt lt z s hs (by have:=(iu s).1;omega) _ h3
 have bad:((wds s).length≠2∨ ∃w t,wds s= [w,t]/\(t= []∨(w≠qb/\w≠d8)))->br (.pol pre pa co po nm ts) s (wds s)= .err 2->Ln4 pre pa co po nm ts s:=λh hE=>
  ⟨_,_,_,_,_,_,pt,go pt (afi (cp pre) (cq pa) (cr co) (bM po) (aZ l1) (aZ l2) (aZ l3) (aZ l4) (nm:=nm) lt0 (wds s) (by have:=(iu s).1;omega) h),.inl ⟨by decide,hE⟩⟩
 by_cases hl:(wds s).length=2
 ·obtain ⟨w,t,e⟩:=oV hl
  have hst:t.length<2^30:=by have:=(iu s).2 t (by rw[e];simp);omega
  by_cases t0:t= []
  ·exact bad (.inr ⟨w,t,e,.inl t0⟩) (by rw[e,br,Ac t0])
  by_cases c1:w=qb
  ·by_cases hv:cZ t=1∨cZ t=2
   ·have q:=go pt (by rw[e,c1];exact afh (cp pre) (cq pa) (cr co) (bM po) (aZ l1) (aZ l2) (aZ l3) (aZ l4) (nm:=nm) lt0 t t0 hv)
    refine ⟨_,_,_,_,_,_,pt,q,.inr (.inl ⟨rfl,rfl,rfl,rfl,?_⟩)⟩;rw[e,br,Aa t0,Ac c1];rcases hv with hv|hv
    ·rw[Ac hv,hv]
    ·rw[Aa (by rw[hv];decide),Ac hv,hv]
   ·have q:=go pt (by rw[e,c1];exact ada (cp pre) (cq pa) (cr co) (bM po) (aZ l1) (aZ l2) (aZ l3) (aZ l4) (nm:=nm) lt0 t t0 hv)
    refine ⟨_,_,_,_,_,_,pt,q,.inl ⟨by decide,?_⟩⟩
    rw[e,br,Aa t0,Ac c1,Aa (λx=>hv (.inl x)),Aa (λx=>hv (.inr x))]
  by_cases c2:w=d8
  ·have pz:ab ((ts.map Trm.enc)++[[AV.str t,AV.con (.slice none 0 0),AV.con (.slice none 0 0),AV.int .i64 0]])=true:=by rw[dx,pt];rfl
   have r1:br (.pol pre pa co po nm ts) s (wds s)=if 64<=ts.length then .err 4 else if nmB t=false then .err 1 else if ts.any (λu=>u.name==t) then .err 7 else .ok (.term pre pa co po nm ts t [] []):=by
    rw[e,br,Aa t0,Aa c1,Aa (nn2 c2)]
   by_cases hk:64<=ts.length
   ·have q:=go pz (by rw[e,c2];exact ac9 (cp pre) (cq pa) (cr co) (bM po) (aZ l1) (aZ l2) (aZ l3) (aZ l4) (nm:=nm) lt0 t hst t0 hk)
    exact ⟨_,_,_,_,_,_,pz,q,.inl ⟨by decide,by rw[r1,Ac hk]⟩⟩
   rcases hm:nmB t with _|_
   ·have q:=go pz (by rw[e,c2];exact ac8 (cp pre) (cq pa) (cr co) (bM po) (aZ l1) (aZ l2) (aZ l3) (aZ l4) (nm:=nm) lt0 t hst t0 (by omega) hm)
    exact ⟨_,_,_,_,_,_,pz,q,.inl ⟨by decide,by rw[r1,Aa hk,Ac hm]⟩⟩
   ·have q:=go pz (by rw[e,c2];exact ahc (cp pre) (cq pa) (cr co) (bM po) (aZ l1) (aZ l2) (aZ l3) (aZ l4) (nm:=nm) lt0 t hst t0 (by omega) hm)
    refine ⟨_,_,_,_,_,_,pz,q,?_⟩;have hm2: ¬nmB t=false:=by rw[hm];decide
    by_cases hy:ts.any (λu=>u.name==t)=true
    ·left;rw[r1];simp only[Aa hk,Aa hm2,Ac hy];exact ⟨by decide,trivial⟩
    ·right;right;rw[r1];simp only[Aa hk,Aa hm2,Aa hy];exact ⟨trivial,trivial,by rw[et],trivial,t,rfl,rfl⟩
  ·exact bad (.inr ⟨w,t,e,.inr ⟨c1,c2⟩⟩) (by rw[e,br,Aa t0,Aa c1,Ac c2])
 ·refine bad (.inl hl) ?_
  rcases hq:wds s with _|⟨w,_|⟨t,_|⟨x,r⟩⟩⟩
  ·rfl
  ·rfl
  ·rw[hq] at hl;exact absurd rfl hl
  ·rfl
def Ln5:Prop:= ∃(E mo2:Int)(n6 n7:Nat)(v7:Int)(ms2 acs2:B6)(f6 f7:Bool),ab ms2=true/\ab acs2=true/\ag G 553 [.ref 0 0 0,.str s] (rdD (if acs= [] then 5 else 6) (pre.map PList.enc) (pa.map PathL.enc) (co.map ComL.enc) (po.map Pol.enc) nm (ts.map Trm.enc) tn (ms.map Mat.enc) (acs.map Actn.enc)) ⟨.int .i64 E,roD mo2 (pre.map PList.enc) (pa.map PathL.enc) (co.map ComL.enc) (po.map Pol.enc) nm (ts.map Trm.enc) tn n6 n7 v7 f6 f7 ms2 acs2⟩/\
  ((E≠0/\br (.term pre pa co po nm ts tn ms acs) s (wds s)= .err E)∨(E=0/\v7=0/\mo2=(if acs= [] then 5 else 6)/\n7=(acs.map Actn.enc).length/\acs2=(acs.map Actn.enc)/\n6=(ms.map Mat.enc).length+1/\ ∃x:Mat,ms2=(ms.map Mat.enc)++[x.enc]/\br (.term pre pa co po nm ts tn ms acs) s (wds s)= .ok (.term pre pa co po nm ts tn (ms++[x]) acs))∨
   (E=0/\v7=0/\mo2=6/\n6=(ms.map Mat.enc).length/\ms2=(ms.map Mat.enc)/\n7=(acs.map Actn.enc).length+1/\ ∃x:Actn,acs2=(acs.map Actn.enc)++[x.enc]/\br (.term pre pa co po nm ts tn ms acs) s (wds s)= .ok (.term pre pa co po nm ts tn ms (acs++[x])))∨
   (E=0/\mo2=4/\n6=(ms.map Mat.enc).length/\ms2=(ms.map Mat.enc)/\n7=(acs.map Actn.enc).length/\acs2=(acs.map Actn.enc)/\br (.term pre pa co po nm ts tn ms acs) s (wds s)= .ok (.pol pre pa co po nm (ts++[⟨tn,ms,acs,v7⟩]))))
theorem ag7 (l1:pre.length<2^30)(l2:pa.length<2^30)(l3:co.length<2^30)(l4:po.length<2^30)(lt0:ts.length<2^30)(lm0:ms.length<2^29)(la0:acs.length<2^29)(s:B5)(hs:s.length<2^29):Ln5 pre pa co po nm ts tn ms acs s:=by
 have pt:ab (ts.map Trm.enc)=true:=by simp
 have lt:(ts.map Trm.enc).length<2^30:=aZ lt0;have pm:ab (ms.map Mat.enc)=true:=by simp
 have pc:ab (acs.map Actn.enc)=true:=by simp
 have em:=ml ms Mat.enc;have ea:=ml acs Actn.enc;have hmo:(if acs= [] then (5:Int) else 6)=5∨(if acs= [] then (5:Int) else 6)=6:=by split<;>simp
 have m5:acs= []↔ (if acs= [] then (5:Int) else 6)=5:=by split<;>simp[*]
 obtain ⟨w,r,e⟩: ∃w r,wds s=w::r:=by
  rcases hq:wds s with _|⟨w,r⟩
  ·exact absurd hq (oO s)
  ·exact ⟨w,r,rfl⟩
 have hr:r.length<2^30:=by have:=(iu s).1;rw[e] at this;simp at this;omega
 have hrw: ∀u∈r,u.length<2^30:=λu hu=>by have:=(iu s).2 u (by rw[e];simp[hu]);omega
 have go: ∀ {n6 n7 mo2 v7 ms2 acs2 f6 f7 E},ab ms2=true/\ab acs2=true->ag G 601 [.ref 0 0 0,.sl 1 ((wds s).map ah)] (rdD (if acs= [] then 5 else 6) (pre.map PList.enc) (pa.map PathL.enc) (co.map ComL.enc) (po.map Pol.enc) nm (ts.map Trm.enc) tn (ms.map Mat.enc) (acs.map Actn.enc)) ⟨.int .i64 E,roD mo2 (pre.map PList.enc) (pa.map PathL.enc) (co.map ComL.enc) (po.map Pol.enc) nm (ts.map Trm.enc) tn n6 n7 v7 f6 f7 ms2 acs2⟩->_:=λz h3=>ln_D (cp pre) (cq pa) (cr co) (bM po) (aZ l1) (aZ l2) (aZ l3) (aZ l4) hmo pt lt pm pc (by omega) (by omega) z.1 z.2 s (by omega) (by have:=(iu s).1;omega) _ h3
 have z0:ab (ms.map Mat.enc)=true/\ab (acs.map Actn.enc)=true:=⟨pm,pc⟩;have zm: ∀x:Mat,ab ((ms.map Mat.enc)++[x.enc])=true/\ab (acs.map Actn.enc)=true:=λx=>⟨by rw[dx,pm];rfl,pc⟩
 have za: ∀x:Actn,ab (ms.map Mat.enc)=true/\ab ((acs.map Actn.enc)++[x.enc])=true:=λx=>⟨pm,by rw[dx,pc];rfl⟩
 by_cases c1:w=cI/\acs= []
 ·have r1:br (.term pre pa co po nm ts tn ms acs) s (wds s)=(match r7 r with
    |none=>.err 2
    |some x=>if 64<=ms.length then .err 4 else if ip ⟨pre,pa,co,po++[⟨nm,ts++[⟨tn,ms++[x],acs,0⟩],0⟩]⟩ x≠0 then .err (ip ⟨pre,pa,co,po++[⟨nm,ts++[⟨tn,ms++[x],acs,0⟩],0⟩]⟩ x) else .ok (.term pre pa co po nm ts tn (ms++[x]) acs)):=by rw[e,br,Ac c1];rfl
  have hm5:=m5.1 c1.2;rcases mt_S r with ⟨q,hb⟩|⟨x,q,hb⟩
  ·exact ⟨_,_,_,_,_,_,_,_,_,pm,pc,go z0 (by rw[e];exact ac2 (pre:=pre) (pa:=pa) (co:=co) (bM po) pt (mo:=(if acs= [] then 5 else 6)) l1 l2 l3 (aZ l4) lt lm0 la0 (nm:=nm) (tn:=tn) w r hr hrw c1.1 hm5 hb),.inl ⟨by decide,by rw[r1,q]⟩⟩
  ·rw[q] at r1
   dsimp only at r1;have hb2:(mtS r).2=true:=by rw[hb]
   have hb1:(mtS r).1=x:=by rw[hb]
   have hpx:(mtS r).1.pfx.ok:=aeG hb2
   by_cases hk:64<=ms.length
   ·have q2:=go (zm x) (by rw[e];rw[<-hb1];exact Yj (pre:=pre) (pa:=pa) (co:=co) (bM po) pt (mo:=(if acs= [] then 5 else 6)) l1 l2 l3 (aZ l4) lt lm0 la0 (nm:=nm) (tn:=tn) w r hr hrw [] c1.1 hm5 hb2 hpx hk)
    exact ⟨_,_,_,_,_,_,_,_,_,(zm x).1,pc,q2,.inl ⟨by decide,by rw[r1,Ac hk]⟩⟩
   ·have h3:=ac3 (pre:=pre) (pa:=pa) (co:=co) (bM po) pt (mo:=(if acs= [] then 5 else 6)) l1 l2 l3 (aZ l4) lt lm0 la0 (nm:=nm) (tn:=tn) w r hr hrw (po++[⟨nm,ts++[⟨tn,ms++[x],acs,0⟩],0⟩]) c1.1 hm5 hb2 hpx (by omega)
    rw[hb1] at h3;rw[Aa hk] at r1;generalize ip ⟨pre,pa,co,po++[⟨nm,ts++[⟨tn,ms++[x],acs,0⟩],0⟩]⟩ x=EE at*;refine ⟨_,_,_,_,_,_,_,_,_,(zm x).1,pc,go (zm x) (by rw[e];exact h3),?_⟩
    by_cases hz:EE=0
    ·right;left;exact ⟨hz,rfl,rfl,rfl,rfl,by rw[em],x,rfl,by rw[r1,Aa (nn2 hz)]⟩
    ·left;exact ⟨hz,by rw[r1,Ac hz]⟩
 by_cases c2:w=fY
 ·have r1:br (.term pre pa co po nm ts tn ms acs) s (wds s)=(match oZ r with
    |none=>.err 2
    |some x=>if 64<=acs.length then .err 4 else if gx x≠0 then .err (gx x) else .ok (.term pre pa co po nm ts tn ms (acs++[x]))):=by rw[e,br,Aa c1,Ac c2];rfl
  rcases ac_S r with ⟨q,hb⟩|⟨x,q,hb⟩
  ·exact ⟨_,_,_,_,_,_,_,_,_,pm,pc,go z0 (by rw[e];exact ac4 (pre:=pre) (pa:=pa) (co:=co) (bM po) pt (mo:=(if acs= [] then 5 else 6)) l1 l2 l3 (aZ l4) lt lm0 la0 (nm:=nm) (tn:=tn) w r hr hrw c2 hb),.inl ⟨by decide,by rw[r1,q]⟩⟩
  ·rw[q] at r1
   dsimp only at r1;have hb2:(iO r).2=true:=by rw[hb]
   have hb1:(iO r).1=x:=by rw[hb]
   by_cases hk:64<=acs.length
   ·have q2:=go (za x) (by rw[e];rw[<-hb1];exact Yk (pre:=pre) (pa:=pa) (co:=co) (bM po) pt (mo:=(if acs= [] then 5 else 6)) l1 l2 l3 (aZ l4) lt lm0 la0 (nm:=nm) (tn:=tn) w r hr hrw c2 hb2 hk)
    exact ⟨_,_,_,_,_,_,_,_,_,pm,(za x).2,q2,.inl ⟨by decide,by rw[r1,Ac hk]⟩⟩
   ·have h3:=ac5 (pre:=pre) (pa:=pa) (co:=co) (bM po) pt (mo:=(if acs= [] then 5 else 6)) l1 l2 l3 (aZ l4) lt lm0 la0 (nm:=nm) (tn:=tn) w r hr hrw c2 hb2 (by omega)
    rw[hb1] at h3;rw[Aa hk] at r1;generalize gx x=EE at*;refine ⟨_,_,_,_,_,_,_,_,_,pm,(za x).2,go (za x) (by rw[e];exact h3),?_⟩
    by_cases hz:EE=0
    ·right;right;left;exact ⟨hz,rfl,rfl,rfl,rfl,by rw[ea],x,rfl,by rw[r1,Aa (nn2 hz)]⟩
    ·left;exact ⟨hz,by rw[r1,Ac hz]⟩
 have hm2: ¬(w=cI/\(if acs= [] then (5:Int) else 6)=5):=λq=>c1 ⟨q.1,m5.2 q.2⟩
 by_cases c3:r= []/\cZ w≠0
 ·exact ⟨_,_,_,_,_,_,_,_,_,pm,pc,go z0 (by rw[e];exact afc (pre:=pre) (pa:=pa) (co:=co) (bM po) pt (mo:=(if acs= [] then 5 else 6)) l1 l2 l3 (aZ l4) lt lm0 la0 (nm:=nm) (tn:=tn) w r hr hrw hm2 c2 c3.1 c3.2),.inr (.inr (.inr ⟨rfl,rfl,rfl,rfl,rfl,rfl,by rw[e,br,Aa c1,Aa c2,Ac c3]⟩))⟩
 ·exact ⟨_,_,_,_,_,_,_,_,_,pm,pc,go z0 (by rw[e];exact ac1 (pre:=pre) (pa:=pa) (co:=co) (bM po) pt (mo:=(if acs= [] then 5 else 6)) l1 l2 l3 (aZ l4) lt lm0 la0 (nm:=nm) (tn:=tn) w r hr hrw hm2 c2 c3),.inl ⟨by decide,by rw[e,br,Aa c1,Aa c2,Aa c3]⟩⟩
end
end
section
variable (s:B5)(R:Ret)(e1 e2 e3 e4:B6)(n1 n2 n3 n4:Nat)(nm:B5)(m:Nat)(rl:B6)(mo gr fr n:Int)
def JvA:Prop:= ∀(T:TV)(H:az)(c:Nat)(g g0 g1 g2 g3 g4:Nat),Ev G ⟨iz,⟨(7,.int .i64 fr)::(0,.str s)::(5,.ref 79 g0 0)::(6,.int .i64 n)::(2,.ref 66 g 0)::T,(66,some (g,.cells [bf,bf,bf,bf]))::(79,some (g0,.cells [.vs 9001 g1 n1,.vs 9002 g2 n2,.vs 9003 g3 n3,.vs 9004 g4 n4,.int .i64 mo,.int .i64 gr]))::(9001,some (g1,.vec 2 e1))::(9002,some (g2,.vec 2 e2))::(9003,some (g3,.vec 2 e3))::(9004,some (g4,.vec 3 e4))::H,c⟩,[.cell 2 (some 4),.t 3,.t 4],0⟩ R
def Jv1:Prop:= ∀(T:TV)(H:az)(c:Nat)(g g0 g1 g2 g3 g4 g5:Nat),Ev G ⟨iz,⟨(7,.int .i64 fr)::(0,.str s)::(5,.ref 79 g0 0)::(6,.int .i64 n)::(2,.ref 66 g 0)::T,(66,some (g,.cells [bf,bf,bf,bf]))::(79,some (g0,.cells [.vs 9001 g1 n1,.vs 9002 g2 n2,.vs 9003 g3 n3,.vs 9004 g4 n4,.int .i64 mo,.int .i64 gr]))::(9001,some (g1,.vec 2 (e1++[[.str nm,.vs 9005 g5 m]])))::(9002,some (g2,.vec 2 e2))::(9003,some (g3,.vec 2 e3))::(9004,some (g4,.vec 3 e4))::(9005,some (g5,.vec 5 rl))::H,c⟩,[.cell 2 (some 4),.t 3,.t 4],0⟩ R
def Jv2:Prop:= ∀(T:TV)(H:az)(c:Nat)(g g0 g1 g2 g3 g4 g5:Nat),Ev G ⟨iz,⟨(7,.int .i64 fr)::(0,.str s)::(5,.ref 79 g0 0)::(6,.int .i64 n)::(2,.ref 66 g 0)::T,(66,some (g,.cells [bf,bf,bf,bf]))::(79,some (g0,.cells [.vs 9001 g1 n1,.vs 9002 g2 n2,.vs 9003 g3 n3,.vs 9004 g4 n4,.int .i64 mo,.int .i64 gr]))::(9001,some (g1,.vec 2 e1))::(9002,some (g2,.vec 2 (e2++[[.str nm,.vs 9005 g5 m]])))::(9003,some (g3,.vec 2 e3))::(9004,some (g4,.vec 3 e4))::(9005,some (g5,.vec 2 rl))::H,c⟩,[.cell 2 (some 4),.t 3,.t 4],0⟩ R
def Jv3:Prop:= ∀(T:TV)(H:az)(c:Nat)(g g0 g1 g2 g3 g4 g5:Nat),Ev G ⟨iz,⟨(7,.int .i64 fr)::(0,.str s)::(5,.ref 79 g0 0)::(6,.int .i64 n)::(2,.ref 66 g 0)::T,(66,some (g,.cells [bf,bf,bf,bf]))::(79,some (g0,.cells [.vs 9001 g1 n1,.vs 9002 g2 n2,.vs 9003 g3 n3,.vs 9004 g4 n4,.int .i64 mo,.int .i64 gr]))::(9001,some (g1,.vec 2 e1))::(9002,some (g2,.vec 2 e2))::(9003,some (g3,.vec 2 (e3++[[.str nm,.vs 9005 g5 m]])))::(9004,some (g4,.vec 3 e4))::(9005,some (g5,.vec 3 rl))::H,c⟩,[.cell 2 (some 4),.t 3,.t 4],0⟩ R
def Jv4 (v:Int)(ts:B6)(mo gr fr n:Int):Prop:= ∀(T:TV)(H:az)(c:Nat)(g g0 g1 g2 g3 g4 g5:Nat),Ev G ⟨iz,⟨(7,.int .i64 fr)::(0,.str s)::(5,.ref 79 g0 0)::(6,.int .i64 n)::(2,.ref 66 g 0)::T,(66,some (g,.cells [bf,bf,bf,bf]))::(79,some (g0,.cells [.vs 9001 g1 n1,.vs 9002 g2 n2,.vs 9003 g3 n3,.vs 9004 g4 n4,.int .i64 mo,.int .i64 gr]))::(9001,some (g1,.vec 2 e1))::(9002,some (g2,.vec 2 e2))::(9003,some (g3,.vec 2 e3))::(9004,some (g4,.vec 3 (e4++[[.str nm,.vs 9005 g5 m,.int .i64 v]])))::(9005,some (g5,.vec 4 ts))::H,c⟩,[.cell 2 (some 4),.t 3,.t 4],0⟩ R
def Jv5 (ts:B6)(tn:B5)(m6 m7:Nat)(v:Int)(ms acs:B6)(mo gr fr n:Int):Prop:= ∀(T:TV)(H:az)(c:Nat)(g g0 g1 g2 g3 g4 g5 g6 g7:Nat),Ev G ⟨iz,⟨(7,.int .i64 fr)::(0,.str s)::(5,.ref 79 g0 0)::(6,.int .i64 n)::(2,.ref 66 g 0)::T,(66,some (g,.cells [bf,bf,bf,bf]))::(79,some (g0,.cells [.vs 9001 g1 n1,.vs 9002 g2 n2,.vs 9003 g3 n3,.vs 9004 g4 n4,.int .i64 mo,.int .i64 gr]))::(9001,some (g1,.vec 2 e1))::(9002,some (g2,.vec 2 e2))::(9003,some (g3,.vec 2 e3))::(9004,some (g4,.vec 3 (e4++[[.str nm,.vs 9005 g5 m,.int .i64 0]])))::(9005,some (g5,.vec 4 (ts++[[.str tn,.vs 9006 g6 m6,.vs 9007 g7 m7,.int .i64 v]])))::(9006,some (g6,.vec 6 ms))::(9007,some (g7,.vec 5 acs))::H,c⟩,[.cell 2 (some 4),.t 3,.t 4],0⟩ R
end
theorem AY (s:B5)(hs:s.length<=65536)(R:Ret)(H:az)(g g0:Nat)(fr n:Int): ∀(x done y:B5)(T:TV)(c:Nat)(i:Int)(e:s=done++(x++y))(hi:i=done.length)(hx: ∀a∈x,a≠10)
  (go: ∀(T:TV)(c:Nat),Ev G ⟨xv,⟨(8,.int .i64 ((done++x).length:Nat))::(0,.str s)::(5,.ref 79 g0 0)::(6,.int .i64 n)::(7,.int .i64 fr)::(2,.ref 66 g 0)::T,H,c⟩,[.cell 2 (some 4),.t 3,.t 4],0⟩ R)
  ,Ev G ⟨xv,⟨(8,.int .i64 i)::(0,.str s)::(5,.ref 79 g0 0)::(6,.int .i64 n)::(7,.int .i64 fr)::(2,.ref 66 g 0)::T,H,c⟩,[.cell 2 (some 4),.t 3,.t 4],0⟩ R
 | [],done,y,T,c,i,e,hi,hx,go=>by
  subst hi;rw[Bb] at go;exact go T c
 |a::x,done,y,T,c,i,e,hi,hx,go=>by
  have hl:s.length=done.length+(x.length+1+y.length):=by simp[e];omega
  have hb:s[i.toNat]? =some a:=by rw[e,hi];simp
  have hn: ¬(a.toNat:Int)=10:=λq=>hx a (by simp) (A5.1 (by simpa using (by omega:a.toNat=10)))
  have ih:=λT c=>AY s hs R H g g0 fr n x (done++[a]) y T c (i+1) (by simp[e]) (by simp[hi]) (λz hz=>hx z (by simp[hz])) (by rw[List.append_assoc];exact go)
  have hal:=a.toNat_lt;refine evl ?_
  repeat' ((conv=>whnf);first|refine J.zIstr ?_ hb (by omega)|refine aq ?_|apply ae<;>intro h)
  refine au [8,0,5,6,7,2] [] ?_;exact ih _ _
structure Lr (s acc done rest:B5)(fr n:Int):Prop where
 hs:s.length<=65536
 e:s=done++(acc++10::rest)
 hfr:fr=done.length
 hn0:0<=n
 hn:n<=65536
 hx: ∀a∈acc,a≠10
section
variable {s acc done rest:B5}{fr n:Int}(q:Lr s acc done rest fr n)
include q
theorem oE (R:Ret)(H:az)(g g0:Nat)(T:TV)(c:Nat)(go: ∀(i:Int) (T:TV) (c:Nat) (hii:fr+(acc.length:Int)=i) (hs:s.length<=65536) (hn0:0<=n) (hn:n<=65536) (hf:0<=fr) (hfi:fr<=i) (hil:i<s.length) (hb:s[i.toNat]? =some 10) (hsl:(s.drop fr.toNat).take (i.toNat-fr.toNat)=acc),Ev G ⟨xv,⟨(8,.int .i64 i)::(0,.str s)::(5,.ref 79 g0 0)::(6,.int .i64 n)::(7,.int .i64 fr)::(2,.ref 66 g 0)::T,H,c⟩,[.cell 2 (some 4),.t 3,.t 4],0⟩ R)
  :Ev G ⟨iz,⟨(7,.int .i64 fr)::(0,.str s)::(5,.ref 79 g0 0)::(6,.int .i64 n)::(2,.ref 66 g 0)::T,H,c⟩,[.cell 2 (some 4),.t 3,.t 4],0⟩ R:=by
 obtain ⟨hs,e,hfr,hn0,hn,hx⟩:=q;have hl:s.length=done.length+(acc.length+(rest.length+1)):=by simp[e]
 have hi:((done++acc).length:Int)=fr+acc.length:=by simp[hfr]
 refine evA ?_
 (conv=>whnf)
 refine au [8,0,5,6,7,2] [] ?_;refine AY s hs R H g g0 fr n acc done (10::rest) _ _ fr e hfr hx λT c=>?_
 rw[hi];refine go _ T c rfl hs hn0 hn (by omega) (by omega) (by omega) ?_ ?_
 ·rw[show (fr+(acc.length:Int)).toNat=done.length+acc.length by omega,e];simp
 ·rw[show (fr+(acc.length:Int)).toNat-fr.toNat=acc.length by omega,show fr.toNat=done.length by omega,e];simp
theorem IB {e1 e2 e3 e4:B6}{mo gr:Int}{m1 m2 m3 m4:Nat}{mo2 gr2:Int}{a1 a2 a3 a4:B6}{f1 f2 f3 f4:Bool}(p1:ab e1=true)(p2:ab e2=true)(p3:ab e3=true)(p4:ab e4=true)(z1:ab a1=true)(z2:ab a2=true)(z3:ab a3=true)(z4:ab a4=true){E:Int}(R:Ret)(hG:ag G 553 [.ref 0 0 0,.str acc] (rdA mo gr e1 e2 e3 e4) ⟨.int .i64 E,mkR [(true,.cells (rdc m1 m2 m3 m4 mo2 gr2)),(f1,.vec 2 a1),(f2,.vec 2 a2),(f3,.vec 2 a3),(f4,.vec 3 a4)]⟩)(he:E≠0->R=bQ (cd,n+1,E))(ih:E=0->JvA s R a1 a2 a3 a4 m1 m2 m3 m4 mo2 gr2 (fr+acc.length+1) (n+1)):JvA s R e1 e2 e3 e4 e1.length e2.length e3.length e4.length mo gr fr n:=by
 unfold rdA rdc at hG;intro T H c g g0 g1 g2 g3 g4;refine oE q R _ _ _ _ _ λi T c hii hs hn0 hn hf hfi hil hb hsl=>?_
 rw[hii] at ih;refine evl ?_
 repeat' ((conv=>whnf);first|refine J.zIstr ?_ hb (by omega)|refine aq ?_|apply ae<;>intro h)
 (conv=>whnf)
 rw[hsl];refine kP [(79,_,.cells _),(9001,_,.vec _ _),(9002,_,.vec _ _),(9003,_,.vec _ _),(9004,_,.vec _ _)] [] ⟨rfl,rfl,rfl,rfl,rfl,trivial⟩ trivial hG ?_
 by_cases hE:E=0
 ·have ih:=ih hE
  repeat' ((conv=>whnf);first|refine cK hE ?_|refine aq ?_|apply ae<;>intro h)
  (conv=>whnf)
  refine au [7,0,5,6,2] [66,79,9001,9002,9003,9004] ?_;exact ih _ _ _ _ _ _ _ _ _
 ·rw[he hE]
  repeat' ((conv=>whnf);first|refine ft hE ?_|refine aq ?_|apply ae<;>intro h)
  (conv=>whnf)
  refine b9 [] [(66,some (_,.cells [.sl 2 [],.sl 2 [],.sl 2 [],.sl 3 []]))] trivial ⟨⟨rfl,⟨LeP.nil _,LeP.nil _,LeP.nil _,LeP.nil _,trivial⟩⟩,trivial⟩ ?_;refine ap ?_
  (conv=>whnf)
  first|(refine ⟨rfl,?_⟩;trivial)|(refine ⟨?_,?_⟩; ·rfl)|(apply congrArg;rfl)|(unfold bQ cd PSet.enc;rfl)
end
section
variable {s acc done rest:B5}{fr n:Int}(q:Lr s acc done rest fr n){e1 e2 e3 e4:B6}{nm:B5}{rl rl2:B6}{m:Nat}{f:Bool}(p1:ab e1=true)(p2:ab e2=true)(p3:ab e3=true)(p4:ab e4=true)(pr:ab rl=true)(z5:ab rl2=true){E:Int}(R:Ret)
include q p1 p2 p3 p4 pr z5
theorem pr_1 (hG:ag G 553 [.ref 0 0 0,.str acc] (j3 e1 e2 e3 e4 nm rl) ⟨.int .i64 E,nT e1 e2 e3 e4 nm m f rl2⟩)(he:E≠0->R=bQ (cd,n+1,E))(ih:E=0->Jv1 s R e1 e2 e3 e4 (e1.length+1) e2.length e3.length e4.length nm m rl2 1 1 (fr+acc.length+1) (n+1)):Jv1 s R e1 e2 e3 e4 (e1.length+1) e2.length e3.length e4.length nm rl.length rl 1 1 fr n:=by
 unfold j3 nT rdc at hG;intro T H c g g0 g1 g2 g3 g4 g5;refine oE q R _ _ _ _ _ λi T c hii hs hn0 hn hf hfi hil hb hsl=>?_
 rw[hii] at ih;refine evl ?_
 repeat' ((conv=>whnf);first|refine J.zIstr ?_ hb (by omega)|refine aq ?_|apply ae<;>intro h)
 (conv=>whnf)
 rw[hsl];refine kP [(79,_,.cells _),(9001,_,.nest _ _ _),(9002,_,.vec _ _),(9003,_,.vec _ _),(9004,_,.vec _ _),(9005,_,.vec _ _)] [] nL trivial hG ?_
 by_cases hE:E=0
 ·have ih:=ih hE
  repeat' ((conv=>whnf);first|refine cK hE ?_|refine aq ?_|apply ae<;>intro h)
  (conv=>whnf)
  refine au [7,0,5,6,2] [66,79,9001,9002,9003,9004,9005] ?_;exact ih _ _ _ _ _ _ _ _ _ _
 ·rw[he hE]
  repeat' ((conv=>whnf);first|refine ft hE ?_|refine aq ?_|apply ae<;>intro h)
  (conv=>whnf)
  refine b9 [] [(66,some (_,.cells [.sl 2 [],.sl 2 [],.sl 2 [],.sl 3 []]))] trivial ⟨⟨rfl,⟨LeP.nil _,LeP.nil _,LeP.nil _,LeP.nil _,trivial⟩⟩,trivial⟩ ?_;refine ap ?_
  (conv=>whnf)
  first|(refine ⟨rfl,?_⟩;trivial)|(refine ⟨?_,?_⟩; ·rfl)|(apply congrArg;rfl)|(unfold bQ cd PSet.enc;rfl)
theorem pr_2 (hG:ag G 553 [.ref 0 0 0,.str acc] (jZ e1 e2 e3 e4 nm rl) ⟨.int .i64 E,nR e1 e2 e3 e4 nm m f rl2⟩)(he:E≠0->R=bQ (cd,n+1,E))(ih:E=0->Jv2 s R e1 e2 e3 e4 e1.length (e2.length+1) e3.length e4.length nm m rl2 2 2 (fr+acc.length+1) (n+1)):Jv2 s R e1 e2 e3 e4 e1.length (e2.length+1) e3.length e4.length nm rl.length rl 2 2 fr n:=by
 unfold jZ nR rdc at hG;intro T H c g g0 g1 g2 g3 g4 g5;refine oE q R _ _ _ _ _ λi T c hii hs hn0 hn hf hfi hil hb hsl=>?_
 rw[hii] at ih;refine evl ?_
 repeat' ((conv=>whnf);first|refine J.zIstr ?_ hb (by omega)|refine aq ?_|apply ae<;>intro h)
 (conv=>whnf)
 rw[hsl];refine kP [(79,_,.cells _),(9001,_,.vec _ _),(9002,_,.nest _ _ _),(9003,_,.vec _ _),(9004,_,.vec _ _),(9005,_,.vec _ _)] [] nL trivial hG ?_
 by_cases hE:E=0
 ·have ih:=ih hE
  repeat' ((conv=>whnf);first|refine cK hE ?_|refine aq ?_|apply ae<;>intro h)
  (conv=>whnf)
  refine au [7,0,5,6,2] [66,79,9001,9002,9003,9004,9005] ?_;exact ih _ _ _ _ _ _ _ _ _ _
 ·rw[he hE]
  repeat' ((conv=>whnf);first|refine ft hE ?_|refine aq ?_|apply ae<;>intro h)
  (conv=>whnf)
  refine b9 [] [(66,some (_,.cells [.sl 2 [],.sl 2 [],.sl 2 [],.sl 3 []]))] trivial ⟨⟨rfl,⟨LeP.nil _,LeP.nil _,LeP.nil _,LeP.nil _,trivial⟩⟩,trivial⟩ ?_;refine ap ?_
  (conv=>whnf)
  first|(refine ⟨rfl,?_⟩;trivial)|(refine ⟨?_,?_⟩; ·rfl)|(apply congrArg;rfl)|(unfold bQ cd PSet.enc;rfl)
theorem pr_3 (hG:ag G 553 [.ref 0 0 0,.str acc] (ju e1 e2 e3 e4 nm rl) ⟨.int .i64 E,mC e1 e2 e3 e4 nm m f rl2⟩)(he:E≠0->R=bQ (cd,n+1,E))(ih:E=0->Jv3 s R e1 e2 e3 e4 e1.length e2.length (e3.length+1) e4.length nm m rl2 3 3 (fr+acc.length+1) (n+1)):Jv3 s R e1 e2 e3 e4 e1.length e2.length (e3.length+1) e4.length nm rl.length rl 3 3 fr n:=by
 unfold ju mC rdc at hG;intro T H c g g0 g1 g2 g3 g4 g5;refine oE q R _ _ _ _ _ λi T c hii hs hn0 hn hf hfi hil hb hsl=>?_
 rw[hii] at ih;refine evl ?_
 repeat' ((conv=>whnf);first|refine J.zIstr ?_ hb (by omega)|refine aq ?_|apply ae<;>intro h)
 (conv=>whnf)
 rw[hsl];refine kP [(79,_,.cells _),(9001,_,.vec _ _),(9002,_,.vec _ _),(9003,_,.nest _ _ _),(9004,_,.vec _ _),(9005,_,.vec _ _)] [] nL trivial hG ?_
 by_cases hE:E=0
 ·have ih:=ih hE
  repeat' ((conv=>whnf);first|refine cK hE ?_|refine aq ?_|apply ae<;>intro h)
  (conv=>whnf)
  refine au [7,0,5,6,2] [66,79,9001,9002,9003,9004,9005] ?_;exact ih _ _ _ _ _ _ _ _ _ _
 ·rw[he hE]
  repeat' ((conv=>whnf);first|refine ft hE ?_|refine aq ?_|apply ae<;>intro h)
  (conv=>whnf)
  refine b9 [] [(66,some (_,.cells [.sl 2 [],.sl 2 [],.sl 2 [],.sl 3 []]))] trivial ⟨⟨rfl,⟨LeP.nil _,LeP.nil _,LeP.nil _,LeP.nil _,trivial⟩⟩,trivial⟩ ?_;refine ap ?_
  (conv=>whnf)
  first|(refine ⟨rfl,?_⟩;trivial)|(refine ⟨?_,?_⟩; ·rfl)|(apply congrArg;rfl)|(unfold bQ cd PSet.enc;rfl)
end
section
variable {s acc done rest:B5}{fr n:Int}(q:Lr s acc done rest fr n){e1 e2 e3 e4:B6}
include q
theorem pr_4 {nm:B5}{ts ts2:B6}{m:Nat}{mo2 v:Int}{f:Bool}(p1:ab e1=true)(p2:ab e2=true)(p3:ab e3=true)(p4:ab e4=true)(pt:ab ts=true)(z5:ab ts2=true){E:Int}(R:Ret)(hG:ag G 553 [.ref 0 0 0,.str acc] (rdC e1 e2 e3 e4 nm ts) ⟨.int .i64 E,roC mo2 e1 e2 e3 e4 nm m v f ts2⟩)(he:E≠0->R=bQ (cd,n+1,E))(ih:E=0->Jv4 s R e1 e2 e3 e4 e1.length e2.length e3.length (e4.length+1) nm m v ts2 mo2 4 (fr+acc.length+1) (n+1)):Jv4 s R e1 e2 e3 e4 e1.length e2.length e3.length (e4.length+1) nm ts.length 0 ts 4 4 fr n:=by
 unfold rdC roC rdc at hG;intro T H c g g0 g1 g2 g3 g4 g5;refine oE q R _ _ _ _ _ λi T c hii hs hn0 hn hf hfi hil hb hsl=>?_
 rw[hii] at ih;refine evl ?_
 repeat' ((conv=>whnf);first|refine J.zIstr ?_ hb (by omega)|refine aq ?_|apply ae<;>intro h)
 (conv=>whnf)
 rw[hsl];refine kP [(79,_,.cells _),(9001,_,.vec _ _),(9002,_,.vec _ _),(9003,_,.vec _ _),(9004,_,.nest _ _ _),(9005,_,.vec _ _)] [] nL trivial hG ?_
 by_cases hE:E=0
 ·have ih:=ih hE
  repeat' ((conv=>whnf);first|refine cK hE ?_|refine aq ?_|apply ae<;>intro h)
  (conv=>whnf)
  refine au [7,0,5,6,2] [66,79,9001,9002,9003,9004,9005] ?_;exact ih _ _ _ _ _ _ _ _ _ _
 ·rw[he hE]
  repeat' ((conv=>whnf);first|refine ft hE ?_|refine aq ?_|apply ae<;>intro h)
  (conv=>whnf)
  refine b9 [] [(66,some (_,.cells [.sl 2 [],.sl 2 [],.sl 2 [],.sl 3 []]))] trivial ⟨⟨rfl,⟨LeP.nil _,LeP.nil _,LeP.nil _,LeP.nil _,trivial⟩⟩,trivial⟩ ?_;refine ap ?_
  (conv=>whnf)
  first|(refine ⟨rfl,?_⟩;trivial)|(refine ⟨?_,?_⟩; ·rfl)|(apply congrArg;rfl)|(unfold bQ cd PSet.enc;rfl)
theorem pr_5 {nm tn:B5}{ts ms acs ms2 acs2:B6}{k6 k7:Nat}{mo mo2 v:Int}{f6 f7:Bool}(p1:ab e1=true)(p2:ab e2=true)(p3:ab e3=true)(p4:ab e4=true)(pt:ab ts=true)(pm:ab ms=true)(pc:ab acs=true)(z6:ab ms2=true)(z7:ab acs2=true){E:Int}(R:Ret)(hG:ag G 553 [.ref 0 0 0,.str acc] (rdD mo e1 e2 e3 e4 nm ts tn ms acs) ⟨.int .i64 E,roD mo2 e1 e2 e3 e4 nm ts tn k6 k7 v f6 f7 ms2 acs2⟩)(he:E≠0->R=bQ (cd,n+1,E))(ih:E=0->Jv5 s R e1 e2 e3 e4 e1.length e2.length e3.length (e4.length+1) nm (ts.length+1) ts tn k6 k7 v ms2 acs2 mo2 4 (fr+acc.length+1) (n+1)):Jv5 s R e1 e2 e3 e4 e1.length e2.length e3.length (e4.length+1) nm (ts.length+1) ts tn ms.length acs.length 0 ms acs mo 4 fr n:=by
 unfold rdD roD rdc at hG;intro T H c g g0 g1 g2 g3 g4 g5 g6 g7;refine oE q R _ _ _ _ _ λi T c hii hs hn0 hn hf hfi hil hb hsl=>?_
 rw[hii] at ih;refine evl ?_
 repeat' ((conv=>whnf);first|refine J.zIstr ?_ hb (by omega)|refine aq ?_|apply ae<;>intro h)
 (conv=>whnf)
 rw[hsl];refine kP [(79,_,.cells _),(9001,_,.vec _ _),(9002,_,.vec _ _),(9003,_,.vec _ _),(9004,_,.nest _ _ _),(9005,_,.nest _ _ _),(9006,_,.vec _ _),(9007,_,.vec _ _)] [] WG trivial hG ?_
 by_cases hE:E=0
 ·have ih:=ih hE
  repeat' ((conv=>whnf);first|refine cK hE ?_|refine aq ?_|apply ae<;>intro h)
  (conv=>whnf)
  refine au [7,0,5,6,2] [66,79,9001,9002,9003,9004,9005,9006,9007] ?_;exact ih _ _ _ _ _ _ _ _ _ _ _ _
 ·rw[he hE]
  repeat' ((conv=>whnf);first|refine ft hE ?_|refine aq ?_|apply ae<;>intro h)
  (conv=>whnf)
  refine b9 [] [(66,some (_,.cells [.sl 2 [],.sl 2 [],.sl 2 [],.sl 3 []]))] trivial ⟨⟨rfl,⟨LeP.nil _,LeP.nil _,LeP.nil _,LeP.nil _,trivial⟩⟩,trivial⟩ ?_;refine ap ?_
  (conv=>whnf)
  first|(refine ⟨rfl,?_⟩;trivial)|(refine ⟨?_,?_⟩; ·rfl)|(apply congrArg;rfl)|(unfold bQ cd PSet.enc;rfl)
end
section
variable {s:B5}{R:Ret}{e1 e2 e3 e4:B6}{n1 n2 n3 n4:Nat}{t:B5}{mo gr fr n:Int}
theorem agW (ih:Jv1 s R e1 e2 e3 e4 n1 n2 n3 n4 t 0 [] mo gr fr n):JvA s R (e1++[[.str t,.con (.slice none 0 0)]]) e2 e3 e4 n1 n2 n3 n4 mo gr fr n:=by
 intro T H c g g0 g1 g2 g3 g4;refine cP 9005 5 [] [(9001,some (_,.vec 2 (e1++[[AV.str t,AV.vs 9005 _ 0]])))] trivial ⟨⟨rfl,rfl,LLLe.app _ ⟨⟨.refl _,LeP.nilV _ _ _,trivial⟩,trivial⟩⟩,trivial⟩ ?_
 (conv=>whnf)
 refine au [7,0,5,6,2] [66,79,9001,9002,9003,9004,9005] ?_;exact ih _ _ _ _ _ _ _ _ _ _
theorem agV (ih:Jv2 s R e1 e2 e3 e4 n1 n2 n3 n4 t 0 [] mo gr fr n):JvA s R e1 (e2++[[.str t,.con (.slice none 0 0)]]) e3 e4 n1 n2 n3 n4 mo gr fr n:=by
 intro T H c g g0 g1 g2 g3 g4;refine cP 9005 2 [] [(9002,some (_,.vec 2 (e2++[[AV.str t,AV.vs 9005 _ 0]])))] trivial ⟨⟨rfl,rfl,LLLe.app _ ⟨⟨.refl _,LeP.nilV _ _ _,trivial⟩,trivial⟩⟩,trivial⟩ ?_
 (conv=>whnf)
 refine au [7,0,5,6,2] [66,79,9001,9002,9003,9004,9005] ?_;exact ih _ _ _ _ _ _ _ _ _ _
theorem agU (ih:Jv3 s R e1 e2 e3 e4 n1 n2 n3 n4 t 0 [] mo gr fr n):JvA s R e1 e2 (e3++[[.str t,.con (.slice none 0 0)]]) e4 n1 n2 n3 n4 mo gr fr n:=by
 intro T H c g g0 g1 g2 g3 g4;refine cP 9005 3 [] [(9003,some (_,.vec 2 (e3++[[AV.str t,AV.vs 9005 _ 0]])))] trivial ⟨⟨rfl,rfl,LLLe.app _ ⟨⟨.refl _,LeP.nilV _ _ _,trivial⟩,trivial⟩⟩,trivial⟩ ?_
 (conv=>whnf)
 refine au [7,0,5,6,2] [66,79,9001,9002,9003,9004,9005] ?_;exact ih _ _ _ _ _ _ _ _ _ _
theorem agT (ih:Jv4 s R e1 e2 e3 e4 n1 n2 n3 n4 t 0 0 [] mo gr fr n):JvA s R e1 e2 e3 (e4++[[.str t,.con (.slice none 0 0),.int .i64 0]]) n1 n2 n3 n4 mo gr fr n:=by
 intro T H c g g0 g1 g2 g3 g4;refine cP 9005 4 [] [(9004,some (_,.vec 3 (e4++[[AV.str t,AV.vs 9005 _ 0,.int .i64 0]])))] trivial ⟨⟨rfl,rfl,LLLe.app _ ⟨⟨.refl _,LeP.nilV _ _ _,.refl _,trivial⟩,trivial⟩⟩,trivial⟩ ?_
 (conv=>whnf)
 refine au [7,0,5,6,2] [66,79,9001,9002,9003,9004,9005] ?_;exact ih _ _ _ _ _ _ _ _ _ _
theorem agS {nm t:B5}{m:Nat}{ts:B6}{mo gr fr n:Int}(ih:Jv5 s R e1 e2 e3 e4 n1 n2 n3 n4 nm m ts t 0 0 0 [] [] mo gr fr n):Jv4 s R e1 e2 e3 e4 n1 n2 n3 n4 nm m 0 (ts++[[AV.str t,AV.con (.slice none 0 0),AV.con (.slice none 0 0),AV.int .i64 0]]) mo gr fr n:=by
 intro T H c g g0 g1 g2 g3 g4 g5;refine cP 9006 6 [] [(9005,some (_,.vec 4 (ts++[[AV.str t,AV.vs 9006 _ 0,AV.con (.slice none 0 0),AV.int .i64 0]])))] trivial ⟨⟨rfl,rfl,LLLe.app _ ⟨⟨.refl _,LeP.nilV _ _ _,.refl _,.refl _,trivial⟩,trivial⟩⟩,trivial⟩ ?_;refine cP 9007 5 [] [(9005,some (_,.vec 4 (ts++[[AV.str t,AV.vs 9006 _ 0,AV.vs 9007 _ 0,AV.int .i64 0]])))] trivial ⟨⟨rfl,rfl,LLLe.app _ ⟨⟨.refl _,.refl _,LeP.nilV _ _ _,.refl _,trivial⟩,trivial⟩⟩,trivial⟩ ?_
 (conv=>whnf)
 refine au [7,0,5,6,2] [66,79,9001,9002,9003,9004,9005,9006,9007] ?_;exact ih _ _ _ _ _ _ _ _ _ _ _ _
end
section
variable {s:B5}{R:Ret}{e1 e2 e3 e4:B6}{n1 n2 n3 n4:Nat}{nm:B5}{m:Nat}{rl:B6}(p1:ab e1=true)(p2:ab e2=true)(p3:ab e3=true)(p4:ab e4=true)(pr:ab rl=true){mo gr fr n:Int}
include p1 p2 p3 p4 pr
theorem ahs (ih:JvA s R (e1++[[.str nm,.sl 5 rl]]) e2 e3 e4 n1 n2 n3 n4 mo gr fr n)(hm:m=rl.length):Jv1 s R e1 e2 e3 e4 n1 n2 n3 n4 nm m rl mo gr fr n:=by
 subst hm;intro T H c g g0 g1 g2 g3 g4 g5;refine dC [(9005,g5,.vec 5 rl)] [7,0,5,6,2] [(66,g,.cells [bf,bf,bf,bf]),(79,g0,.cells [.vs 9001 g1 n1,.vs 9002 g2 n2,.vs 9003 g3 n3,.vs 9004 g4 n4,.int .i64 mo,.int .i64 gr]),(9001,g1,.nest 2 e1 [[AV.str nm,AV.vs 9005 g5 rl.length]]),(9002,g2,.vec 2 e2),(9003,g3,.vec 2 e3),(9004,g4,.vec 3 e4)] ⟨rfl,pz (h:=pr) trivial⟩ ?_
 iterate 24 (try ((conv=>whnf);first|refine ⟨rfl,?_⟩|refine ⟨(by first|assumption|(simp;done)|(simp[ab, *];done)),?_⟩))
 intro T H;exact ih _ _ _ _ _ _ _ _ _
theorem ahr (ih:JvA s R e1 (e2++[[.str nm,.sl 2 rl]]) e3 e4 n1 n2 n3 n4 mo gr fr n)(hm:m=rl.length):Jv2 s R e1 e2 e3 e4 n1 n2 n3 n4 nm m rl mo gr fr n:=by
 subst hm;intro T H c g g0 g1 g2 g3 g4 g5;refine dC [(9005,g5,.vec 2 rl)] [7,0,5,6,2] [(66,g,.cells [bf,bf,bf,bf]),(79,g0,.cells [.vs 9001 g1 n1,.vs 9002 g2 n2,.vs 9003 g3 n3,.vs 9004 g4 n4,.int .i64 mo,.int .i64 gr]),(9001,g1,.vec 2 e1),(9002,g2,.nest 2 e2 [[AV.str nm,AV.vs 9005 g5 rl.length]]),(9003,g3,.vec 2 e3),(9004,g4,.vec 3 e4)] ⟨rfl,pz (h:=pr) trivial⟩ ?_
 iterate 24 (try ((conv=>whnf);first|refine ⟨rfl,?_⟩|refine ⟨(by first|assumption|(simp;done)|(simp[ab, *];done)),?_⟩))
 intro T H;exact ih _ _ _ _ _ _ _ _ _
theorem ahq (ih:JvA s R e1 e2 (e3++[[.str nm,.sl 3 rl]]) e4 n1 n2 n3 n4 mo gr fr n)(hm:m=rl.length):Jv3 s R e1 e2 e3 e4 n1 n2 n3 n4 nm m rl mo gr fr n:=by
 subst hm;intro T H c g g0 g1 g2 g3 g4 g5;refine dC [(9005,g5,.vec 3 rl)] [7,0,5,6,2] [(66,g,.cells [bf,bf,bf,bf]),(79,g0,.cells [.vs 9001 g1 n1,.vs 9002 g2 n2,.vs 9003 g3 n3,.vs 9004 g4 n4,.int .i64 mo,.int .i64 gr]),(9001,g1,.vec 2 e1),(9002,g2,.vec 2 e2),(9003,g3,.nest 2 e3 [[AV.str nm,AV.vs 9005 g5 rl.length]]),(9004,g4,.vec 3 e4)] ⟨rfl,pz (h:=pr) trivial⟩ ?_
 iterate 24 (try ((conv=>whnf);first|refine ⟨rfl,?_⟩|refine ⟨(by first|assumption|(simp;done)|(simp[ab, *];done)),?_⟩))
 intro T H;exact ih _ _ _ _ _ _ _ _ _
end
section
variable {s:B5}{R:Ret}{e1 e2 e3 e4:B6}{n1 n2 n3 n4:Nat}
theorem ahp {nm:B5}{m:Nat}{v:Int}{ts:B6}(p1:ab e1=true)(p2:ab e2=true)(p3:ab e3=true)(p4:ab e4=true)(pt:ab ts=true){mo gr fr n:Int}(ih:JvA s R e1 e2 e3 (e4++[[.str nm,.sl 4 ts,.int .i64 v]]) n1 n2 n3 n4 mo gr fr n)(hm:m=ts.length):Jv4 s R e1 e2 e3 e4 n1 n2 n3 n4 nm m v ts mo gr fr n:=by
 subst hm;intro T H c g g0 g1 g2 g3 g4 g5;refine dC [(9005,g5,.vec 4 ts)] [7,0,5,6,2] [(66,g,.cells [bf,bf,bf,bf]),(79,g0,.cells [.vs 9001 g1 n1,.vs 9002 g2 n2,.vs 9003 g3 n3,.vs 9004 g4 n4,.int .i64 mo,.int .i64 gr]),(9001,g1,.vec 2 e1),(9002,g2,.vec 2 e2),(9003,g3,.vec 2 e3),(9004,g4,.nest 3 e4 [[AV.str nm,AV.vs 9005 g5 ts.length,AV.int .i64 v]])] ⟨rfl,pz (h:=pt) trivial⟩ ?_
 iterate 24 (try ((conv=>whnf);first|refine ⟨rfl,?_⟩|refine ⟨(by first|assumption|(simp;done)|(simp[ab, *];done)),?_⟩))
 intro T H;exact ih _ _ _ _ _ _ _ _ _
theorem aho {nm tn:B5}{m m6 m7:Nat}{v:Int}{ts ms acs:B6}(p1:ab e1=true)(p2:ab e2=true)(p3:ab e3=true)(p4:ab e4=true)(pt:ab ts=true)(pm:ab ms=true)(pc:ab acs=true){mo gr fr n:Int}(ih:Jv4 s R e1 e2 e3 e4 n1 n2 n3 n4 nm m 0 (ts++[[.str tn,.sl 6 ms,.sl 5 acs,.int .i64 v]]) mo gr fr n)(h6:m6=ms.length)(h7:m7=acs.length):Jv5 s R e1 e2 e3 e4 n1 n2 n3 n4 nm m ts tn m6 m7 v ms acs mo gr fr n:=by
 subst h6 h7;intro T H c g g0 g1 g2 g3 g4 g5 g6 g7;refine dC [(9006,g6,.vec 6 ms),(9007,g7,.vec 5 acs)] [7,0,5,6,2] [(66,g,.cells [bf,bf,bf,bf]),(79,g0,.cells [.vs 9001 g1 n1,.vs 9002 g2 n2,.vs 9003 g3 n3,.vs 9004 g4 n4,.int .i64 mo,.int .i64 gr]),(9001,g1,.vec 2 e1),(9002,g2,.vec 2 e2),(9003,g3,.vec 2 e3),(9004,g4,.nest 3 e4 [[AV.str nm,AV.vs 9005 g5 m,AV.int .i64 0]]),(9005,g5,.nest 4 ts [[AV.str tn,AV.vs 9006 g6 ms.length,AV.vs 9007 g7 acs.length,AV.int .i64 v]])] ⟨rfl,pz (h:=pm) ⟨rfl,pz (h:=pc) trivial⟩⟩ ?_
 iterate 24 (try ((conv=>whnf);first|refine ⟨rfl,?_⟩|refine ⟨(by first|assumption|(simp;done)|(simp[ab, *];done)),?_⟩))
 intro T H;exact ih _ _ _ _ _ _ _ _ _ _
end
theorem oG (s done acc:B5)(hs:s.length<=65536)(e:s=done++acc)(h0:acc≠ [])(hx: ∀a∈acc,a≠10)(fr n:Int)(hfr:fr=done.length)(hn0:0<=n)(hn:n<=65536)(T:TV)(H:az)(c g g0:Nat):Ev G ⟨iz,⟨(7,.int .i64 fr)::(0,.str s)::(5,.ref 79 g0 0)::(6,.int .i64 n)::(2,.ref 66 g 0)::T,(66,some (g,.cells [bf,bf,bf,bf]))::H,c⟩,[.cell 2 (some 4),.t 3,.t 4],0⟩ (bQ (cd,n+1,2)):=by
 have hl:s.length=done.length+acc.length:=by simp[e]
 have:=List.length_pos_iff.mpr h0;refine evA ?_
 (conv=>whnf)
 refine au [8,0,5,6,7,2] [66] ?_;refine AY s hs _ _ g g0 fr n acc done [] _ _ fr (by simp[e]) hfr hx (λT c=>?_)
 rw[show ((done++acc).length:Nat)=s.length by rw[e]]
 refine evA ?_
 (conv=>whnf)
 refine b9 [] [(66,some (_,.cells [.sl 2 [],.sl 2 [],.sl 2 [],.sl 3 []]))] trivial ⟨⟨rfl,⟨LeP.nil _,LeP.nil _,LeP.nil _,LeP.nil _,trivial⟩⟩,trivial⟩ ?_;refine ap ?_
 (conv=>whnf)
 first|(refine ⟨rfl,?_⟩;trivial)|(refine ⟨?_,?_⟩; ·rfl)|(apply congrArg;rfl)|(unfold bQ cd PSet.enc;rfl)
section
variable (s:B5)(hs:s.length<=65536)
include hs
theorem TZ (fr n:Int)(hn0:0<=n)(hn:n<=65536)(hfr: ¬fr<s.length)(mo gr:Int)(hm: ¬mo<4)(T:TV)(H:az)(c g g0:Nat)(c0 c1 c2 c3:AV):Ev G ⟨iz,⟨(7,.int .i64 fr)::(0,.str s)::(5,.ref 79 g0 0)::(6,.int .i64 n)::(2,.ref 66 g 0)::T,(66,some (g,.cells [bf,bf,bf,bf]))::(79,some (g0,.cells [c0,c1,c2,c3,.int .i64 mo,.int .i64 gr]))::H,c⟩,[.cell 2 (some 4),.t 3,.t 4],0⟩ (bQ (cd,n+1,3)):=by
 refine evA ?_
 (conv=>whnf)
 refine b9 [] [(66,some (_,.cells [.sl 2 [],.sl 2 [],.sl 2 [],.sl 3 []]))] trivial ⟨⟨rfl,⟨LeP.nil _,LeP.nil _,LeP.nil _,LeP.nil _,trivial⟩⟩,trivial⟩ ?_;refine ap ?_
 (conv=>whnf)
 first|(refine ⟨rfl,?_⟩;trivial)|(refine ⟨?_,?_⟩; ·rfl)|(apply congrArg;rfl)|(unfold bQ cd PSet.enc;rfl)
theorem agN {e1 e2 e3 e4:B6}(p1:ab e1=true)(p2:ab e2=true)(p3:ab e3=true)(p4:ab e4=true)(fr n mo gr:Int)(hfr: ¬fr<s.length)(hm:mo<4):JvA s ⟨.tup [.agg [.sl 2 e1,.sl 2 e2,.sl 2 e3,.sl 3 e4],.int .i64 0,.int .i64 0],[]⟩ e1 e2 e3 e4 e1.length e2.length e3.length e4.length mo gr fr n:=by
 intro T H c g g0 g1 g2 g3 g4;refine dC [(9001,g1,.vec 2 e1),(9002,g2,.vec 2 e2),(9003,g3,.vec 2 e3),(9004,g4,.vec 3 e4)] [7,0,5,6,2] [(66,g,.cells [bf,bf,bf,bf]),(79,g0,.cells [.vs 9001 g1 e1.length,.vs 9002 g2 e2.length,.vs 9003 g3 e3.length,.vs 9004 g4 e4.length,.int .i64 mo,.int .i64 gr])] ⟨rfl,pz (h:=p1) ⟨rfl,pz (h:=p2) ⟨rfl,pz (h:=p3) ⟨rfl,pz (h:=p4) trivial⟩⟩⟩⟩ ?_
 iterate 24 (try ((conv=>whnf);first|refine ⟨rfl,?_⟩|refine ⟨(by first|assumption|(simp;done)|(simp[ab, *];done)),?_⟩))
 intro T H;refine evA ?_
 (conv=>whnf)
 refine ap ?_
 (conv=>whnf)
 refine ⟨(by simp[AV.pure,aM,ab, *]),?_⟩
 rfl
theorem Xc (R:Ret)(ih:JvA s R [] [] [] [] 0 0 0 0 0 0 0 0):ag G 476 [.str s] [] R:=by
 refine gvB (F:=BG) ?_;refine cP 9001 2 [] [(79,some (_,.cells [.vs 9001 _ 0,bf,bf,bf,.int .i64 0,.int .i64 0]))] trivial ⟨⟨rfl,⟨LeP.nilV _ _ _,.refl _,.refl _,.refl _,.refl _,.refl _,trivial⟩⟩,trivial⟩ ?_;refine cP 9002 2 [] [(79,some (_,.cells [.vs 9001 _ 0,.vs 9002 _ 0,bf,bf,.int .i64 0,.int .i64 0]))] trivial ⟨⟨rfl,⟨.refl _,LeP.nilV _ _ _,.refl _,.refl _,.refl _,.refl _,trivial⟩⟩,trivial⟩ ?_;refine cP 9003 2 [] [(79,some (_,.cells [.vs 9001 _ 0,.vs 9002 _ 0,.vs 9003 _ 0,bf,.int .i64 0,.int .i64 0]))] trivial ⟨⟨rfl,⟨.refl _,.refl _,LeP.nilV _ _ _,.refl _,.refl _,.refl _,trivial⟩⟩,trivial⟩ ?_;refine cP 9004 3 [] [(79,some (_,.cells [.vs 9001 _ 0,.vs 9002 _ 0,.vs 9003 _ 0,.vs 9004 _ 0,.int .i64 0,.int .i64 0]))] trivial ⟨⟨rfl,⟨.refl _,.refl _,.refl _,LeP.nilV _ _ _,.refl _,.refl _,trivial⟩⟩,trivial⟩ ?_
 (conv=>whnf)
 refine au [7,0,5,6,2] [66,79,9001,9002,9003,9004] ?_;exact ih _ _ _ _ _ _ _ _ _
end
theorem acr (s:B5)(hs:s.length<2^30)(h:65536<s.length):ag G 476 [.str s] [] (bQ (cd,0,4)):=by
 refine gvB (F:=BG) ?_
 (conv=>whnf)
 refine b9 [] [(66,some (_,.cells [.sl 2 [],.sl 2 [],.sl 2 [],.sl 3 []]))] trivial ⟨⟨rfl,⟨LeP.nil _,LeP.nil _,LeP.nil _,LeP.nil _,trivial⟩⟩,trivial⟩ ?_;refine ap ?_
 (conv=>whnf)
 first|(refine ⟨rfl,?_⟩;trivial)|(refine ⟨?_,?_⟩; ·rfl)|(apply congrArg;rfl)|(unfold bQ cd PSet.enc;rfl)
def PS.mo:PS->Int
 | .top _ _ _ _ so=>if so=4 then 0 else so
 | .pre .. =>1
 | .pat .. =>2
 | .com .. =>3
 | .pol .. =>4
 | .term _ _ _ _ _ _ _ _ acs=>if acs= [] then 5 else 6
def fk (s:B5)(R:Ret)(st:PS)(fr n:Int):Prop:=match st with
 | .top pre pa co po so=>JvA s R (pre.map PList.enc) (pa.map PathL.enc) (co.map ComL.enc) (po.map Pol.enc) (pre.map PList.enc).length (pa.map PathL.enc).length (co.map ComL.enc).length (po.map Pol.enc).length (if so=4 then 0 else so) so fr n
 | .pre pre pa co po nm rl=>Jv1 s R (pre.map PList.enc) (pa.map PathL.enc) (co.map ComL.enc) (po.map Pol.enc) ((pre.map PList.enc).length+1) (pa.map PathL.enc).length (co.map ComL.enc).length (po.map Pol.enc).length nm (rl.map RuleP.enc).length (rl.map RuleP.enc) 1 1 fr n
 | .pat pre pa co po nm rl=>Jv2 s R (pre.map PList.enc) (pa.map PathL.enc) (co.map ComL.enc) (po.map Pol.enc) (pre.map PList.enc).length ((pa.map PathL.enc).length+1) (co.map ComL.enc).length (po.map Pol.enc).length nm (rl.map PathR.enc).length (rl.map PathR.enc) 2 2 fr n
 | .com pre pa co po nm rl=>Jv3 s R (pre.map PList.enc) (pa.map PathL.enc) (co.map ComL.enc) (po.map Pol.enc) (pre.map PList.enc).length (pa.map PathL.enc).length ((co.map ComL.enc).length+1) (po.map Pol.enc).length nm (rl.map ComR.enc).length (rl.map ComR.enc) 3 3 fr n
 | .pol pre pa co po nm ts=>Jv4 s R (pre.map PList.enc) (pa.map PathL.enc) (co.map ComL.enc) (po.map Pol.enc) (pre.map PList.enc).length (pa.map PathL.enc).length (co.map ComL.enc).length ((po.map Pol.enc).length+1) nm (ts.map Trm.enc).length 0 (ts.map Trm.enc) 4 4 fr n
 | .term pre pa co po nm ts tn ms acs=>Jv5 s R (pre.map PList.enc) (pa.map PathL.enc) (co.map ComL.enc) (po.map Pol.enc) (pre.map PList.enc).length (pa.map PathL.enc).length (co.map ComL.enc).length ((po.map Pol.enc).length+1) nm ((ts.map Trm.enc).length+1) (ts.map Trm.enc) tn (ms.map Mat.enc).length (acs.map Actn.enc).length 0 (ms.map Mat.enc) (acs.map Actn.enc) (if acs= [] then 5 else 6) 4 fr n
section
variable (pre:CL) (pa:CO) (co:CS) (po:C0)
variable {s:B5} {R:Ret} {fr n:Int}
theorem abu (nm:B5)(rl:DN)(h:fk s R (.top (pre++[⟨nm,rl⟩]) pa co po 1) fr n):fk s R (.pre pre pa co po nm rl) fr n:=by
 simp only[fk,List.map_append,An,A6,Ao,List.length_singleton] at h⊢;exact ahs (cp pre) (cq pa) (cr co) (bM po) (by simp) h rfl
theorem abt (nm:B5)(rl:DO)(h:fk s R (.top pre (pa++[⟨nm,rl⟩]) co po 2) fr n):fk s R (.pat pre pa co po nm rl) fr n:=by
 simp only[fk,List.map_append,An,A6,Ao,List.length_singleton] at h⊢;exact ahr (cp pre) (cq pa) (cr co) (bM po) (by simp) h rfl
theorem abs (nm:B5)(rl:DR)(h:fk s R (.top pre pa (co++[⟨nm,rl⟩]) po 3) fr n):fk s R (.com pre pa co po nm rl) fr n:=by
 simp only[fk,List.map_append,An,A6,Ao,List.length_singleton] at h⊢;exact ahq (cp pre) (cq pa) (cr co) (bM po) (by simp) h rfl
end
theorem ivc {s:B5}{R:Ret}{fr n:Int}: ∀{st:PS},st.inPol=false->fk s R (.top st.set.prefixes st.set.paths st.set.comms st.set.pols st.grp) fr n->fk s R st fr n
 | .top ..,_,h=>h
 | .pre ..,_,h=>abu _ _ _ _ _ _ h
 | .pat ..,_,h=>abt _ _ _ _ _ _ h
 | .com ..,_,h=>abs _ _ _ _ _ _ h
theorem vE {s:B5}{R:Ret}{n fr2 n2 E:Int}{st':PS}{op:PO}(hop:hdO E st'=op)(he: ∀e,op= .err e->R=bQ (cd,n,e))(ih: ∀st',op= .ok st'->fk s R st' fr2 n2):(E≠0->R=bQ (cd,n,E))/\(E=0->fk s R st' fr2 n2):=by
 grind [hdO]
section
variable {s acc done rest:B5}{fr n:Int}
theorem ivh (q:Lr s acc done rest fr n)(pre:CL)(pa:CO)(co:CS)(po:C0)(so:Int)(l1:pre.length<2^30)(l2:pa.length<2^30)(l3:co.length<2^30)(l4:po.length<2^30){R:Ret}(w t:B5)(e:wds acc= [w,t])(t0:t≠ [])(h0:bn w≠0)(hg:so<=bn w){op:PO}(hop:yo ⟨pre,pa,co,po⟩ w t=op)(he: ∀e,op= .err e->R=bQ (cd,n+1,e))(ih: ∀st',op= .ok st'->fk s R st' (fr+acc.length+1) (n+1)):fk s R (.top pre pa co po so) fr n:=by
 have hl:acc.length<=s.length:=by have:=q.e;grind
 have hs:acc.length<2^30:=by have:=q.hs;omega
 have ht:t.length<2^30:=by grind [iu]
 have w1:(pre.map PList.enc).length<2^30:=by grind
 have w2:(pa.map PathL.enc).length<2^30:=by grind
 have w3:(co.map ComL.enc).length<2^30:=by grind
 have w4:(po.map Pol.enc).length<2^30:=by grind
 have u1:=cp pre;have u2:=cq pa;have u3:=cr co;have u4:=bM po
 have hm:(if so=4 then (0:Int) else so)<4:=by
  grind [jK]
 rcases jK h0 with ⟨qw,k⟩|⟨qw,k⟩|⟨qw,k⟩|⟨qw,k⟩
 all_goals subst qw;rw[k] at hg
 ·obtain ⟨b,hb,hx⟩:=vC pre PList.enc PList.name (λx=>⟨_,rfl⟩) t
  have hG:=ag2 u1 u2 u3 u4 w1 w2 w3 w4 acc t hs e t0 ht hm hg b hb;rw[hx] at hG;have hu:=vE (hop:=hop) he ih;exact IB q u1 u2 u3 u4 (by rw[dx,u1];rfl) u2 u3 u4 R hG hu.1 λz=>agW (hu.2 z)
 ·obtain ⟨b,hb,hx⟩:=vC pa PathL.enc PathL.name (λx=>⟨_,rfl⟩) t
  have hG:=ag1 u1 u2 u3 u4 w1 w2 w3 w4 acc t hs e t0 ht hm hg b hb;rw[hx] at hG;have hu:=vE (hop:=hop) he ih;exact IB q u1 u2 u3 u4 u1 (by rw[dx,u2];rfl) u3 u4 R hG hu.1 λz=>agV (hu.2 z)
 ·obtain ⟨b,hb,hx⟩:=vC co ComL.enc ComL.name (λx=>⟨_,rfl⟩) t
  have hG:=ag0 u1 u2 u3 u4 w1 w2 w3 w4 acc t hs e t0 ht hm hg b hb;rw[hx] at hG;have hu:=vE (hop:=hop) he ih;exact IB q u1 u2 u3 u4 u1 u2 (by rw[dx,u3];rfl) u4 R hG hu.1 λz=>agU (hu.2 z)
 ·obtain ⟨b,hb,hx⟩:=vC po Pol.enc Pol.name (λx=>⟨_,rfl⟩) t
  have hG:=agZ u1 u2 u3 u4 w1 w2 w3 w4 acc t hs e t0 ht hm hg b hb;rw[hx] at hG;have hu:=vE (hop:=hop) he ih;exact IB q u1 u2 u3 u4 u1 u2 u3 (by rw[dx,u4];rfl) R hG hu.1 λz=>agT (hu.2 z)
def PS.calmR:PS->Prop
 | .top _ _ _ _ so=>so=0∨so=4
 |_=>True
theorem R7 {st st':PS}{Rb:Co}(ok:OkR st st' Rb):st'.calmR:=by
 cases ok<;>first|trivial|exact .inr rfl
theorem ivs (q:Lr s acc done rest fr n)(st:PS)(m:Nat)(hle:st.le m)(hm:m<=65536)(hc:st.calmR){R:Ret}{op:PO}(hop:ns st acc=op)(he: ∀e,op= .err e->R=bQ (cd,n+1,e))(ih: ∀st',op= .ok st'->fk s R st' (fr+acc.length+1) (n+1)):fk s R st fr n:=by
 have hl:acc.length<=s.length:=by have:=q.e;grind
 have hs:acc.length<2^29:=by have:=q.hs;omega
 rcases W5 st acc with ⟨w,t,e,t0,hp,h0,hg,hr⟩|⟨hr,hno⟩
 ·have hf:=Uv (by omega) hle
  refine ivc hp ?_
  have b:st.set.prefixes.length<2^30/\st.set.paths.length<2^30/\st.set.comms.length<2^30/\st.set.pols.length<2^30:=by
   cases st with
   |top=>obtain ⟨h1,h2,h3,h4⟩:=hle;grind [PS.set]
   |pre=>obtain ⟨h1,h2,h3,h4,h5⟩:=hle;grind [PS.set]
   |pat=>obtain ⟨h1,h2,h3,h4,h5⟩:=hle;grind [PS.set]
   |com=>obtain ⟨h1,h2,h3,h4,h5⟩:=hle;grind [PS.set]
   |pol=>cases hp
   |term=>cases hp
  exact ivh q _ _ _ _ _ b.1 b.2.1 b.2.2.1 b.2.2.2 w t e t0 h0 hg (hr.symm.trans hop) he ih
 ·rw[hr] at hop
  cases st with
  |top pre pa co po so=>
   obtain ⟨h1,h2,h3,h4⟩:=hle;have hso:(if so=4 then (0:Int) else so)=0:=by rcases hc with rfl|rfl<;>rfl
   have hG:=ag6 (cp pre) (cq pa) (cr co) (bM po) (aZ (by omega)) (aZ (by omega)) (aZ (by omega)) (aZ (by omega)) acc (by omega) (by grind [iu]) (hno rfl 0)
   refine IB q (cp pre) (cq pa) (cr co) (bM po) (cp pre) (cq pa) (cr co) (bM po) R (by rw[hso];exact hG) (λ_=>he 2 hop.symm) (λz=>by cases z)
  |pre pre pa co po nm rl=>
   obtain ⟨h1,h2,h3,h4,h5⟩:=hle;obtain ⟨E,n2,rl2,f,hz,hG,hE⟩:=ahb pre pa co po nm rl (by omega) (by omega) (by omega) (by omega) (by omega) acc hs (hno rfl 1)
   rw[hop] at hE;refine pr_1 q (cp pre) (cq pa) (cr co) (bM po) (by simp) hz R hG (λz=>?_) (λz=>?_)
   all_goals grind [fk]
  |pat pre pa co po nm rl=>
   obtain ⟨h1,h2,h3,h4,h5⟩:=hle;obtain ⟨E,n2,rl2,f,hz,hG,hE⟩:=aha pre pa co po nm rl (by omega) (by omega) (by omega) (by omega) (by omega) acc hs (hno rfl 2)
   rw[hop] at hE;refine pr_2 q (cp pre) (cq pa) (cr co) (bM po) (by simp) hz R hG (λz=>?_) (λz=>?_)
   all_goals grind [fk]
  |com pre pa co po nm rl=>
   obtain ⟨h1,h2,h3,h4,h5⟩:=hle;obtain ⟨E,n2,rl2,f,hz,hG,hE⟩:=ag9 pre pa co po nm rl (by omega) (by omega) (by omega) (by omega) (by omega) acc hs (hno rfl 3)
   rw[hop] at hE;refine pr_3 q (cp pre) (cq pa) (cr co) (bM po) (by simp) hz R hG (λz=>?_) (λz=>?_)
   all_goals grind [fk]
  |pol pre pa co po nm ts=>
   obtain ⟨h1,h2,h3,h4,h5⟩:=hle;obtain ⟨E,mo2,n2,v2,ts2,f,hz,hG,hE⟩:=ag8 pre pa co po nm ts (by omega) (by omega) (by omega) (by omega) (by omega) acc hs
   rw[hop] at hE;refine pr_4 q (cp pre) (cq pa) (cr co) (bM po) (by simp) hz R hG (λz=>?_) (λz=>?_)
   ·grind
   ·rcases hE with ⟨z2,_⟩|⟨_,rfl,rfl,rfl,hE⟩|⟨_,rfl,rfl,rfl,t,rfl,hE⟩
    ·grind
    ·have h:=ih _ hE
     simp only[fk,List.map_append,An,A6,Ao,List.length_singleton] at h;exact ahp (cp pre) (cq pa) (cr co) (bM po) (by simp) h rfl
    grind [fk,agS]
  |term pre pa co po nm ts tn ms acs=>
   obtain ⟨h1,h2,h3,h4,h5,h6,h7⟩:=hle;obtain ⟨E,mo2,n6,n7,v7,ms2,acs2,f6,f7,hz,hz2,hG,hE⟩:=ag7 pre pa co po nm ts tn ms acs (by omega) (by omega) (by omega) (by omega) (by omega) (by omega) (by omega) acc hs
   rw[hop] at hE;refine pr_5 q (cp pre) (cq pa) (cr co) (bM po) (by simp) (by simp) (by simp) hz hz2 R hG (λz=>?_) (λz=>?_)
   ·grind
   ·rcases hE with ⟨z2,_⟩|⟨_,rfl,rfl,rfl,rfl,rfl,x,rfl,hE⟩|⟨_,rfl,rfl,rfl,rfl,rfl,x,rfl,hE⟩|⟨_,rfl,rfl,rfl,rfl,rfl,hE⟩
    ·grind
    ·grind [fk]
    ·grind [fk]
    ·have h:=ih _ hE
     simp only[fk,List.map_append,An,A6,Ao,List.length_singleton] at h;exact aho (cp pre) (cq pa) (cr co) (bM po) (by simp) (by simp) (by simp) h rfl rfl
end
section
variable (s:B5)(hs:s.length<=65536)(fr n:Int)
include hs
theorem vy (hfr: ¬fr<s.length)(pre:CL)(pa:CO)(co:CS)(po:C0)(so:Int)(hm:(if so=4 then (0:Int) else so)<4):fk s (bQ (⟨pre,pa,co,po⟩,0,0)) (.top pre pa co po so) fr n:=
 agN s hs (cp pre) (cq pa) (cr co) (bM po) fr n _ _ hfr hm
theorem ive (hn0:0<=n)(hn:n<=65536)(hfr: ¬fr<s.length): ∀(st:PS),st.calmR->fk s (bQ (if st.inPol=true then (cd,n+1,3) else (st.set,0,0))) st fr n
 | .top pre pa co po so,hc=>vy s hs fr n hfr pre pa co po so (by rcases hc with rfl|rfl<;>decide)
 | .pre pre pa co po nm rl,_=>abu _ _ _ _ _ _ (vy s hs fr n hfr _ pa co po 1 (by decide))
 | .pat pre pa co po nm rl,_=>abt _ _ _ _ _ _ (vy s hs fr n hfr pre _ co po 2 (by decide))
 | .com pre pa co po nm rl,_=>abs _ _ _ _ _ _ (vy s hs fr n hfr pre pa _ po 3 (by decide))
 | .pol pre pa co po nm ts,_=>λT H c g g0 g1 g2 g3 g4 g5=>TZ s hs fr n hn0 hn hfr 4 4 (by decide) T _ c g g0 _ _ _ _
 | .term pre pa co po nm ts tn ms acs,_=>λT H c g g0 g1 g2 g3 g4 g5 g6 g7=>TZ s hs fr n hn0 hn hfr _ 4 (by grind) T _ c g g0 _ _ _ _
end
theorem iveL (s done acc:B5)(hs:s.length<=65536)(e:s=done++acc)(h0:acc≠ [])(hx: ∀a∈acc,a≠10)(fr n:Int)(hfr:fr=done.length)(hn0:0<=n)(hn:n<=65536): ∀(st:PS),fk s (bQ (cd,n+1,2)) st fr n
 | .top .. =>λT H c g g0 g1 g2 g3 g4=>oG s done acc hs e h0 hx fr n hfr hn0 hn T _ c g g0
 | .pre .. =>λT H c g g0 g1 g2 g3 g4 g5=>oG s done acc hs e h0 hx fr n hfr hn0 hn T _ c g g0
 | .pat .. =>λT H c g g0 g1 g2 g3 g4 g5=>oG s done acc hs e h0 hx fr n hfr hn0 hn T _ c g g0
 | .com .. =>λT H c g g0 g1 g2 g3 g4 g5=>oG s done acc hs e h0 hx fr n hfr hn0 hn T _ c g g0
 | .pol .. =>λT H c g g0 g1 g2 g3 g4 g5=>oG s done acc hs e h0 hx fr n hfr hn0 hn T _ c g g0
 | .term .. =>λT H c g g0 g1 g2 g3 g4 g5 g6 g7=>oG s done acc hs e h0 hx fr n hfr hn0 hn T _ c g g0
theorem GN (st:PS)(n:Int)(r:B5): ∀(x acc:B5),(∀a∈x,a≠10)->jc st n acc (x++r)=jc st n (acc++x) r:=by
 intro z0;induction z0<;>simp_all[jc]
theorem abp: ∀s:B5,(∀a∈s,a≠10)∨ ∃x r,s=x++10::r/\ ∀a∈x,a≠10
 | []=>.inl (by simp)
 |c::s=>by
  by_cases h:c=10
  ·exact .inr ⟨[],s,by grind,by simp⟩
  ·rcases abp s with q|⟨x,r,e,q⟩
   all_goals grind
theorem acp (s:B5)(hs:s.length<=65536): ∀(k:Nat)(rest done:B5)(st:PS)(n:Nat),rest.length<=k->s=done++rest->n<=done.length->st.le n->st.calmR->fk s (bQ (jc st n [] rest)) st done.length n:=by
 intro k
 induction k with
 |zero=>
  intro rest done st n hk e hn hl hc;have hr:rest= []:=List.length_eq_zero_iff.1 (by omega)
  subst hr;have hd:=md0 e;exact ive s hs _ _ (by omega) (by omega) (by omega) st hc
 |succ k ihk=>
  intro rest done st n hk e hn hl hc;have hd:s.length=done.length+rest.length:=by simp[e]
  rcases abp rest with hx|⟨acc,r,e2,hx⟩
  ·by_cases h0:rest= []
   ·grind
   ·have h1:=GN st n [] rest [] hx
    grind [jc,iveL]
  ·have h1:=GN st n (10::r) acc [] hx
   rw[A9] at h1;rw[e2,h1];have hb:(10:UInt8)∉acc:=λq=>hx 10 q rfl
   have hl2:rest.length=acc.length+(r.length+1):=by grind
   refine ivs (done:=done) (rest:=r) ⟨hs,by rw[e,e2],rfl,by omega,by omega,hx⟩ st n hl (by omega) hc (W6 st acc hb) ?_ ?_
   ·grind [jc]
   ·intro st' h
    have hS:=vk st acc;rw[h] at hS;obtain ⟨Rb,hok⟩:=wG hS;have:=ihk r (done++(acc++[10])) st' (n+1) (by omega) (by grind) (by grind) (NZ hok (w5 acc hl)) (R7 hok)
    grind [jc]
theorem Iz (s:B5)(hs:s.length<2^30):ag G 476 [.str s] [] (bQ (jF s)):=by
 by_cases h:65536<s.length
 ·unfold jF;rw[Ac h]
  exact acr s hs h
 ·unfold jF;rw[Aa h]
  exact Xc s (by omega) _ (acp s (by omega) s.length s [] (.top [] [] [] [] 0) 0 (A7 _) rfl (A7 _) ⟨A7 _,A7 _,A7 _,A7 _⟩ (.inl rfl))
structure SFit (m:Nat)(p:PSet):Prop where
 a:p.prefixes.length<=m
 b:p.paths.length<=m
 c:p.comms.length<=m
 d:p.pols.length<=m
 a1: ∀x∈p.prefixes,x.rules.length<=m
 b1: ∀x∈p.paths,x.rules.length<=m
 c1: ∀x∈p.comms,x.rules.length<=m
 d1: ∀x∈p.pols,x.terms.length<=m/\ ∀t∈x.terms,t.mats.length<=m/\t.acts.length<=m
theorem SFit.up {m k:Nat}{p:PSet}(h:SFit m p)(hk:m<=k):SFit k p:=
 ⟨AJ h.a hk,AJ h.b hk,AJ h.c hk,AJ h.d hk,λx hx=>AJ (h.a1 x hx) hk,λx hx=>AJ (h.b1 x hx) hk,λx hx=>AJ (h.c1 x hx) hk,λx hx=>⟨AJ (h.d1 x hx).1 hk,λt ht=>⟨AJ ((h.d1 x hx).2 t ht).1 hk,AJ ((h.d1 x hx).2 t ht).2 hk⟩⟩⟩
theorem acm {α:Type}{P:α->Prop}{l:List α}{x:α}:(∀y∈l++[x],P y)↔ (∀y∈l,P y)/\P x:=
 ⟨λh=>⟨λy hy=>h y (by simp[hy]),h x (by simp)⟩,λh y hy=>by grind⟩
theorem ab3 {st st':PS}{Rb:Co}(ok:OkR st st' Rb){m:Nat}(h:SFit m st.set):SFit (m+1) st'.set:=by
 have g:=h.up (Nat.le_succ m);obtain ⟨a,b,c,d,a1,b1,c1,d1⟩:=h;obtain ⟨_,_,_,_,a2,b2,c2,d2⟩:=g;cases ok
 all_goals
  simp only[PS.set,Ao,List.length_singleton,acm] at*;refine ⟨?_,?_,?_,?_,?_,?_,?_,?_⟩
 all_goals grind [List.length_singleton]
theorem Vu (s:B5): ∀st:PS,(st.close s).set=st.set
 | .top .. =>rfl
 | .pol .. =>rfl
 | .term .. =>rfl
 | .pre .. =>by simp only[PS.close];split<;>rfl
 | .pat .. =>by simp only[PS.close];split<;>rfl
 | .com .. =>by simp only[PS.close];split<;>rfl
theorem O4 (m:Nat):SFit m cd:=⟨Nat.zero_le _,Nat.zero_le _,Nat.zero_le _,Nat.zero_le _,λx hx=>(by cases hx),λx hx=>(by cases hx),λx hx=>(by cases hx),λx hx=>(by cases hx)⟩
theorem GQ: ∀(rest:B5)(st:PS)(n:Int)(acc:B5)(m:Nat),SFit m st.set->SFit (m+rest.length) (jc st n acc rest).1
 | [],st,n,acc,m,h=>by
  grind [jc,O4]
 |c::r,st,n,acc,m,h=>by
  unfold jc;have e:m+(c::r).length=(m+1)+r.length:=by grind
  split
  ·rcases hs:dk st acc with er|st'
   ·exact O4 _
   ·have hS:=vk st acc
    rw[hs] at hS;obtain ⟨Rb,hok⟩:=wG hS;rw[e];exact GQ r st' (n+1) [] (m+1) (ab3 hok (by grind [Vu]))
  ·rw[e]
   exact GQ r st n (acc++[c]) (m+1) (h.up (Nat.le_succ m))
theorem Ua (s:B5)(hs:s.length<2^30):(jF s).1.fits:=by
 have h:SFit s.length (jF s).1:=by
  unfold jF;split
  ·exact O4 _
  ·have:=GQ s (.top [] [] [] [] 0) 0 [] 0 (O4 0)
   grind
 obtain ⟨a,b,c,d,a1,b1,c1,d1⟩:=h;have e: ∀k,k<=s.length->k<2^40:=λk hk=>by omega
 exact ⟨e _ a,e _ b,e _ c,e _ d,λx hx=>e _ (a1 x hx),λx hx=>e _ (b1 x hx),λx hx=>e _ (c1 x hx),λx hx=>⟨e _ (d1 x hx).1,λt ht=>⟨e _ ((d1 x hx).2 t ht).1,e _ ((d1 x hx).2 t ht).2⟩⟩⟩
def IQ:B7->C5->C3
 | [.str s],[]=>if s.length<2^30 then some (bQ (jF s)) else none
 |_,_=>none
theorem acA {args:B7}{bs:C5}{t:Ret}(h:IQ args bs=some t):ag GR 418 args bs t:=by
 unfold IQ at h;split at h
 ·split at h
  ·rename_i hs;cases h;exact IA _ hs
  ·cases h
 ·cases h
noncomputable def GA (f:Nat):Fun:=bif Nat.beq f 418 then .prim false IQ else G f
open Classical in
noncomputable def pBy (P:B7->Ret->Prop)(args:B7)(bs:C5):C3:=if h:bs= []/\ ∃t,P args t then some (Classical.choose h.2) else none
section
variable {P:B7->Ret->Prop}{args:B7}{bs:C5}{t:Ret}
theorem IW (h:P args t)(hu: ∀t',P args t'->t'=t):pBy P args []=some t:=by
 have hx:([]:C5)= []/\ ∃t,P args t:=⟨rfl,t,h⟩
 unfold pBy;rw[dif_pos hx,hu _ (Classical.choose_spec hx.2)]
theorem IV (h:pBy P args bs=some t):bs= []/\P args t:=by
 unfold pBy at h;split at h
 ·rename_i hx
  cases h;exact ⟨hx.1,Classical.choose_spec hx.2⟩
 ·cases h
section
variable (args:B7)(t:Ret)
def Sx:Prop:= ∃s:B5,args= [.str s]/\s.length<2^30/\t=bQ (jF s)
def Sw:Prop:= ∃s:PSet,args= [.agg s.enc,.agg s.enc]/\s.fits/\t=⟨.bool true,[]⟩
def abM:Prop:=args= []/\t=⟨.bool true,[]⟩
end
theorem acE {s:B5}(h:s.length<2^30):pBy Sx [.str s] []=some (bQ (jF s)):=IW ⟨s,rfl,h,rfl⟩ λt' ⟨u,e,_,e2⟩=>by
 have:s=u:=by simpa using e
 rw[e2,this]
theorem acD {s:PSet}(h:s.fits):pBy Sw [.agg s.enc,.agg s.enc] []=some ⟨.bool true,[]⟩:=IW ⟨s,rfl,h,rfl⟩ λt' ⟨_,_,_,e⟩=>e
theorem acB:pBy abM [] []=some ⟨.bool true,[]⟩:=IW ⟨rfl,rfl⟩ λt' ⟨_,e⟩=>e
noncomputable def GL (f:Nat):Fun:=
 bif Nat.beq f 418 then .prim false IQ else bif Nat.beq f 476 then .prim false (pBy Sx) else
 bif Nat.beq f 479 then .prim false (pBy Sw) else bif Nat.beq f 669 then .prim false (pBy abM) else G f
theorem ab6 (h:Sx args t):ag G 476 args [] t:=by
 obtain ⟨s,rfl,h,rfl⟩:=h;exact Iz s h
theorem ab5 (h:Sw args t):ag G 479 args [] t:=by
 obtain ⟨s,rfl,h,rfl⟩:=h;exact O5 s h
end
theorem Jg (s:B5)(hs:s.length<2^40):ag GL 664 [.str s] [] ⟨.bool true,[]⟩:=by
 have ha:ag GL 669 [] [] ⟨.bool true,[]⟩:=acB
 by_cases hl:20000<s.length
 ·exact gvA (F:=QK)
 ·have hl2:s.length<2^30:=by omega
  have h1:ag GL 418 [.str s] [] (bQ (jF s)):=Ac hl2;have h2:ag GL 476 [.str s] [] (bQ (jF s)):=acE hl2;have h3:ag GL 479 [.agg (jF s).1.enc,.agg (jF s).1.enc] [] ⟨.bool true,[]⟩:=acD (Ua s hl2);unfold bQ at h1 h2;unfold PSet.enc at h1 h2 h3;generalize jF s=x at*;obtain ⟨⟨x1,x2,x3,x4⟩,m,e⟩:=x;dsimp only at h1 h2 h3;refine gvC (F:=QK) ?_
  repeat' ((conv=>whnf);first|refine en rfl ?_|refine aq ?_|apply ae<;>intro h)
  refine ap ?_;rfl
theorem law664_all (ass:B6)(h:sG [.str] ass)(hb:jj ass<=1048576):ag GL 664 (qz [.str] ass) [] ⟨.bool true,[]⟩:=by
 obtain ⟨x0,s0,rfl,h0,h⟩:=Se h;obtain rfl:=VT h;obtain ⟨s,rfl⟩:=ahK h0;simp only[jj,bkL,AV.bk] at hb;exact Jg s (by omega)
end Go.AM.IR
