/- What functions of this program give. -/
import Derived.Test.YtomphmeopjpejaaGreatDoorDataP
set_option linter.unusedSectionVars false
set_option linter.unusedVariables false
set_option linter.unusedSimpArgs false
set_option maxHeartbeats 4000000
set_option maxRecDepth 20000
namespace Go.AM.IR
theorem CW: ∀(s t:CF)(a:Nat),J.foldN (s++t) a=(J.foldN s a).bind (J.foldN t)
 | [],t,a=>rfl
 |b::r,t,a=>by
  rw[B4,J.foldN,J.foldN];split
  ·rfl
  ·exact CW r t _
theorem Kz {d:Nat}(h:d<10):J.dval (UInt8.ofNat (48+d))=d/\J.dig (UInt8.ofNat (48+d))=true/\(d≠0->UInt8.ofNat (48+d)≠48):=by
 have: ∀d,d<10->J.dval (UInt8.ofNat (48+d))=d/\J.dig (UInt8.ofNat (48+d))=true/\(d≠0->UInt8.ofNat (48+d)≠48):=by decide
 exact this d h
theorem pH: ∀(f u:Nat),u<10^ (f+1)->(ca f u).all J.dig=true/\(∃b r,ca f u=b::r/\(u≠0->b≠48)/\(u=0->r= []))/\(u<=9223372036854775807->J.foldN (ca f u) 0=some u)
 |0,u,h=>by
  have h:u<10:=by simpa using h
  obtain ⟨h1,h2,h3⟩:=Kz h;refine ⟨by rw[ca,Cc,h2];rfl,⟨_,[],rfl,h3,λ_=>rfl⟩,λhu=>?_⟩
  rw[ca,J.foldN,Ac (by omega),J.foldN,h1];simp
 |f+1,u,h=>by
  by_cases hu:u<10
  ·obtain ⟨h1,h2,h3⟩:=Kz hu
   refine ⟨by rw[ca,Ad hu,Cc,h2];rfl,⟨_,[],by rw[ca,Ad hu],h3,λ_=>rfl⟩,λ_=>?_⟩
   rw[ca,Ad hu,J.foldN,Ac (by omega),J.foldN,h1];simp
  ·have h':u<10^ (f+1)*10:=by rw[<-Nat.pow_succ];exact h
   obtain ⟨g1,⟨b,r,g2,g3,g4⟩,g5⟩:=pH f (u/ 10) (by omega)
   obtain ⟨h1,h2,h3⟩:=Kz (d:=u % 10) (by omega)
   rw[ca,Ac hu];refine ⟨by rw[List.all_append,g1,Cc,h2];rfl,⟨b,r++[UInt8.ofNat (48+u % 10)],by rw[g2];rfl,λ_=>g3 (by omega),λh0=>by omega⟩,λhm=>?_⟩
   rw[CW,g5 (by omega),Option.bind_some,J.foldN,Ac (by omega),J.foldN,h1]
   congr 1;omega
theorem RE (n:Nat):ah (n:Int)=ca 19 n:=by unfold ah;rw[Ac (by omega)];simp
theorem tk {n:Nat}{most:Int}(hn:n<=9223372036854775807)(hm:(n:Int)<=most):J.fNum most (ah n)=((n:Int),0):=by
 obtain ⟨g1,⟨b,r,g2,g3,g4⟩,g5⟩:=pH 19 n (by omega)
 have g5:=g5 hn;rw[RE]
 have hc:J.canon (ca 19 n)=true:=by
  rw[g2] at g1⊢;simp only[J.canon,Av,Bool.not_eq_true',Bool.and_eq_false_iff,AR];refine ⟨?_,g1⟩;rcases Nat.eq_zero_or_pos n with h0|h0
  ·exact .inl (nn2 (g4 h0))
  ·exact .inr (g3 (by omega))
 unfold J.fNum;rw[Ad hc,g5];exact Ac (by omega)
theorem oY {α:Type}{f:α->Nat}{enc:α->CL}(h: ∀x,f x+1<=bkL (enc x)): ∀l:List α,l.length+dx f l<=eO (l.map enc)
 | []=>by simp[dx]
 |x::r=>by
  have:=oY h r;have:=h x;rw[Ao,eO,As,dx];omega
theorem fE {α:Type}{enc:α->CL}(h: ∀x,1<=bkL (enc x))(l:List α):l.length<=eO (l.map enc):=by
 have:=oY (f:=λ_=>0) (enc:=enc) (λx=>by have:=h x;omega) l
 omega
theorem jd {α:Type}{enc:α->CL}{x:α}: ∀{l:List α},x∈l->bkL (enc x)<=eO (l.map enc)
 |y::r,h=>by
  rw[Ao,eO];rcases AL.1 h with rfl|h
  ·omega
  ·have:=jd (enc:=enc) h;omega
theorem Ly (x:Mat):0+1<=bkL x.enc:=by simp only[Mat.enc,bkL,AV.bk];omega
theorem BU (x:Actn):0+1<=bkL x.enc:=by simp only[Actn.enc,bkL,AV.bk];omega
theorem Lu (x:Trm):vJ x+1<=bkL x.enc:=by
 have h1:=fE (λx=>by have:=Ly x;omega) x.mats
 have h2:=fE (λx=>by have:=BU x;omega) x.acts
 simp only[Trm.enc,bkL,AV.bk,vJ];omega
theorem WU (x:Pol):qV x+1<=bkL x.enc:=by
 have h1:=oY Lu x.terms;simp only[Pol.enc,bkL,AV.bk,qV];omega
theorem Lw (x:RuleP):1<=bkL x.enc:=by simp only[RuleP.enc,bkL,AV.bk];omega
theorem Lx (x:PathR):1<=bkL x.enc:=by simp only[PathR.enc,bkL,AV.bk];omega
theorem PH (x:ComR):1<=bkL x.enc:=by simp only[ComR.enc,bkL,AV.bk];omega
theorem w9 (x:PList):x.rules.length+1<=bkL x.enc:=by
 have h1:=fE Lw x.rules;simp only[PList.enc,bkL,AV.bk];omega
theorem w8 (x:PathL):x.rules.length+1<=bkL x.enc:=by
 have h1:=fE Lx x.rules;simp only[PathL.enc,bkL,AV.bk];omega
theorem BT (x:ComL):x.rules.length+1<=bkL x.enc:=by
 have h1:=fE PH x.rules;simp only[ComL.enc,bkL,AV.bk];omega
section
variable (s:PSet)
theorem PG:jz s<=bkL s.enc:=by
 have h1:=oY w9 s.prefixes;have h2:=oY w8 s.paths;have h3:=oY BT s.comms;have h4:=oY WU s.pols;simp only[PSet.enc,bkL,AV.bk,jz];omega
def aA {α:Type}(f:α->CF):List α->CF
 | []=>[]
 |x::r=>f x++aA f r
theorem ia {α:Type}{f:α->CF}{enc:α->CL}: ∀l:List α,(∀x∈l,(f x).length<=1000*bkL (enc x))->(aA f l).length<=1000*eO (l.map enc)
 | [],_=>by simp[aA]
 |x::r,h=>by
  have h1:=h x (by simp)
  have h2:=ia r (λy hy=>h y (by simp[hy]))
  rw[aA,Ar,Ao,eO];omega
def mF:CF:=[116,101,114,109,32]
def mU:CF:=[109,97,116,99,104,32]
def ju:CF:=[110,111,116,32]
def zh:CF:=[115,101,116,32]
def sa:CF:=[112,111,108,105,99,121,32]
def ob:CF:=[100,101,102,97,117,108,116,32]
def plL (r:RuleP):CF:=rtext r++[10]
def paL (r:PathR):CF:=gh r.permit++r.pattern++[10]
def coL (r:ComR):CF:=gh r.permit++d9 r.high++[58]++d9 r.low++[10]
def plT (x:PList):CF:=vz++x.name++[10]++aA plL x.rules
def paT (x:PathL):CF:=vC++x.name++[10]++aA paL x.rules
def coT (x:ComL):CF:=vH++x.name++[10]++aA coL x.rules
section
variable (m:Mat)
def fG:CF:=mU++(bif m.neg then ju else [])++i7 m++[10]
def et (a:Actn):CF:=zh++jm a++[10]
def dH (t:Trm):CF:=mF++t.name++[10]++(aA fG t.mats++(aA et t.acts++(dp t.verdict++[10])))
def bR (p:Pol):CF:=sa++p.name++[10]++(aA dH p.terms++(ob++dp p.dflt++[10]))
def lu:CF:=aA plT s.prefixes++(aA paT s.paths++(aA coT s.comms++aA bR s.pols))
def om:Ret:=if iA s=0 then (if 65536<(lu s).length then ⟨.tup [.str [],.int .i64 4],[]⟩ else ⟨.tup [.str (lu s),.int .i64 0],[]⟩) else ⟨.tup [.str [],.int .i64 (iA s)],[]⟩
theorem DI (x:Nat):(dots x).length<=87:=by
 have l3:=bC ((x/ 16777216:Nat):Int);have l2:=bC ((x/ 65536 % 256:Nat):Int);have l1:=bC ((x/ 256 % 256:Nat):Int);have l0:=bC ((x % 256:Nat):Int);unfold dots;simp only[Ar,As];omega
theorem xP (x n:Nat):(ptext x n).length<=109:=by
 have:=DI x;have:=bC (n:Int);unfold ptext;simp only[Ar,As];omega
theorem Yk (p:Pfx):(pfT p).length<=109:=by
 unfold pfT;split
 ·exact xP _ _
 ·simp
theorem QJ (r:RuleP):(rtext r).length<=170:=by
 have hl:=xP r.pfx.addr.toNat r.pfx.len.toNat;have l1:=bC r.min;have l2:=bC r.max;have l3:=vX r.permit;unfold rtext rtail rng;split
 ·simp only[Ar,As];omega
 ·simp only[Ar,Bb];omega
theorem YQ:(i7 m).length<=130+m.name.length:=by
 have l1:=bC m.n;have l2:=Yk m.pfx;unfold i7
 repeat' split
 all_goals (simp only[Ar];first|(show 12+_<=_;omega)|(show 10+_<=_;omega)|(show 15+_<=_;omega)|(show 9+_<=_;omega)|(show 4+_<=_;omega)|(show 7+_<=_;omega))
theorem abz (a:Actn):(jm a).length<=130:=by
 have l1:=bC a.n;have l2:=bC a.asn;have l3:=DI a.addr.toNat;have l4:=wY a.com.toNat;unfold jm
 repeat' split
 all_goals (simp only[Ar,As];first|(show 5+_<=_;omega)|(show 4+_<=_;omega)|(show 7+_<=_;omega)|(show 9+_<=_;omega)|(show 8+_<=_;omega))
theorem YU:(fG m).length<=1000*bkL m.enc:=by
 have h:=YQ m;unfold fG;simp only[Mat.enc,bkL,AV.bk,Ar];have h1:mU.length=6:=rfl;have h2:(bif m.neg then ju else []).length<=4:=by cases m.neg<;>decide
 have h3:([10]:CF).length=1:=rfl;omega
theorem abC (a:Actn):(et a).length<=1000*bkL a.enc:=by
 have h:=abz a;unfold et;simp only[Actn.enc,bkL,AV.bk,Ar];have h1:zh.length=4:=rfl;have h3:([10]:CF).length=1:=rfl;omega
theorem Xx (t:Trm):(dH t).length<=1000*bkL t.enc:=by
 have h1:=ia (f:=fG) (enc:=Mat.enc) t.mats (λx _=>YU x)
 have h2:=ia (f:=et) (enc:=Actn.enc) t.acts (λx _=>abC x)
 have h3:=l6 t.verdict;have h4:mF.length=5:=rfl;have h5:([10]:CF).length=1:=rfl;unfold dH;simp only[Trm.enc,bkL,AV.bk,Ar];omega
theorem IG (p:Pol):(bR p).length<=1000*bkL p.enc:=by
 have h1:=ia (f:=dH) (enc:=Trm.enc) p.terms (λx _=>Xx x)
 have h3:=l6 p.dflt;have h4:sa.length=7:=rfl;have h6:ob.length=8:=rfl;have h5:([10]:CF).length=1:=rfl;unfold bR;simp only[Pol.enc,bkL,AV.bk,Ar];omega
theorem acN (x:PList):(plT x).length<=1000*bkL x.enc:=by
 have h1:=ia (f:=plL) (enc:=RuleP.enc) x.rules (λr _=>by
  have:=QJ r;have h5:([10]:CF).length=1:=rfl;unfold plL;simp only[RuleP.enc,bkL,AV.bk,Ar];omega)
 have h4:vz.length=12:=rfl;have h5:([10]:CF).length=1:=rfl;unfold plT;simp only[PList.enc,bkL,AV.bk,Ar];omega
theorem acU (x:PathL):(paT x).length<=1000*bkL x.enc:=by
 have h1:=ia (f:=paL) (enc:=PathR.enc) x.rules (λr _=>by
  have:=vX r.permit;have h5:([10]:CF).length=1:=rfl;unfold paL;simp only[PathR.enc,bkL,AV.bk,Ar];omega)
 have h4:vC.length=10:=rfl;have h5:([10]:CF).length=1:=rfl;unfold paT;simp only[PathL.enc,bkL,AV.bk,Ar];omega
theorem adK (x:ComL):(coT x).length<=1000*bkL x.enc:=by
 have h1:=ia (f:=coL) (enc:=ComR.enc) x.rules (λr _=>by
  have:=vX r.permit;have:=JD r.high;have:=JD r.low;have h5:([10]:CF).length=1:=rfl;have h6:([58]:CF).length=1:=rfl;unfold coL;simp only[ComR.enc,bkL,AV.bk,Ar];omega)
 have h4:vH.length=15:=rfl;have h5:([10]:CF).length=1:=rfl;unfold coT;simp only[ComL.enc,bkL,AV.bk,Ar];omega
theorem Gw:(lu s).length<=1000*bkL s.enc:=by
 have h1:=ia (f:=plT) (enc:=PList.enc) s.prefixes (λx _=>acN x)
 have h2:=ia (f:=paT) (enc:=PathL.enc) s.paths (λx _=>acU x)
 have h3:=ia (f:=coT) (enc:=ComL.enc) s.comms (λx _=>adK x)
 have h4:=ia (f:=bR) (enc:=Pol.enc) s.pols (λx _=>IG x)
 unfold lu;simp only[PSet.enc,bkL,AV.bk,Ar];omega
theorem vl {α:Type}{f:α->Int}: ∀{l:List α},bg f l=0-> ∀x∈l,f x=0
 |x::r,h,y,hy=>by
  rw[bg] at h
  by_cases e:f x=0
  ·rw[Ad e] at h
   rcases AL.1 hy with rfl|hy
   ·exact e
   ·exact vl h y hy
  ·rw[Ac e] at h;exact absurd h e
theorem ri {α β:Type}{rule:β->Int}{name:α->CF}{rules:α->List β}: ∀{l:List α}{b:CF}{fst:Bool},iw rule name rules l b fst=0-> ∀x∈l,∀r∈rules x,rule r=0
 |x::t,b,fst,h,y,hy=>by
  rw[iw] at h
  by_cases e:fX (name x) b fst (rules x).length=0
  ·rw[Ad e] at h
   by_cases e2:bg rule (rules x)=0
   ·rw[Ad e2] at h
    rcases AL.1 hy with rfl|hy
    ·exact vl e2
    ·exact ri h y hy
   ·rw[Ac e2] at h;exact absurd h e2
  ·rw[Ac e] at h;exact absurd h e
theorem vx {s:PSet}(h:iA s=0):(∀x∈s.prefixes,∀r∈x.rules,ruE r=0)/\(∀x∈s.comms,∀r∈x.rules,bW r=0):=by
 unfold iA at h
 by_cases e1:kh s.prefixes=0
 ·rw[Ad e1] at h
  by_cases e2:lK s.paths=0
  ·rw[Ad e2] at h
   by_cases e3:kg s.comms=0
   ·unfold kh at e1
    unfold kg at e3;constructor
    ·split at e1
     ·cases e1
     ·exact ri e1
    ·split at e3
     ·cases e3
     ·exact ri e3
   ·rw[Ac e3] at h;exact absurd h e3
  ·rw[Ac e2] at h;exact absurd h e2
 ·rw[Ac e1] at h;exact absurd h e1
theorem DQ {r:ComR}(h:bW r=0): -1<=r.high/\ -1<=r.low:=by
 unfold bW at h
 repeat' split at h
 all_goals first|omega|cases h
theorem Zc (v:Int)(h:0<=v)(h1:v<=4294967295):ah v≠ []:=by
 obtain ⟨n,rfl⟩: ∃n:Nat,v=n:=⟨v.toNat,by omega⟩
 rw[RE];obtain ⟨_,⟨b,r,e,_⟩,_⟩:=pH 19 n (by omega)
 rw[e];simp
theorem Mj (g:s.good)(i:Nat)(x:Pol)(hx:s.pols[i]? =some x):ab G 521 [.int .i64 (i:Int),.ref 0 0 0] [.cells s.enc] ⟨.int .i64 x.terms.length,[(true,.cells s.enc)]⟩:=by
 have m1:=ml s.pols Pol.enc;have m2:=ml x.terms Trm.enc;have hx1:(s.pols.map Pol.enc)[((i:Nat):Int).toNat]? =some x.enc:=by simp[hx]
 have hi:i<s.pols.length:=(AC.1 hx).1;have gl:=g.d;refine gvB (F:=aaK) ?_;refine fX1 ?_;rw[m2];rfl
theorem NX (k:Kn)(hf:k.fit)(s:PSet)(g:s.good)(i:Nat)(x:Pol)(hx:s.pols[i]? =some x):ab G 522 [.int .i64 (i:Int),.ref 0 0 0,.ref 1 0 0] [.cells k.enc,.cells s.enc] ⟨.int .i64 (plE k x),[(true,.cells k.enc),(true,.cells s.enc)]⟩:=by
 have m1:=ml s.pols Pol.enc;have hx1:(s.pols.map Pol.enc)[((i:Nat):Int).toNat]? =some x.enc:=by simp[hx]
 have hi:i<s.pols.length:=(AC.1 hx).1;have gl:=g.d;obtain ⟨q1,q2,q3⟩:=g.pol x (A5 hx);have h1:=Nh k hf x q2 q3;generalize plE k x=E at*;refine gvB (F:=aaJ) ?_
 (conv=>whnf);first|refine rm [(0,_,_),(1,_,_)] [] [true,true] ?_|refine rn [(0,_,_),(1,_,_)] [] [true,true] ?_
 rfl
theorem yK (k:Kn)(hf:k.fit)(s:PSet)(g:s.good): ∀(rest done:C9)(T:TV)(H:aq)(c:Nat)(n:Int)(e:s.pols=done++rest)(hn:n=done.length),
  Ev G ⟨pC,⟨(16,.int .i64 n)::(2,.fn 522 [.ref 0 0 0,.ref 1 0 0])::(1,.fn 521 [.ref 1 0 0])::(0,.sl 1 ((s.pols.map Pol.name).map am))::(14,.sl 1 ((s.pols.map Pol.name).map am))::(15,.int .i64 s.pols.length)::T,(0,some (0,.cells k.enc))::(1,some (0,.cells s.enc))::H,c⟩,[.t 6],2⟩ ⟨.int .i64 (eaE Pol.name (λx:Pol=>x.terms.length) (plE k) done rest),[(true,.cells k.enc),(true,.cells s.enc)]⟩
 | [],done,T,H,c,n,e,hn=>by
  have hd:=md0 e;refine evA ?_
  (conv=>whnf);first|refine rm [(0,_,_),(1,_,_)] [] [true,true] ?_|refine rn [(0,_,_),(1,_,_)] [] [true,true] ?_
  rfl
 |x::r,done,T,H,c,n,e,hn=>by
  have hd:=md e;have gl:=g.d;have m1:((s.pols.map Pol.name).map am).length=s.pols.length:=by simp
  have hx:((s.pols.map Pol.name).map am)[n.toNat]? =some [.str x.name]:=by simp[e,hn,am]
  obtain ⟨q1,q2,q3⟩:=g.pol x (by simp[e])
  have h2:ab G 577 [.sl 1 (List.take (n.toNat-0) (List.drop 0 ((s.pols.map Pol.name).map am))),.str x.name] [] ⟨.int .i64 (cq (done.map Pol.name) x.name),[]⟩:=by
   have h:=dj (done.map Pol.name) x.name q1 (by simp;omega)
   have q:List.take (n.toNat-0) (List.drop 0 ((s.pols.map Pol.name).map am))=(done.map Pol.name).map am:=by
    rw[e,hn];simp
   rw[q];exact h
  have h3:=Mj s g done.length x (by simp[e])
  have h4:=NX k hf s g done.length x (by simp[e])
  rw[<-hn] at h3 h4;have ih:=λT H c=>yK k hf s g r (done++[x]) T H c (n+1) (by simp[e]) (by simp[hn])
  rw[eaE];generalize cq (done.map Pol.name) x.name=A at*
  by_cases a:A=0
  ·subst a
   rw[Ad rfl]
   by_cases b:64<x.terms.length
   ·rw[Ad b]
    refine evl ?_
    repeat' (first|refine aQ ?_|refine kX1 1 rfl (h3) ?_|apply ae<;>intro h)
    (conv=>whnf);first|refine rm [(0,_,_),(1,_,_)] [] [true,true] ?_|refine rn [(0,_,_),(1,_,_)] [] [true,true] ?_
    rfl
   ·rw[Ac b]
    generalize plE k x=E at*
    by_cases h0:E=0
    ·subst h0
     rw[Ad rfl];refine evl ?_
     repeat' (first|refine aQ ?_|refine kX1 1 rfl (h3) ?_|refine kX [(0,_,_),(1,_,_)] [] ⟨rfl,rfl,trivial⟩ trivial (h4) ?_|apply ae<;>intro h)
     refine ag [16,2,1,0,14,15] [0,1] ?_;exact ih _ _ _
    ·rw[Ac h0]
     refine evl ?_
     repeat' (first|refine aQ ?_|refine kX1 1 rfl (h3) ?_|refine kX [(0,_,_),(1,_,_)] [] ⟨rfl,rfl,trivial⟩ trivial (h4) ?_|apply ae<;>intro h)
     (conv=>whnf);first|refine rm [(0,_,_),(1,_,_)] [] [true,true] ?_|refine rn [(0,_,_),(1,_,_)] [] [true,true] ?_
     rfl
  ·rw[Ac a]
   refine evA ?_
   (conv=>whnf);first|refine rm [(0,_,_),(1,_,_)] [] [true,true] ?_|refine rn [(0,_,_),(1,_,_)] [] [true,true] ?_
   rfl
theorem NS (k:Kn)(hf:k.fit)(s:PSet)(g:s.good):ab G 508 [.sl 1 ((s.pols.map Pol.name).map am),.fn 521 [.ref 1 0 0],.fn 522 [.ref 0 0 0,.ref 1 0 0]] [.cells k.enc,.cells s.enc] ⟨.int .i64 (if 64<s.pols.length then 4 else eaE Pol.name (λx:Pol=>x.terms.length) (plE k) [] s.pols),[(true,.cells k.enc),(true,.cells s.enc)]⟩:=by
 have gl:=g.d;have m1:((s.pols.map Pol.name).map am).length=s.pols.length:=by simp
 by_cases c:64<s.pols.length
 ·rw[Ad c]
  refine gvB (F:=oC) ?_
  (conv=>whnf);first|refine rm [(0,_,_),(1,_,_)] [] [true,true] ?_|refine rn [(0,_,_),(1,_,_)] [] [true,true] ?_
  rfl
 ·rw[Ac c]
  refine gvB (F:=oC) ?_;refine ag [16,2,1,0,14,15] [0,1] ?_;rw[m1];exact yK k hf s g s.pols [] _ _ _ 0 rfl rfl
theorem Me:bj ⟨0,0⟩=true:=by rfl
theorem Cm: ∀(l:C3)(k:CF),(oo l k=none↔fw (l.map PList.name) k=false)
 | [],k=>by simp[oo,fw]
 |x::r,k=>by
  have ih:=Cm r k
  by_cases h:x.name=k
  ·simp[oo,fw,h]
  ·simp only[oo,Ac h,ih];simp[fw,h]
theorem Cz: ∀(l:C4)(k:CF),(ot l k=none↔fw (l.map PathL.name) k=false)
 | [],k=>by simp[ot,fw]
 |x::r,k=>by
  have ih:=Cz r k
  by_cases h:x.name=k
  ·simp[ot,fw,h]
  ·simp only[ot,Ac h,ih];simp[fw,h]
theorem DV: ∀(l:C6)(k:CF),(oV l k=none↔fw (l.map ComL.name) k=false)
 | [],k=>by simp[oV,fw]
 |x::r,k=>by
  have ih:=DV r k
  by_cases h:x.name=k
  ·simp[oV,fw,h]
  ·simp only[oV,Ac h,ih];simp[fw,h]
theorem ade:mtE (dM s) m=re s m:=by
 have p1:=Cm s.prefixes m.name;have p2:=Cz s.paths m.name;have p3:=DV s.comms m.name;obtain ⟨kind,name,n,⟨pa,pl⟩,neg⟩:=m;dsimp only at p1 p2 p3;have hz:=Me;unfold mtE re dM;dsimp only
 by_cases k1:kind=1
 ·subst k1
  simp (decide:=true) only[if_true,if_false,reduceIte];unfold mtN Ry;dsimp only
  by_cases c:n=0/\pa=0/\pl=0
  ·obtain ⟨rfl,rfl,rfl⟩:=c
   simp only[p1];cases fw (s.prefixes.map PList.name) name<;>simp[hz]
  ·rw[Ac c]
   (repeat' split)<;>first|rfl|(exfalso;(try simp only[ne_eq,AF] at*);omega)
 by_cases k2:kind=2
 ·subst k2
  simp (decide:=true) only[if_true,if_false,reduceIte];unfold mtN Ru;dsimp only
  by_cases c:n=0/\pa=0/\pl=0
  ·obtain ⟨rfl,rfl,rfl⟩:=c
   simp only[p2];cases fw (s.paths.map PathL.name) name<;>simp[hz]
  ·rw[Ac c]
   (repeat' split)<;>first|rfl|(exfalso;(try simp only[ne_eq,AF] at*);omega)
 by_cases k3:kind=3
 ·subst k3
  simp (decide:=true) only[if_true,if_false,reduceIte];unfold mtN Rq;dsimp only
  by_cases c:n=0/\pa=0/\pl=0
  ·obtain ⟨rfl,rfl,rfl⟩:=c
   simp only[p3];cases fw (s.comms.map ComL.name) name<;>simp[hz]
  ·rw[Ac c]
   (repeat' split)<;>first|rfl|(exfalso;(try simp only[ne_eq,AF] at*);omega)
 by_cases k7:kind=7
 ·subst k7
  simp (decide:=true) only[if_true,if_false,reduceIte];unfold mtH Rj;dsimp only
  by_cases c:name= []
  ·by_cases d:n=0
   ·simp only[c,d]
    cases bj ⟨pa,pl⟩<;>simp
   ·simp[c,d]
  ·simp[c]
 by_cases k4:kind=4
 ·subst k4
  simp (decide:=true) only[if_true,if_false,reduceIte];unfold mtR Rn;dsimp only
  by_cases c:name= []/\pa=0/\pl=0
  ·obtain ⟨rfl,rfl,rfl⟩:=c
   simp only[hz]
   (repeat' split)<;>first|rfl|(exfalso;simp_all;done)|(exfalso;simp_all;omega)
  ·rw[Ac c]
   (repeat' split)<;>first|rfl|(exfalso;simp_all;done)|(exfalso;simp_all;omega)
 by_cases k6:kind=6
 ·subst k6
  simp (decide:=true) only[if_true,if_false,reduceIte];unfold mtR Rk;dsimp only
  by_cases c:name= []/\pa=0/\pl=0
  ·obtain ⟨rfl,rfl,rfl⟩:=c
   simp only[hz]
   (repeat' split)<;>first|rfl|(exfalso;simp_all;done)|(exfalso;simp_all;omega)
  ·rw[Ac c]
   (repeat' split)<;>first|rfl|(exfalso;simp_all;done)|(exfalso;simp_all;omega)
 by_cases k8:kind=8
 ·subst k8
  simp (decide:=true) only[if_true,if_false,reduceIte];unfold mtR Ri;dsimp only
  by_cases c:name= []/\pa=0/\pl=0
  ·obtain ⟨rfl,rfl,rfl⟩:=c
   simp only[hz]
   (repeat' split)<;>first|rfl|(exfalso;simp_all;done)|(exfalso;simp_all;omega)
  ·rw[Ac c]
   (repeat' split)<;>first|rfl|(exfalso;simp_all;done)|(exfalso;simp_all;omega)
 by_cases k5:kind=5
 ·subst k5
  simp (decide:=true) only[if_true,if_false,reduceIte];unfold mtR Rm;dsimp only
  by_cases c:name= []/\pa=0/\pl=0
  ·obtain ⟨rfl,rfl,rfl⟩:=c
   simp only[hz]
   (repeat' split)<;>first|rfl|(exfalso;simp_all;done)|(exfalso;simp_all;omega)
  ·rw[Ac c]
   (repeat' split)<;>first|rfl|(exfalso;simp_all;done)|(exfalso;simp_all;omega)
 rw[Ac k1,Ac k2,Ac k3,Ac k7,Ac k4,Ac k6,Ac k8,Ac k5]
 (repeat' split)<;>first|rfl|(exfalso;omega)
end
theorem yw {α:Type}{f g:α->Int}(h: ∀x,f x=g x): ∀l:List α,bg f l=bg g l
 | []=>rfl
 |x::r=>by rw[bg,bg,h,yw h r]
theorem aci (d:Da)(t:Trm):f9 (dM s) d t=tE1 s d t:=by
 unfold f9 tE1 Gh tE2;rw[yw (ade s)]
end
theorem BX (s:PSet): ∀(r d:Da),ic (dM s) d r=jy s d r
 | [],_=>rfl
 |t::r,d=>by rw[ic,jy,aci,BX s r]
theorem Jf (name:CF)(d:C5)(b:CF)(fst:Bool)(n:Int)(hd:if fst=true then d= [] else d.getLast?=some b):fX name b fst n=if cq d name=0 then (if 64<n then 4 else 0) else cq d name:=by
 unfold fX cq
 by_cases h:nmB name=false
 ·rw[Ad h,Ad h];rfl
 ·rw[Ac h,Ac h]
  cases fst
  ·simp only[A6,if_false] at hd
   rw[hd];dsimp only
   by_cases q:(Op.bytesLess name b||name==b)=true
   ·rw[Ad ⟨rfl,q⟩];simp only[Ad q];rfl
   ·rw[Ac (λw=>q w.2)];simp only[Ac q];rfl
  ·simp only[if_true] at hd
   subst hd;rw[Ac (by simp)];rfl
theorem jL {α β:Type}(rule:β->Int)(nm:α->CF)(rules:α->List β): ∀(r d:List α)(b:CF)(fst:Bool)(hd:if fst=true then d= [] else (d.map nm).getLast?=some b),
  eaE nm (λx=>(rules x).length) (λx=>bg rule (rules x)) d r=iw rule nm rules r b fst
 | [],_,_,_,_=>rfl
 |x::r,d,b,fst,hd=>by
  have hh:=Jf (nm x) (d.map nm) b fst ((rules x).length:Nat) (by cases fst<;>simp_all)
  have ih:=jL rule nm rules r (d++[x]) (nm x) false (by simp)
  rw[eaE,iw,hh,ih]
  by_cases a:cq (d.map nm) (nm x)=0
  ·rw[Ad a,Ad a]
   by_cases c:64<(rules x).length
   ·have c':(64:Int)<((rules x).length:Nat):=by omega
    simp[c,c']
   ·have c': ¬(64:Int)<((rules x).length:Nat):=by omega
    simp[c,c']
  ·rw[Ac a,Ac a,Ac a]
theorem su (s:PSet): ∀(r d:C9)(b:CF)(fst:Bool)(hd:if fst=true then d= [] else (d.map Pol.name).getLast?=some b),
  eaE Pol.name (λx=>x.terms.length) (plE (dM s)) d r=qU s r b fst
 | [],_,_,_,_=>rfl
 |x::r,d,b,fst,hd=>by
  have hh:=Jf x.name (d.map Pol.name) b fst (x.terms.length:Nat) (by cases fst<;>simp_all)
  have ih:=su s r (d++[x]) x.name false (by simp)
  rw[eaE,qU,hh,ih]
  by_cases a:cq (d.map Pol.name) x.name=0
  ·rw[Ad a,Ad a]
   by_cases c:64<x.terms.length
   ·have c':(64:Int)<(x.terms.length:Nat):=by omega
    simp[c,c']
   ·have c': ¬(64:Int)<(x.terms.length:Nat):=by omega
    rw[Ac c,plE,BX]
    by_cases e:jy s [] x.terms=0
    ·simp[c',e]
    ·simp[c',e]
  ·rw[Ac a,Ac a,Ac a]
abbrev lE1 (d:C3)(l:C3):Int:=eaE PList.name (λx=>x.rules.length) (λx=>bg ruE x.rules) d l
abbrev lE2 (d:C4)(l:C4):Int:=eaE PathL.name (λx=>x.rules.length) (λx=>bg paE x.rules) d l
abbrev lE3 (d:C6)(l:C6):Int:=eaE ComL.name (λx=>x.rules.length) (λx=>bg bW x.rules) d l
abbrev lE4 (k:Kn)(d:C9)(l:C9):Int:=eaE Pol.name (λx=>x.terms.length) (plE k) d l
structure LOk (pre:C3)(pa:C4)(co:C6):Prop where
 a:pre.length<=64/\lE1 [] pre=0
 b:pa.length<=64/\lE2 [] pa=0
 c:co.length<=64/\lE3 [] co=0
abbrev kn3 (pre:C3)(pa:C4)(co:C6):Kn:=⟨pre.map PList.name,pa.map PathL.name,co.map ComL.name,[]⟩
theorem acj (a b c d d':C5)(l:Da)(t:Trm):f9 ⟨a,b,c,d⟩ l t=f9 ⟨a,b,c,d'⟩ l t:=rfl
theorem aek (a b c d d':C5)(p:Pol):plE ⟨a,b,c,d⟩ p=plE ⟨a,b,c,d'⟩ p:=by
 have: ∀(r l:Da),ic ⟨a,b,c,d⟩ l r=ic ⟨a,b,c,d'⟩ l r:=by
  intro r
  induction r with
  |nil=>intro l;rfl
  |cons x r ih=>intro l;rw[ic,ic,ih,acj a b c d d']
 unfold plE;rw[this]
theorem cg {c:UInt8}{a b:CF}(h:c∉a)(k:c∉b):c∉a++b:=by rw[B5];exact λq=>q.elim h k
theorem eU {c d:UInt8}{a:CF}(h:c≠d)(k:c∉a):c∉d::a:=by rw[AL];exact λq=>q.elim h k
theorem iv {c:UInt8}{P:UInt8->Bool}(hc:P c=false){a:CF}(h:a.all P=true):c∉a:=λq=>by
 have:=List.all_eq_true.1 h c q;rw[hc] at this;cases this
section
variable {v:Int}
theorem dZ (h0:0<=v)(h1:v<=9223372036854775807):(ah v).all J.dig=true:=by
 obtain ⟨n,rfl⟩: ∃n:Nat,v=n:=⟨v.toNat,by omega⟩
 rw[RE];exact (pH 19 n (by omega)).1
theorem lf (h0:0<=v)(h1:v<=4294967295):n32 (ah v)=some v:=by
 obtain ⟨n,rfl⟩: ∃n:Nat,v=n:=⟨v.toNat,by omega⟩
 unfold n32;rw[tk (by omega) h1];rfl
theorem Aa {t:CF}(h:t≠ [])(h1:(10:UInt8)∉t)(h2:(32:UInt8)∉t):bv t=true:=by
 unfold bv;rw[Al h,Al h1,Al h2];rfl
theorem Yu {t:CF}(h:t≠ [])(h1:t.all J.dig=true):bv t=true:=Aa h (iv rfl h1) (iv rfl h1)
theorem jW {t:CF}(h:nmB t=true):bv t=true/\(10:UInt8)∉t/\(32:UInt8)∉t/\t≠ []:=by
 unfold nmB at h;simp only[Av,AO] at h;have a:=iv (c:=10) (P:=nmC) rfl h.1;have b:=iv (c:=32) (P:=nmC) rfl h.1;have c:t≠ []:=by rintro rfl;simp at h
 exact ⟨Aa c a b,a,b,c⟩
theorem dl {w:CF}(h:(32:UInt8)∉w)(t:CF):ax (w++32::t)=(w,t):=by
 rw[wT (λc hc=>λq=>h (q▸hc))]
 simp[ax]
theorem Pm {w:CF}(h:(58:UInt8)∉w)(t:CF):mz (w++58::t)=some (w,t):=by
 rw[oU (λc hc=>λq=>h (q▸hc))]
 simp[mz]
theorem JC (h0: -1<=v)(h1:v<=65535){c:UInt8}(hc:J.dig c=false)(h2:c≠42):c∉d9 v:=by
 unfold d9;split
 ·simpa using h2
 ·exact iv hc (dZ (by omega) (by omega))
theorem Cw (h0: -1<=v)(h1:v<=65535):ko (d9 v)=some v:=by
 unfold d9 ko
 by_cases h:v<0
 ·rw[Ad h,Ad rfl];congr 1;omega
 ·rw[Ac h,Ac,lf (by omega) (by omega)]
  intro q;have:=dZ (v:=v) (by omega) (by omega)
  rw[q] at this;cases this
theorem WD {r:ComR}(h:bW r=0): -1<=r.high/\r.high<=65535/\ -1<=r.low/\r.low<=65535:=by
 unfold bW at h
 repeat' split at h
 all_goals first
  |(cases h;done)
  |exact ⟨by omega,by omega,by omega,by omega⟩
theorem abh (r:ComR)(h:bW r=0)(n:Nat)(hn:n<64):jc r.permit (d9 r.high++58::d9 r.low) n=(0,r):=by
 obtain ⟨h1,h2,h3,h4⟩:=WD h;unfold jc;rw[Pm (JC h1 h2 rfl (by decide))]
 simp only[Cw h1 h2,Cw h3 h4,Ad hn];rw[h]
theorem Pq (h0:0<=v)(h1:v<=4294967295):cmP (iO v.toNat)=some v:=by
 obtain ⟨n,rfl⟩: ∃n:Nat,v=n:=⟨v.toNat,by omega⟩
 rw[Int.toNat_natCast];unfold iO
 by_cases c0:(n:Int)=4294901760
 ·rw[Ad c0,c0];rfl
 by_cases c1:(n:Int)=4294967041
 ·rw[Ac c0,Ad c1,c1];rfl
 by_cases c2:(n:Int)=4294967042
 ·rw[Ac c0,Ac c1,Ad c2,c2];rfl
 by_cases c3:(n:Int)=4294967043
 ·rw[Ac c0,Ac c1,Ac c2,Ad c3,c3];rfl
 have e:iO n=ah ((n/ 65536:Nat):Int)++58::ah ((n % 65536:Nat):Int):=by
  unfold iO;rw[Ac c0,Ac c1,Ac c2,Ac c3]
 rw[Ac c0,Ac c1,Ac c2,Ac c3];have d1:(ah ((n/ 65536:Nat):Int)).all J.dig=true:=dZ (by omega) (by omega)
 have d2:(ah ((n % 65536:Nat):Int)).all J.dig=true:=dZ (by omega) (by omega)
 have hN:cmN (ah ((n/ 65536:Nat):Int)++58::ah ((n % 65536:Nat):Int))=none:=by
  have hm:(58:UInt8)∈ah ((n/ 65536:Nat):Int)++58::ah ((n % 65536:Nat):Int):=by simp
  unfold cmN;rw[Ac,Ac,Ac,Ac]
  all_goals (intro q;rw[q] at hm;revert hm;decide)
 unfold cmP;rw[hN];dsimp only;rw[Pm (iv rfl d1)];dsimp only;unfold cmV;have f1:=tk (n:=n/ 65536) (most:=65535) (by omega) (by omega)
 have f2:=tk (n:=n % 65536) (most:=65535) (by omega) (by omega)
 rw[f1,f2];have hn:n/ 65536*65536+n % 65536=n:=by omega
 simp only[Int.toNat_natCast,hn,true_and];exact Ad e
end
theorem adf: ∀{l:C5}{x:CF},fw l x=true->x∈l:=by
 intro l x h;unfold fw at h;simpa using h
theorem aa9 {x:Int}(h:okU x):(dots x.toNat).all J.low=true:=J.low_dots (by have:=h.1;have:=h.2;omega)
theorem OH {p:Pfx}(h:p.ok)(hv:bj p=true):(pfT p).all J.low=true/\pfT p≠ []/\J.psP (pfT p)=(p,0):=by
 obtain ⟨z0,z1⟩:=validP_len hv;have e:pfT p=J.ptext p.addr.toNat p.len.toNat:=by unfold pfT;rw[Ad hv];rfl
 rw[e];refine ⟨J.low_ptext (by have:=h.addr.1;have:=h.addr.2;omega) (by omega),J.ptext_ne _ _,J.pvalid p h hv⟩
def Kn.nms (k:Kn):Prop:=(∀x∈k.a,nmB x=true)/\(∀x∈k.b,nmB x=true)/\ ∀x∈k.c,nmB x=true
theorem Vg (v:Int)(h:0<=v)(h1:v<=4294967295):bv (ah v)=true:=Yu (Zc v h h1) (dZ h (by omega))
theorem YN {lo hi:Int}{m:Mat}(h:mtR lo hi m=0):m.name= []/\m.pfx=⟨0,0⟩/\lo<=m.n/\m.n<=hi:=by
 obtain ⟨kind,name,n,⟨pa,pl⟩,neg⟩:=m;unfold mtR at h;split at h
 ·rename_i c
  split at h
  ·rename_i d
   obtain ⟨rfl,rfl,rfl⟩:=c;exact ⟨rfl,rfl,d.1,d.2⟩
  ·cases h
 ·cases h
theorem wb {l:C5}{m:Mat}(h:mtN l m=0):m.n=0/\m.pfx=⟨0,0⟩/\m.name∈l:=by
 obtain ⟨kind,name,n,⟨pa,pl⟩,neg⟩:=m;unfold mtN at h;split at h
 ·rename_i c
  obtain ⟨rfl,rfl,rfl⟩:=c;split at h
  ·rename_i d;exact ⟨rfl,rfl,adf d⟩
  ·cases h
 ·cases h
theorem YO {m:Mat}(h:mtH m=0):m.name= []/\m.n=0/\bj m.pfx=true:=by
 unfold mtH at h;split at h
 ·rename_i c
  split at h
  ·rename_i d;exact ⟨c.1,c.2,d⟩
  ·cases h
 ·cases h
section
variable (k:Kn)(hk:k.nms)(m:Mat)(hp:m.pfx.ok)(h:mtE k m=0)
include hk hp h
theorem YP: ∃w t,(32:UInt8)∉w/\(10:UInt8)∉w/\w≠cn/\i7 m=w++32::t/\bv t=true/\(10:UInt8)∉t/\Jm w t m.neg=some m:=by
 obtain ⟨k1,k2,k3⟩:=hk;obtain ⟨kind,name,n,pfx,neg⟩:=m;unfold mtE at h;dsimp only at h hp;split at h
 ·rename_i c;subst c
  obtain ⟨rfl,rfl,d3⟩:=wb h;obtain ⟨o1,o2,o3,o4⟩:=jW (k1 _ d3);exact ⟨cR,name,by decide,by decide,by decide,rfl,o1,o2,rfl⟩
 split at h
 ·rename_i c;subst c
  obtain ⟨rfl,rfl,d3⟩:=wb h;obtain ⟨o1,o2,o3,o4⟩:=jW (k2 _ d3);exact ⟨cQ,name,by decide,by decide,by decide,rfl,o1,o2,rfl⟩
 split at h
 ·rename_i c;subst c
  obtain ⟨rfl,rfl,d3⟩:=wb h;obtain ⟨o1,o2,o3,o4⟩:=jW (k3 _ d3);exact ⟨cP,name,by decide,by decide,by decide,rfl,o1,o2,rfl⟩
 split at h
 ·rename_i c;subst c
  obtain ⟨rfl,rfl,d3⟩:=YO h;obtain ⟨e1,e2,e3⟩:=OH hp d3;obtain ⟨n1,n2⟩:=J.low_not e1;refine ⟨iZ,pfT pfx,by decide,by decide,by decide,rfl,Aa e2 n2 n1,n2,?_⟩
  show (if (J.psP (pfT pfx)).2=0 then some _ else none)=_
  rw[e3,Ad rfl]
 have num: ∀(w:CF)(lo hi:Int),0<=lo->hi<=4294967295->mtR lo hi ⟨kind,name,n,pfx,neg⟩=0->name= []/\pfx=⟨0,0⟩/\bv (ah n)=true/\(10:UInt8)∉ah n/\n32 (ah n)=some n:=by
  intro w lo hi h0 h1 h;obtain ⟨d1,d2,d3,d4⟩:=YN h;dsimp only at d1 d2 d3 d4;exact ⟨d1,d2,Vg n (by omega) (by omega),iv rfl (dZ (by omega) (by omega)),lf (by omega) (by omega)⟩
 split at h
 ·rename_i c;subst c
  obtain ⟨rfl,rfl,d3,d4,d5⟩:=num iq 1 7 (by decide) (by decide) h
  refine ⟨iq,ah n,by decide,by decide,by decide,rfl,d3,d4,?_⟩
  show ii 4 neg (n32 (ah n))=_
  rw[d5];rfl
 split at h
 ·rename_i c;subst c
  obtain ⟨rfl,rfl,d3,d4,d5⟩:=num gv 0 16777216 (by decide) (by decide) h
  refine ⟨gv,ah n,by decide,by decide,by decide,rfl,d3,d4,?_⟩
  show ii 6 neg (n32 (ah n))=_
  rw[d5];rfl
 split at h
 ·rename_i c;subst c
  obtain ⟨rfl,rfl,d3,d4,d5⟩:=num ir 0 2000 (by decide) (by decide) h
  refine ⟨ir,ah n,by decide,by decide,by decide,rfl,d3,d4,?_⟩
  show ii 8 neg (n32 (ah n))=_
  rw[d5];rfl
 split at h
 ·rename_i c;subst c
  obtain ⟨rfl,rfl,d3,d4,d5⟩:=num lz 0 4294967295 (by decide) (by decide) h
  refine ⟨lz,ah n,by decide,by decide,by decide,rfl,d3,d4,?_⟩
  show ii 5 neg (n32 (ah n))=_
  rw[d5];rfl
 ·cases h
theorem YT:j4 ((bif m.neg then ju else [])++i7 m)=some m/\(10:UInt8)∉ (bif m.neg then ju else [])++i7 m:=by
 obtain ⟨w,t,h1,h2,h3,h4,h5,h6,h7⟩:=YP k hk m hp h;rw[h4];have hb:(10:UInt8)∉w++32::t:=cg h2 (eU (by decide) h6)
 cases hn:m.neg
 ·refine ⟨?_,by simpa using hb⟩
  show j4 (w++32::t)=_
  unfold j4;rw[dl h1,Ac h3];unfold sI;rw[Ad h5,<-hn];exact h7
 ·refine ⟨?_,cg (by decide) hb⟩
  show j4 (cn++32::(w++32::t))=_
  unfold j4;rw[dl (by decide),Ad rfl]
  show sI (ax (w++32::t)) true=_
  rw[dl h1];unfold sI;rw[Ad h5,<-hn];exact h7
end
theorem abA (a:Actn)(ok:a.ok)(h:gQ a=0):gr (jm a)=some a/\(10:UInt8)∉jm a:=by
 obtain ⟨o1,o2,o3,o4,o5⟩:=ok;obtain ⟨kind,n,asn,com,addr⟩:=a
 have nA:rA ⟨kind,n,asn,com,addr⟩=0->asn=0/\com=0/\addr=0/\0<=n/\n<=4294967295:=by
  intro h;unfold rA at h;dsimp only at h
  repeat' split at h
  all_goals first
   |(cases h;done)
   |exact ⟨by omega,by omega,by omega,by omega,by omega⟩
 have nB:LZ ⟨kind,n,asn,com,addr⟩=0->asn=0/\com=0/\addr=0/\0<=n/\n<=4294967295:=by
  intro h;unfold LZ at h;dsimp only at h
  repeat' split at h
  all_goals first
   |(cases h;done)
   |exact ⟨by omega,by omega,by omega,by omega,by omega⟩
 have nD:xc ⟨kind,n,asn,com,addr⟩=0->n=0/\asn=0/\addr=0:=by
  intro h;unfold xc at h;dsimp only at h
  repeat' split at h
  all_goals first
   |(cases h;done)
   |exact ⟨by omega,by omega,by omega⟩
 have d (h0:0<=n) (h1:n<=4294967295):(10:UInt8)∉ah n:=iv rfl (dZ h0 (by omega))
 have cnb:(10:UInt8)∉iO com.toNat:=by
  unfold iO
  (repeat' split)<;>first|decide|(exact cg (iv rfl (dZ (by omega) (by have:=o4.2;dsimp only at this;omega))) (eU (by decide) (iv rfl (dZ (by omega) (by omega)))))
 unfold gQ at h;dsimp only at h;split at h
 ·rename_i c;subst c
  obtain ⟨rfl,rfl,rfl,h0,h1⟩:=nA h;refine ⟨?_,cg (a:=FH) (by decide) (d h0 h1)⟩
  show gr (qR++32::ah n)=_
  unfold gr;rw[dl (by decide)]
  show nt 1 (n32 (ah n))=_
  rw[lf h0 h1];rfl
 split at h
 ·rename_i c;subst c
  obtain ⟨rfl,rfl,rfl,h0,h1⟩:=nA h;refine ⟨?_,cg (a:=P9) (by decide) (d h0 h1)⟩
  show gr (vQ++32::ah n)=_
  unfold gr;rw[dl (by decide)]
  show nt 2 (n32 (ah n))=_
  rw[lf h0 h1];rfl
 split at h
 ·rename_i c;subst c
  obtain ⟨rfl,rfl,rfl,h0,h1⟩:=nA h;refine ⟨?_,cg (a:=vy) (by decide) (d h0 h1)⟩
  show gr (vO++32::ah n)=_
  unfold gr;rw[dl (by decide)]
  show nt 4 (n32 (ah n))=_
  rw[lf h0 h1];rfl
 split at h
 ·rename_i c;subst c
  obtain ⟨rfl,rfl,rfl,h0,h1⟩:=nB h;refine ⟨?_,cg (a:=vE) (by decide) (d h0 h1)⟩
  show gr (mb++32::ah n)=_
  unfold gr;rw[dl (by decide)]
  show nt 3 (n32 (ah n))=_
  rw[lf h0 h1];rfl
 split at h
 ·rename_i c;subst c
  have hz:n=0/\asn=0/\com=0:=by
   unfold Tz at h;dsimp only at h
   repeat' split at h
   all_goals first
    |(cases h;done)
    |exact ⟨by omega,by omega,by omega⟩
  obtain ⟨rfl,rfl,rfl⟩:=hz;have l:=aa9 o5;dsimp only at l o5;obtain ⟨n1,n2⟩:=J.low_not l;refine ⟨?_,cg (a:=vG) (by decide) n2⟩
  show gr (qT++32::dots addr.toNat)=_
  unfold gr;rw[dl (by decide)]
  have e:J.paP (dots addr.toNat)=((addr.toNat:Int),0):=J.paP_hit (by have:=o5.1;have:=o5.2;omega)
  show (if (J.paP (dots addr.toNat)).2=0 then some (⟨5,0,0,0,(J.paP (dots addr.toNat)).1⟩:Actn) else none)=_
  rw[e,Ad rfl,Cb o5.1]
 split at h
 ·rename_i c;subst c
  obtain ⟨rfl,rfl,rfl⟩:=nD h;refine ⟨?_,cg (a:=Qc) (by decide) cnb⟩
  show gr (vT++32::iO com.toNat)=_
  unfold gr;rw[dl (by decide)]
  show uI 6 (cmP (iO com.toNat))=_
  rw[Pq o4.1 o4.2];rfl
 split at h
 ·rename_i c;subst c
  obtain ⟨rfl,rfl,rfl⟩:=nD h;refine ⟨?_,cg (a:=Qb) (by decide) cnb⟩
  show gr (vR++32::iO com.toNat)=_
  unfold gr;rw[dl (by decide)]
  show uI 7 (cmP (iO com.toNat))=_
  rw[Pq o4.1 o4.2];rfl
 split at h
 ·rename_i c;subst c
  have hz:com=0/\addr=0/\0<=n/\n<=16/\1<=asn/\asn<=4294967295:=by
   unfold Tw at h;dsimp only at h
   repeat' split at h
   all_goals first
    |(cases h;done)
    |exact ⟨by omega,by omega,by omega,by omega,by omega,by omega⟩
  obtain ⟨rfl,rfl,h0,h1,h2,h3⟩:=hz;refine ⟨?_,cg (a:=P8) (by decide) (cg (iv rfl (dZ (v:=asn) (by omega) (by omega))) (eU (by decide) (d h0 (by omega))))⟩
  show gr (vP++32::(ah asn++32::ah n))=_
  unfold gr;rw[dl (by decide)]
  show abB (n32 (ax (ah asn++32::ah n)).1) (n32 (ax (ah asn++32::ah n)).2)=_
  rw[dl (iv rfl (dZ (v:=asn) (by omega) (by omega)))]
  dsimp only;rw[lf (by omega) h3,lf h0 (by omega)];rfl
 ·cases h
theorem Am {c:UInt8}(hc:(10:UInt8)≠c): ∀l:C5,(∀p∈l,(10:UInt8)∉p)->(10:UInt8)∉cz c l
 | [],_=>by rw[cz];simp
 | [x],h=>by rw[cz];exact h x (by simp)
 |x::y::r,h=>by
  rw[cz]
  ·exact cg (h x (by simp)) (eU hc (Am hc (y::r) λp hp=>h p (by simp[hp])))
  ·simp
theorem Aq: ∀{l:C5},(∀p∈l,(10:UInt8)∉p)->(10:UInt8)∉l.headD []
 | [],_=>by simp
 |x::r,h=>h x (by simp)
mutual
theorem U6: ∀(x:Rx)(lv c:Nat),(chk x lv c).isSome=true->(10:UInt8)∉pat ah x
 | .mk k lo hi kids,lv,c,h=>by
  rw[chk] at h;split at h
  ·cases h
  split at h
  ·cases h
  split at h
  ·rename_i hn
   have hp:=OU kids k (lv+1) (c+1) h;rw[pat,dy];generalize br ah k kids=ps at hp;split
   ·decide
   split
   ·rename_i k1
    unfold bm at hn;rw[Ad k1,AO] at hn;obtain ⟨n0,n1,n2,_⟩:=hn;split
    ·exact iv rfl (dZ n0 (by omega))
    ·exact eU (by decide) (cg (iv rfl (dZ n0 (by omega))) (eU (by decide) (cg (iv rfl (dZ (by omega) (by omega))) (by decide))))
   split
   ·decide
   split
   ·exact Am (by decide) _ hp
   split
   ·split
    ·decide
    ·exact Am (by decide) _ hp
   split
   ·exact cg (Aq hp) (by decide)
   split
   ·exact cg (Aq hp) (by decide)
   ·exact cg (Aq hp) (by decide)
  ·cases h
theorem OU: ∀(l:Do)(k:Int)(lv c:Nat),(ij l lv c).isSome=true-> ∀p∈br ah k l,(10:UInt8)∉p
 | [],k,lv,c,h=>by intro p hp;rw[br] at hp;cases hp
 |x::r,k,lv,c,h=>by
  rw[ij] at h;rcases hx:chk x lv c with _|c'
  ·rw[hx] at h;cases h
  ·rw[hx] at h
   intro p hp;rw[br] at hp;rcases AL.1 hp with rfl|hp
   ·have:=U6 x lv c (by rw[hx];rfl)
    unfold dq;split
    ·exact eU (by decide) (cg this (by decide))
    ·exact this
   ·exact OU r k lv c' h p hp
end
theorem agB {s:CF}(h:(fx s).isSome=true):(10:UInt8)∉s:=by
 unfold fx at h;split at h
 ·split at h
  ·rename_i hc
   rw[<-hc.2.2];exact U6 _ 1 0 hc.2.1
  ·cases h
 ·cases h
theorem GM (st:PS): ∀(l:CF)(n:Int)(acc r:CF),(10:UInt8)∉l->dh st n acc (l++r)=dh st n (acc++l) r
 | [],n,acc,r,_=>by rw[By,BD]
 |c::l,n,acc,r,h=>by
  have hc:c≠10:=λq=>h (by simp[q])
  rw[B4,dh,Ac hc,GM st l n (acc++[c]) r (λq=>h (by simp[q])),AI];rfl
theorem jo {st st':PS}{l:CF}(hb:(10:UInt8)∉l)(hs:bT st l= .ok st')(n:Int)(r:CF):dh st n [] (l++10::r)=dh st' (n+1) [] r:=by
 rw[GM st l n [] (10::r) hb,By,dh,Ad rfl,hs]
theorem aej (x:PList)(a b:CF):plT x++a++b=(cR++32::x.name)++10::(aA plL x.rules++(a++b)):=by
 unfold plT;show cR++[32]++x.name++[10]++aA plL x.rules++a++b=_
 simp
theorem aeo (x:PathL)(a b:CF):paT x++a++b=(cQ++32::x.name)++10::(aA paL x.rules++(a++b)):=by
 unfold paT;show cQ++[32]++x.name++[10]++aA paL x.rules++a++b=_
 simp
theorem afX (x:ComL)(a b:CF):coT x++a++b=(cP++32::x.name)++10::(aA coL x.rules++(a++b)):=by
 unfold coT;show cP++[32]++x.name++[10]++aA coL x.rules++a++b=_
 simp
theorem adg (x:Mat)(a b:CF):fG x++a++b=(dX++32::((bif x.neg then ju else [])++i7 x))++10::(a++b):=by
 unfold fG;generalize i7 x=m;generalize (bif x.neg then ju else [])=c
 show dX++[32]++c++m++[10]++a++b=_
 simp
theorem adT (x:Actn)(a b:CF):et x++a++b=(iW++32::jm x)++10::(a++b):=by
 unfold et;generalize jm x=m;show iW++[32]++m++[10]++a++b=_
 simp
theorem ach (t:Trm)(r:CF):dH t++r=(ff++32::t.name)++10::(aA fG t.mats++(aA et t.acts++(dp t.verdict++10::r))):=by
 unfold dH;generalize aA fG t.mats=a;generalize aA et t.acts=b;generalize dp t.verdict=c;show ff++[32]++t.name++[10]++(a++(b++(c++[10])))++r=_
 simp
theorem acM (x:Pol)(a b:CF):bR x++a++b=(gH++32::x.name)++10::(aA dH x.terms++((ob++dp x.dflt)++10::(a++b))):=by
 unfold bR;generalize aA dH x.terms=c;generalize ob++dp x.dflt=d;show gH++[32]++x.name++[10]++(c++(d++[10]))++a++b=_
 simp
structure Rdy (st:PS)(pre:C3)(pa:C4)(co:C6)(po:C9)(so:Int):Prop where
 set:st.set=⟨pre,pa,co,po⟩
 pol:st.inPol=false
 stp: ∀w t,bH w≠0->(32:UInt8)∉w->bT st (w++32::t)=lr pre pa co po so w t
section
variable (pre:C3)(pa:C4)(co:C6)(po:C9)(nm:CF)
theorem OC (so:Int):Rdy (.top pre pa co po so) pre pa co po so:=
 ⟨rfl,rfl,λw t h1 h2=>by rw[bT,dl h2,Ac h1]⟩
theorem acD (rl:DF):Rdy (.pre pre pa co po nm rl) (pre++[⟨nm,rl⟩]) pa co po 1:=
 ⟨rfl,rfl,λw t h1 h2=>by rw[bT,dl h2,Ac h1]⟩
theorem acE (rl:DG):Rdy (.pat pre pa co po nm rl) pre (pa++[⟨nm,rl⟩]) co po 2:=
 ⟨rfl,rfl,λw t h1 h2=>by rw[bT,dl h2,Ac h1]⟩
theorem acF (rl:DR):Rdy (.com pre pa co po nm rl) pre pa (co++[⟨nm,rl⟩]) po 3:=
 ⟨rfl,rfl,λw t h1 h2=>by rw[bT,dl h2,Ac h1]⟩
end
theorem nW {k:C5}{t:CF}(h:cq k t=0):nmB t=true:=by
 unfold cq at h;split at h
 ·cases h
 ·rename_i q;simpa using q
theorem uB {so s:Int}{k:C5}{t:CF}(h1:so<=s)(h2:k.length<64)(h3:cq k t=0):hdE so s k t=0:=by
 unfold hdE;rw[Ac (nn1 h1),Ac (nn1 (jW (nW h3)).1),Ac (by omega)];exact h3
theorem uA {e:Int}{st:PS}(h:e=0):hdO e st= .ok st:=Ad h
theorem vI (b:Bool)(t:CF):bH (ax (gh b++t)).1=0/\fQ (gh b++t)=some (b,t):=by
 cases b
 ·show bH (ax (oa++32::t)).1=0/\fQ (oa++32::t)=_
  unfold fQ;rw[dl (by decide)]
  dsimp only;exact ⟨by decide,by rw[Ac (by decide),Ad rfl]⟩
 ·show bH (ax (jC++32::t)).1=0/\fQ (jC++32::t)=_
  unfold fQ;rw[dl (by decide)]
  dsimp only;exact ⟨by decide,by rw[Ad rfl]⟩
theorem acy (x:RuleP)(ok:x.ok)(h:ruE x=0):J.plP (rtext x)=(⟨x.permit,x.pfx,x.min,x.max⟩,0)/\(10:UInt8)∉rtext x:=by
 obtain ⟨z1,z2,z3,z4,z5⟩:=zw h
 have e:J.rtext ⟨x.permit,x.pfx,x.min,x.max⟩=rtext x:=by
  obtain ⟨b,p,mn,mx⟩:=x;cases b<;>rfl
 refine ⟨by rw[<-e];exact J.plP_hit (r:=⟨x.permit,x.pfx,x.min,x.max⟩) ok.1 h,?_⟩
 obtain ⟨p1,p2,p3⟩:=OH ok.1 z1;have e2:pfT x.pfx=ptext x.pfx.addr.toNat x.pfx.len.toNat:=Ad z1;rw[e2] at p1;unfold rtext;refine cg (by cases x.permit<;>decide) (cg (J.low_not p1).2 ?_)
 unfold rtail;split
 ·exact eU (by decide) (cg (iv rfl (dZ (by omega) (by omega))) (eU (by decide) (iv rfl (dZ (by omega) (by omega)))))
 ·simp
theorem kj {α:Type}{f:α->Int}{x:α}{r:List α}(h:bg f (x::r)=0):f x=0/\bg f r=0:=by
 rw[bg] at h;split at h
 ·rename_i a;exact ⟨a,h⟩
 ·rename_i a;exact absurd h a
theorem Uy (pre:C3)(pa:C4)(co:C6)(po:C9)(nm:CF): ∀(rest done:DF)(n:Int)(r:CF),(∀x∈rest,x.ok)->bg ruE rest=0->done.length+rest.length<=64->
  ∃n',dh (.pre pre pa co po nm done) n [] (aA plL rest++r)=dh (.pre pre pa co po nm (done++rest)) n' [] r
 | [],done,n,r,_,_,_=>⟨n,by rw[BD];rfl⟩
 |x::rest,done,n,r,ok,h,hl=>by
  obtain ⟨h1,h2⟩:=kj h;obtain ⟨p1,p2⟩:=acy x (ok x (by simp)) h1
  rw[As] at hl
  have hs:bT (.pre pre pa co po nm done) (rtext x)= .ok (.pre pre pa co po nm (done++[x])):=by
   rw[bT,Ad (by unfold rtext;exact (vI x.permit _).1),p1,Ac (nn2 rfl),Ac (by omega)]
  obtain ⟨n',e⟩:=Uy pre pa co po nm rest (done++[x]) (n+1) r (λy hy=>ok y (by simp[hy])) h2 (by simp;omega)
  refine ⟨n',?_⟩;rw[aA,plL,show rtext x++[10]++aA plL rest++r=rtext x++10::(aA plL rest++r) by simp,jo p2 hs,e,AI];rfl
theorem Uz (pre:C3)(pa:C4)(co:C6)(po:C9)(nm:CF): ∀(rest done:DG)(n:Int)(r:CF),bg paE rest=0->done.length+rest.length<=64->
  ∃n',dh (.pat pre pa co po nm done) n [] (aA paL rest++r)=dh (.pat pre pa co po nm (done++rest)) n' [] r
 | [],done,n,r,_,_=>⟨n,by rw[BD];rfl⟩
 |x::rest,done,n,r,h,hl=>by
  obtain ⟨h1,h2⟩:=kj h;rw[As] at hl;obtain ⟨v1,v2⟩:=vI x.permit x.pattern
  have hr:(fx x.pattern).isSome=true:=by
   unfold paE at h1;split at h1
   ·assumption
   ·cases h1
  have hs:bT (.pat pre pa co po nm done) (gh x.permit++x.pattern)= .ok (.pat pre pa co po nm (done++[x])):=by
   rw[bT,Ad v1,v2];dsimp only;rw[Ad hr,Ac (by omega)]
  have nb:(10:UInt8)∉gh x.permit++x.pattern:=cg (by cases x.permit<;>decide) (agB hr)
  obtain ⟨n',e⟩:=Uz pre pa co po nm rest (done++[x]) (n+1) r h2 (by simp;omega)
  refine ⟨n',?_⟩;rw[aA,paL,show gh x.permit++x.pattern++[10]++aA paL rest++r=(gh x.permit++x.pattern)++10::(aA paL rest++r) by simp,jo nb hs,e,AI];rfl
theorem UC (pre:C3)(pa:C4)(co:C6)(po:C9)(nm:CF): ∀(rest done:DR)(n:Int)(r:CF),bg bW rest=0->done.length+rest.length<=64->
  ∃n',dh (.com pre pa co po nm done) n [] (aA coL rest++r)=dh (.com pre pa co po nm (done++rest)) n' [] r
 | [],done,n,r,_,_=>⟨n,by rw[BD];rfl⟩
 |x::rest,done,n,r,h,hl=>by
  obtain ⟨h1,h2⟩:=kj h;rw[As] at hl;obtain ⟨z1,z2,z3,z4⟩:=WD h1;obtain ⟨v1,v2⟩:=vI x.permit (d9 x.high++58::d9 x.low)
  have hs:bT (.com pre pa co po nm done) (gh x.permit++(d9 x.high++58::d9 x.low))= .ok (.com pre pa co po nm (done++[x])):=by
   rw[bT,Ad v1,v2];dsimp only;rw[abh x h1 _ (by omega),Ad rfl]
  have nb:(10:UInt8)∉gh x.permit++(d9 x.high++58::d9 x.low):=cg (by cases x.permit<;>decide) (cg (JC z1 z2 rfl (by decide)) (eU (by decide) (JC z3 z4 rfl (by decide))))
  obtain ⟨n',e⟩:=UC pre pa co po nm rest (done++[x]) (n+1) r h2 (by simp;omega)
  refine ⟨n',?_⟩;rw[aA,coL,show gh x.permit++d9 x.high++[58]++d9 x.low++[10]++aA coL rest++r=(gh x.permit++(d9 x.high++58::d9 x.low))++10::(aA coL rest++r) by simp,jo nb hs,e,AI];rfl
theorem oM {α:Type}{nm:α->CF}{sz:α->Nat}{chk:α->Int}{x:α}{r d:List α}(h:eaE nm sz chk d (x::r)=0):cq (d.map nm) (nm x)=0/\sz x<=64/\chk x=0/\eaE nm sz chk (d++[x]) r=0:=by
 rw[eaE] at h;split at h
 ·rename_i ha
  split at h
  ·cases h
  ·rename_i hb
   split at h
   ·rename_i hc;exact ⟨ha,by omega,hc,h⟩
   ·rename_i hc;exact absurd h hc
 ·rename_i ha;exact absurd h ha
theorem GF: ∀(l:C3)(st:PS)(pre:C3)(so n:Int)(r:CF),Rdy st pre [] [] [] so->so<=1->lE1 pre l=0->pre.length+l.length<=64->(∀x∈l,x.ok)->
  ∃st' so' n',Rdy st' (pre++l) [] [] [] so'/\so'<=1/\dh st n [] (aA plT l++r)=dh st' n' [] r
 | [],st,pre,so,n,r,hR,h1,_,_,_=>⟨st,so,n,by rw[BD];exact hR,h1,rfl⟩
 |x::l,st,pre,so,n,r,hR,h1,h2,h3,h4=>by
  obtain ⟨e1,e2,e3,e4⟩:=oM h2;rw[As] at h3;obtain ⟨o1,o2,o3,o4⟩:=jW (nW e1)
  have hs:bT st (cR++32::x.name)= .ok (.pre pre [] [] [] x.name []):=by
   rw[hR.stp _ _ (by decide) (by decide),lr,Ad rfl]
   exact uA (uB h1 (by simp;omega) e1)
  have nb:(10:UInt8)∉cR++32::x.name:=cg (by decide) (eU (by decide) o2)
  obtain ⟨n1,q1⟩:=Uy pre [] [] [] x.name x.rules [] (n+1) (aA plT l++r) (h4 x (by simp)) e3 (by simpa using e2)
  have hR2:=acD pre [] [] [] x.name x.rules;obtain ⟨st',so',n',r1,r2,r3⟩:=GF l _ _ _ n1 r hR2 (by decide) e4 (by simp;omega) (λy hy=>h4 y (by simp[hy]))
  refine ⟨st',so',n',by rw[AI] at r1;exact r1,r2,?_⟩
  rw[aA,aej,jo nb hs,q1,By];exact r3
theorem GJ: ∀(l:C4)(st:PS)(pre:C3)(pa:C4)(so n:Int)(r:CF),Rdy st pre pa [] [] so->so<=2->lE2 pa l=0->pa.length+l.length<=64->
  ∃st' so' n',Rdy st' pre (pa++l) [] [] so'/\so'<=2/\dh st n [] (aA paT l++r)=dh st' n' [] r
 | [],st,pre,pa,so,n,r,hR,h1,_,_=>⟨st,so,n,by rw[BD];exact hR,h1,rfl⟩
 |x::l,st,pre,pa,so,n,r,hR,h1,h2,h3=>by
  obtain ⟨e1,e2,e3,e4⟩:=oM h2;rw[As] at h3;obtain ⟨o1,o2,o3,o4⟩:=jW (nW e1)
  have hs:bT st (cQ++32::x.name)= .ok (.pat pre pa [] [] x.name []):=by
   rw[hR.stp _ _ (by decide) (by decide),lr,Ac (by decide),Ad rfl]
   exact uA (uB h1 (by simp;omega) e1)
  have nb:(10:UInt8)∉cQ++32::x.name:=cg (by decide) (eU (by decide) o2)
  obtain ⟨n1,q1⟩:=Uz pre pa [] [] x.name x.rules [] (n+1) (aA paT l++r) e3 (by simpa using e2)
  have hR2:=acE pre pa [] [] x.name x.rules;obtain ⟨st',so',n',r1,r2,r3⟩:=GJ l _ _ _ _ n1 r hR2 (by decide) e4 (by simp;omega)
  refine ⟨st',so',n',by rw[AI] at r1;exact r1,r2,?_⟩
  rw[aA,aeo,jo nb hs,q1,By];exact r3
theorem GN: ∀(l:C6)(st:PS)(pre:C3)(pa:C4)(co:C6)(so n:Int)(r:CF),Rdy st pre pa co [] so->so<=3->lE3 co l=0->co.length+l.length<=64->
  ∃st' so' n',Rdy st' pre pa (co++l) [] so'/\so'<=3/\dh st n [] (aA coT l++r)=dh st' n' [] r
 | [],st,pre,pa,co,so,n,r,hR,h1,_,_=>⟨st,so,n,by rw[BD];exact hR,h1,rfl⟩
 |x::l,st,pre,pa,co,so,n,r,hR,h1,h2,h3=>by
  obtain ⟨e1,e2,e3,e4⟩:=oM h2;rw[As] at h3;obtain ⟨o1,o2,o3,o4⟩:=jW (nW e1)
  have hs:bT st (cP++32::x.name)= .ok (.com pre pa co [] x.name []):=by
   rw[hR.stp _ _ (by decide) (by decide),lr,Ac (by decide),Ac (by decide),Ad rfl]
   exact uA (uB h1 (by simp;omega) e1)
  have nb:(10:UInt8)∉cP++32::x.name:=cg (by decide) (eU (by decide) o2)
  obtain ⟨n1,q1⟩:=UC pre pa co [] x.name x.rules [] (n+1) (aA coT l++r) e3 (by simpa using e2)
  have hR2:=acF pre pa co [] x.name x.rules;obtain ⟨st',so',n',r1,r2,r3⟩:=GN l _ _ _ _ _ n1 r hR2 (by decide) e4 (by simp;omega)
  refine ⟨st',so',n',by rw[AI] at r1;exact r1,r2,?_⟩
  rw[aA,afX,jo nb hs,q1,By];exact r3
theorem UB (pre:C3)(pa:C4)(co:C6)(po:C9)(nm:CF)(ts:Da)(tn:CF)(hk:(kn3 pre pa co).nms): ∀(rest done:Ds)(n:Int)(r:CF),(∀x∈rest,x.ok)->bg (mtE (kn3 pre pa co)) rest=0->done.length+rest.length<=64->
  ∃n',dh (.term pre pa co po nm ts tn done []) n [] (aA fG rest++r)=dh (.term pre pa co po nm ts tn (done++rest) []) n' [] r
 | [],done,n,r,_,_,_=>⟨n,by rw[BD];rfl⟩
 |x::rest,done,n,r,ok,h,hl=>by
  obtain ⟨h1,h2⟩:=kj h;rw[As] at hl;obtain ⟨m1,m2⟩:=YT _ hk x (ok x (by simp)).2.2 h1
  have hs:bT (.term pre pa co po nm ts tn done []) (dX++32::((bif x.neg then ju else [])++i7 x))= .ok (.term pre pa co po nm ts tn (done++[x]) []):=by
   rw[bT,Ac (by simp[dX,ez]),Ac (by simp[dX,ey]),Ac (by simp[dX,cU]),dl (by decide)]
   dsimp only;rw[Ad rfl,Ac (by simp),m1]
   dsimp only;rw[Ac (by omega)]
   exact Ac (nn2 h1)
  have nb:(10:UInt8)∉dX++32::((bif x.neg then ju else [])++i7 x):=cg (by decide) (eU (by decide) m2)
  obtain ⟨n',e⟩:=UB pre pa co po nm ts tn hk rest (done++[x]) (n+1) r (λy hy=>ok y (by simp[hy])) h2 (by simp;omega)
  refine ⟨n',?_⟩;rw[aA,adg,jo nb hs,e,AI];rfl
theorem UD (pre:C3)(pa:C4)(co:C6)(po:C9)(nm:CF)(ts:Da)(tn:CF)(ms:Ds): ∀(rest done:Dr)(n:Int)(r:CF),(∀x∈rest,x.ok)->bg gQ rest=0->done.length+rest.length<=64->
  ∃n',dh (.term pre pa co po nm ts tn ms done) n [] (aA et rest++r)=dh (.term pre pa co po nm ts tn ms (done++rest)) n' [] r
 | [],done,n,r,_,_,_=>⟨n,by rw[BD];rfl⟩
 |x::rest,done,n,r,ok,h,hl=>by
  obtain ⟨h1,h2⟩:=kj h;rw[As] at hl;obtain ⟨m1,m2⟩:=abA x (ok x (by simp)) h1
  have hs:bT (.term pre pa co po nm ts tn ms done) (iW++32::jm x)= .ok (.term pre pa co po nm ts tn ms (done++[x])):=by
   rw[bT,Ac (by simp[iW,ez]),Ac (by simp[iW,ey]),Ac (by simp[iW,cU]),dl (by decide)]
   dsimp only;rw[Ac (by decide),Ad rfl,m1]
   dsimp only;rw[Ac (by omega),Ac (nn2 h1)]
  have nb:(10:UInt8)∉iW++32::jm x:=cg (by decide) (eU (by decide) m2)
  obtain ⟨n',e⟩:=UD pre pa co po nm ts tn ms rest (done++[x]) (n+1) r (λy hy=>ok y (by simp[hy])) h2 (by simp;omega)
  refine ⟨n',?_⟩;rw[aA,adT,jo nb hs,e,AI];rfl
theorem Uj {k:Kn}{l:Da}{t:Trm}(h:f9 k l t=0):nmB t.name=true/\(l.any λu=>u.name==t.name)=false/\t.mats.length<=64/\bg (mtE k) t.mats=0/\t.acts.length<=64/\bg gQ t.acts=0/\(t.verdict=1∨t.verdict=2∨t.verdict=3):=by
 unfold f9 at h;split at h
 ·cases h
 rename_i h1;split at h
 ·cases h
 rename_i h2;unfold Gh at h;split at h
 ·cases h
 rename_i h3;split at h
 ·rename_i h4
  unfold tE3 at h;split at h
  ·cases h
  rename_i h5;split at h
  ·rename_i h6
   unfold vdE at h;split at h
   ·cases h
   ·exact ⟨by simpa using h1,by simpa using h2,by omega,h4,by omega,h6,by omega⟩
  ·rename_i h6;exact absurd h h6
 ·rename_i h4;exact absurd h h4
theorem acx (pre:C3)(pa:C4)(co:C6)(po:C9)(nm:CF)(ts:Da)(hk:(kn3 pre pa co).nms)(t:Trm)(ok:t.ok)(h:f9 (kn3 pre pa co) ts t=0)(hl:ts.length<64)(n:Int)(r:CF):
  ∃n',dh (.pol pre pa co po nm ts) n [] (dH t++r)=dh (.pol pre pa co po nm (ts++[t])) n' [] r:=by
 obtain ⟨h1,h2,h3,h4,h5,h6,h7⟩:=Uj h;obtain ⟨o1,o2,o3,o4⟩:=jW h1;obtain ⟨tn,ms,acs,v⟩:=t;dsimp only at*
 have hE: ∀d,f9 ⟨pre.map PList.name,pa.map PathL.name,co.map ComL.name,d⟩ ts ⟨tn,[],[],1⟩=0:=by
  intro d;unfold f9;rw[Ac (by simp[h1]),Ac (by simp[h2])];rfl
 have hs:bT (.pol pre pa co po nm ts) (ff++32::tn)= .ok (.term pre pa co po nm ts tn [] []):=by
  rw[bT,Ac (by simp[ff,jt]),Ac (by simp[ff,js]),dl (by decide)]
  dsimp only;rw[Ac (nn2 rfl),Ac (nn1 o1),Ac (by omega),Ac (nn2 (hE _))]
 have nb:(10:UInt8)∉ff++32::tn:=cg (by decide) (eU (by decide) o2)
 obtain ⟨n1,q1⟩:=UB pre pa co po nm ts tn hk ms [] (n+1) (aA et acs++(dp v++10::r)) ok.1 h4 (by simpa using h3)
 obtain ⟨n2,q2⟩:=UD pre pa co po nm ts tn ms acs [] n1 (dp v++10::r) ok.2.1 h6 (by simpa using h5)
 have hv:bT (.term pre pa co po nm ts tn ms acs) (dp v)= .ok (.pol pre pa co po nm (ts++[⟨tn,ms,acs,v⟩]))/\(10:UInt8)∉dp v:=by
  rcases h7 with rfl|rfl|rfl
  ·exact ⟨by show bT _ ez=_;rw[bT,Ad rfl],by decide⟩
  ·exact ⟨by show bT _ ey=_;rw[bT,Ac (by decide),Ad rfl],by decide⟩
  ·exact ⟨by show bT _ cU=_;rw[bT,Ac (by decide),Ac (by decide),Ad rfl],by decide⟩
 refine ⟨n2+1,?_⟩;rw[ach,jo nb hs,q1,By,q2,By,jo hv.2 hv.1]
theorem Qg {k:Kn}{d r:Da}{t:Trm}(h:ic k d (t::r)=0):f9 k d t=0/\ic k (d++[t]) r=0:=by
 rw[ic] at h;split at h
 ·rename_i a;exact ⟨a,h⟩
 ·rename_i a;exact absurd h a
theorem Gz (pre:C3)(pa:C4)(co:C6)(po:C9)(nm:CF)(hk:(kn3 pre pa co).nms): ∀(rest done:Da)(n:Int)(r:CF),(∀x∈rest,x.ok)->ic (kn3 pre pa co) done rest=0->done.length+rest.length<=64->
  ∃n',dh (.pol pre pa co po nm done) n [] (aA dH rest++r)=dh (.pol pre pa co po nm (done++rest)) n' [] r
 | [],done,n,r,_,_,_=>⟨n,by rw[BD];rfl⟩
 |x::rest,done,n,r,ok,h,hl=>by
  obtain ⟨h1,h2⟩:=Qg h;rw[As] at hl;obtain ⟨n1,q1⟩:=acx pre pa co po nm done hk x (ok x (by simp)) h1 (by omega) n (aA dH rest++r)
  obtain ⟨n',e⟩:=Gz pre pa co po nm hk rest (done++[x]) n1 r (λy hy=>ok y (by simp[hy])) h2 (by simp;omega)
  refine ⟨n',?_⟩;rw[aA,AI,q1,e,AI];rfl
theorem GH (pre:C3)(pa:C4)(co:C6)(hk:(kn3 pre pa co).nms): ∀(l:C9)(st:PS)(po:C9)(so n:Int)(r:CF),Rdy st pre pa co po so->so<=4->lE4 (kn3 pre pa co) po l=0->po.length+l.length<=64->(∀x∈l,x.ok)->
  ∃st' so' n',Rdy st' pre pa co (po++l) so'/\dh st n [] (aA bR l++r)=dh st' n' [] r
 | [],st,po,so,n,r,hR,_,_,_,_=>⟨st,so,n,by rw[BD];exact hR,rfl⟩
 |x::l,st,po,so,n,r,hR,h1,h2,h3,h4=>by
  obtain ⟨e1,e2,e3,e4⟩:=oM h2;rw[As] at h3;obtain ⟨o1,o2,o3,o4⟩:=jW (nW e1)
  have hs:bT st (gH++32::x.name)= .ok (.pol pre pa co po x.name []):=by
   rw[hR.stp _ _ (by decide) (by decide),lr,Ac (by decide),Ac (by decide),Ac (by decide)]
   exact uA (uB h1 (by simp;omega) e1)
  have nb:(10:UInt8)∉gH++32::x.name:=cg (by decide) (eU (by decide) o2)
  unfold plE at e3
  have hT:ic (kn3 pre pa co) [] x.terms=0:=by
   split at e3
   ·assumption
   ·rename_i q;exact absurd e3 q
  rw[Ad hT] at e3
  have hD:x.dflt=1∨x.dflt=2:=by
   unfold dfE at e3;split at e3
   ·cases e3
   ·omega
  have okx:=h4 x (by simp)
  obtain ⟨n1,q1⟩:=Gz pre pa co po x.name hk x.terms [] (n+1) ((ob++dp x.dflt)++10::(aA bR l++r)) okx.1 hT (by simpa using e2)
  have hv:bT (.pol pre pa co po x.name x.terms) (ob++dp x.dflt)= .ok (.top pre pa co (po++[x]) 4)/\(10:UInt8)∉ob++dp x.dflt:=by
   obtain ⟨nm,ts,d⟩:=x;dsimp only at hD⊢;rcases hD with rfl|rfl
   ·exact ⟨by show bT _ jt=_;rw[bT,Ad rfl],by decide⟩
   ·exact ⟨by show bT _ js=_;rw[bT,Ac (by decide),Ad rfl],by decide⟩
  obtain ⟨st',so',n',r1,r3⟩:=GH pre pa co hk l _ (po++[x]) 4 (n1+1) r (OC pre pa co (po++[x]) 4) (by decide) e4 (by simp;omega) (λy hy=>h4 y (by simp[hy]))
  refine ⟨st',so',n',by rw[AI] at r1;exact r1,?_⟩
  rw[aA,acM,jo nb hs,q1,By,jo hv.2 hv.1];exact r3
theorem uE {α:Type}{nm:α->CF}{sz:α->Nat}{chk:α->Int}: ∀(l d:List α),eaE nm sz chk d l=0-> ∀x∈l.map nm,nmB x=true
 | [],_,_,x,hx=>by cases hx
 |y::r,d,h,x,hx=>by
  obtain ⟨e1,_,_,e4⟩:=oM h;rw[Ao] at hx;rcases AL.1 hx with rfl|hx
  ·exact nW e1
  ·exact uE r _ e4 x hx
theorem afZ {s:PSet}(h:iA s=0):LOk s.prefixes s.paths s.comms/\s.pols.length<=64/\lE4 (kn3 s.prefixes s.paths s.comms) [] s.pols=0:=by
 obtain ⟨pre,pa,co,po⟩:=s;have e1:=jL ruE PList.name PList.rules pre [] [] true (by simp)
 have e2:=jL paE PathL.name PathL.rules pa [] [] true (by simp)
 have e3:=jL bW ComL.name ComL.rules co [] [] true (by simp)
 have e4:=su ⟨pre,pa,co,po⟩ po [] [] true (by simp)
 have e5:plE (dM ⟨pre,pa,co,po⟩)=plE (kn3 pre pa co):=funext λp=>aek _ _ _ _ _ p
 rw[e5] at e4;unfold iA at h;dsimp only at h⊢;split at h
 ·rename_i a
  split at h
  ·rename_i b
   split at h
   ·rename_i c
    split at h
    ·cases h
    ·rename_i d
     unfold kh at a;unfold lK at b;unfold kg at c;split at a
     ·cases a
     split at b
     ·cases b
     split at c
     ·cases c
     exact ⟨⟨⟨by omega,e1.trans a⟩,⟨by omega,e2.trans b⟩,⟨by omega,e3.trans c⟩⟩,by omega,e4.trans h⟩
   ·rename_i c;exact absurd h c
  ·rename_i b;exact absurd h b
 ·rename_i a;exact absurd h a
theorem UH (s:PSet)(ok:s.ok)(h:iA s=0)(hl:(lu s).length<=65536):vZ (lu s)=(s,0,0):=by
 obtain ⟨⟨a,b,c⟩,d1,d2⟩:=afZ h;obtain ⟨pre,pa,co,po⟩:=s;dsimp only at*;obtain ⟨o1,o2,o3,o4⟩:=ok;have hk:(kn3 pre pa co).nms:=⟨uE _ _ a.2,uE _ _ b.2,uE _ _ c.2⟩;unfold vZ;rw[Ac (by omega)]
 unfold lu;dsimp only;obtain ⟨st1,so1,n1,r1,s1,q1⟩:=GF pre (.top [] [] [] [] 0) [] 0 0 (aA paT pa++(aA coT co++aA bR po)) (OC _ _ _ _ _) (by decide) a.2 (by simpa using a.1) o1
 obtain ⟨st2,so2,n2,r2,s2,q2⟩:=GJ pa st1 _ [] so1 n1 (aA coT co++aA bR po) r1 (by omega) b.2 (by simpa using b.1)
 obtain ⟨st3,so3,n3,r3,s3,q3⟩:=GN co st2 _ _ [] so2 n2 (aA bR po) r2 (by omega) c.2 (by simpa using c.1)
 obtain ⟨st4,so4,n4,r4,q4⟩:=GH _ _ _ hk po st3 [] so3 n3 [] r3 (by omega) d2 (by simpa using d1) o4
 rw[BD] at q4;rw[q1,q2,q3,q4,dh,Ac (nn2 rfl),Ac (by rw[r4.pol];decide),r4.set];rfl
theorem tg (s:PSet)(h:bkL s.enc<=1048576)(ok:s.ok):s.good:=by
 have l1:=fE (enc:=PList.enc) (λx=>by have:=w9 x;omega) s.prefixes
 have l2:=fE (enc:=PathL.enc) (λx=>by have:=w8 x;omega) s.paths
 have l3:=fE (enc:=ComL.enc) (λx=>by have:=BT x;omega) s.comms
 have l4:=fE (enc:=Pol.enc) (λx=>by have:=WU x;omega) s.pols
 simp only[PSet.enc,bkL,AV.bk] at h;obtain ⟨o1,o2,o3,o4⟩:=ok;refine ⟨by omega,by omega,by omega,by omega,λx hx=>?_,λx hx=>?_,λx hx=>?_,λx hx=>?_⟩
 ·have m:=jd (enc:=PList.enc) hx
  have n:=fE Lw x.rules;simp only[PList.enc,bkL,AV.bk] at m;exact ⟨by omega,by omega,o1 x hx⟩
 ·have m:=jd (enc:=PathL.enc) hx
  have n:=fE Lx x.rules;simp only[PathL.enc,bkL,AV.bk] at m;refine ⟨by omega,by omega,λr hr=>?_⟩
  have k:=jd (enc:=PathR.enc) hr;simp only[PathR.enc,bkL,AV.bk] at k;omega
 ·have m:=jd (enc:=ComL.enc) hx
  have n:=fE PH x.rules;simp only[ComL.enc,bkL,AV.bk] at m;exact ⟨by omega,by omega,trivial⟩
 ·have m:=jd (enc:=Pol.enc) hx
  have n:=fE (enc:=Trm.enc) (λx=>by have:=Lu x;omega) x.terms
  simp only[Pol.enc,bkL,AV.bk] at m;refine ⟨by omega,by omega,λt ht=>?_⟩
  have k:=jd (enc:=Trm.enc) ht;have n1:=fE (enc:=Mat.enc) (λx=>by have:=Ly x;omega) t.mats
  have n2:=fE (enc:=Actn.enc) (λx=>by have:=BU x;omega) t.acts
  simp only[Trm.enc,bkL,AV.bk] at k;exact ⟨by omega,by omega,by omega,λm hm=>(((o4 x hx).1 t ht).1 m hm).2.2⟩
theorem Js (s:PSet):s.prefixes.length+s.paths.length+s.comms.length+s.pols.length<=bkL s.enc:=by
 have h3:=PG s;unfold jz at h3;omega
end Go.AM.IR
