/- What the functions of this program give, on the abstract machine. -/
import Derived.Test.YtomphmeopjpejaaGreatDoorDataO
set_option linter.unusedVariables false
set_option linter.unusedSimpArgs false
set_option maxHeartbeats 4000000
set_option maxRecDepth 20000
namespace Go.AM.IR
def gm (s:List UInt8)(a:Nat):Nat:=s.foldl (λa b=>10*a+J.dval b) a
theorem BL (s t:List UInt8)(a:Nat):gm (s++t) a=gm t (gm s a):=by unfold gm;rw[List.foldl_append]
theorem Ja: ∀(s:List UInt8)(a:Nat),a<=gm s a
 | [],a=>Be a
 |b::r,a=>by
  have:=Ja r (10*a+J.dval b);show a<=gm r (10*a+J.dval b)
  omega
theorem y8: ∀(s t:List UInt8)(a:Nat),J.foldN (s++t) a=(J.foldN s a).bind (J.foldN t)
 | [],t,a=>rfl
 |b::r,t,a=>by
  rw[B4,J.foldN,J.foldN];split
  ·rfl
  ·exact y8 r t _
theorem y7: ∀(s:List UInt8)(a n:Nat),J.foldN s a=some n->n=gm s a
 | [],a,n,h=>by cases h;rfl
 |b::r,a,n,h=>by
  rw[J.foldN] at h;split at h
  ·cases h
  ·exact y7 r _ n h
theorem DM: ∀(s:List UInt8)(a n:Nat),a<=9223372036854775807->J.foldN s a=some n->n<=9223372036854775807+9*256
 | [],a,n,ha,h=>by cases h;omega
 |b::r,a,n,ha,h=>by
  rw[J.foldN] at h;split at h
  ·cases h
  ·rename_i hc
   by_cases hd:J.dval b<=9223372036854775807
   ·exact DM r _ n (by omega) h
   ·have:=b.toNat_lt;unfold J.dval at hd;omega
theorem Fj {d:Nat}(h:d<10):J.dval (UInt8.ofNat (48+d))=d/\J.dig (UInt8.ofNat (48+d))=true/\(d≠0->UInt8.ofNat (48+d)≠48):=by
 have: ∀d,d<10->J.dval (UInt8.ofNat (48+d))=d/\J.dig (UInt8.ofNat (48+d))=true/\(d≠0->UInt8.ofNat (48+d)≠48):=by decide
 exact this d h
theorem BA {b:UInt8}(h:J.dig b=true):J.dval b<10/\UInt8.ofNat (48+J.dval b)=b/\(b≠48->1<=J.dval b):=by
 obtain ⟨d,hd,e,hv⟩:=J.dig_of h;rw[hv];refine ⟨hd,e.symm,λq=>?_⟩
 rcases Nat.eq_zero_or_pos d with h0|h0
 ·subst h0;exact absurd (e.trans (by decide)) q
 ·exact h0
theorem tf {s:List UInt8}(h:J.canon s=true):(∃d,s= [d]/\J.dig d=true)∨ ∃t d,s=t++[d]/\J.canon t=true/\J.dig d=true/\1<=gm t 0:=by
 match s,h with
 |b::r,h=>
  simp only[J.canon,Av,Bool.not_eq_true',Bool.and_eq_false_iff,AR,Co] at h;obtain ⟨h1,h2,h3⟩:=h;rcases List.eq_nil_or_concat r with rfl|⟨r',d,rfl⟩
  ·exact .inl ⟨b,rfl,h2⟩
  ·have hb:b≠48:=by
    rcases h1 with h1|h1
    ·exact absurd (by simp) h1
    ·exact h1
   have hall:=List.all_eq_true.1 h3;refine .inr ⟨b::r',d,by simp,?_,hall d (by simp),?_⟩
   ·simp only[J.canon,Av,Bool.not_eq_true',Bool.and_eq_false_iff,AR,Co]
    exact ⟨.inr hb,h2,List.all_eq_true.2 λx hx=>hall x (by simp[hx])⟩
   ·have:=Ja r' (10*0+J.dval b)
    have:=(BA h2).2.2 hb;show 1<=gm r' (10*0+J.dval b)
    omega
theorem zK: ∀(f:Nat)(s:List UInt8),J.canon s=true->gm s 0<10^ (f+1)->cu f (gm s 0)=s
 |0,s,hc,hv=>by
  rcases tf hc with ⟨d,rfl,hd⟩|⟨t,d,rfl,ht,hd,h1⟩
  ·obtain ⟨h10,he,_⟩:=BA hd
   have e:gm [d] 0=J.dval d:=by show 10*0+J.dval d=_;omega
   rw[e,cu,he]
  ·exfalso
   rw[BL] at hv;have:gm [d] (gm t 0)=10*gm t 0+J.dval d:=rfl;omega
 |f+1,s,hc,hv=>by
  rcases tf hc with ⟨d,rfl,hd⟩|⟨t,d,rfl,ht,hd,h1⟩
  ·obtain ⟨h10,he,_⟩:=BA hd
   have e:gm [d] 0=J.dval d:=by show 10*0+J.dval d=_;omega
   rw[e,cu,Ad h10,he]
  ·obtain ⟨h10,he,_⟩:=BA hd
   have e:gm (t++[d]) 0=10*gm t 0+J.dval d:=by rw[BL];rfl
   rw[e] at hv⊢;have hv:10*gm t 0+J.dval d<10^ (f+1)*10:=by rw[<-Nat.pow_succ];exact hv
   rw[cu,Ac (by omega),show (10*gm t 0+J.dval d)/ 10=gm t 0 by omega,show (10*gm t 0+J.dval d) % 10=J.dval d by omega,he,zK f t ht (by omega)]
theorem zH: ∀(f u:Nat),u<10^ (f+1)->(cu f u).all J.dig=true/\(∃b r,cu f u=b::r/\(u≠0->b≠48)/\(u=0->r= []))/\(u<=9223372036854775807->J.foldN (cu f u) 0=some u)
 |0,u,h=>by
  have h:u<10:=by simpa using h
  obtain ⟨h1,h2,h3⟩:=Fj h;refine ⟨by rw[cu,Co,h2];rfl,⟨_,[],rfl,h3,λ_=>rfl⟩,λhu=>?_⟩
  rw[cu,J.foldN,Ac (by omega),J.foldN,h1];simp
 |f+1,u,h=>by
  by_cases hu:u<10
  ·obtain ⟨h1,h2,h3⟩:=Fj hu
   refine ⟨by rw[cu,Ad hu,Co,h2];rfl,⟨_,[],by rw[cu,Ad hu],h3,λ_=>rfl⟩,λ_=>?_⟩
   rw[cu,Ad hu,J.foldN,Ac (by omega),J.foldN,h1];simp
  ·have h':u<10^ (f+1)*10:=by rw[<-Nat.pow_succ];exact h
   obtain ⟨g1,⟨b,r,g2,g3,g4⟩,g5⟩:=zH f (u/ 10) (by omega)
   obtain ⟨h1,h2,h3⟩:=Fj (d:=u % 10) (by omega)
   rw[cu,Ac hu];refine ⟨by rw[List.all_append,g1,Co,h2];rfl,⟨b,r++[UInt8.ofNat (48+u % 10)],by rw[g2];rfl,λ_=>g3 (by omega),λh0=>by omega⟩,λhm=>?_⟩
   rw[y8,g5 (by omega),Option.bind_some,J.foldN,Ac (by omega),J.foldN,h1]
   congr 1;omega
theorem Vy (n:Nat):aw (n:Int)=cu 19 n:=by unfold aw;rw[Ac (by omega)];simp
theorem t6 (most:Int)(s:List UInt8)(h:(J.fNum most s).2=0): ∃n:Nat,(n:Int)<=most/\n<=9223372036854778111/\s=aw (n:Int)/\J.fNum most s=((n:Int),0):=by
 unfold J.fNum at h⊢;split at h
 ·rename_i hc
  rw[Ad hc];rcases hf:J.foldN s 0 with _|n
  ·rw[hf] at h;cases h
  ·rw[hf] at h
   dsimp only at h⊢;split at h
   ·cases h
   ·rename_i hm
    have hv:=y7 s 0 n hf;have hl:=DM s 0 n (by omega) hf
    refine ⟨n,by omega,by omega,?_,by rw[Ac hm]⟩
    rw[Vy,hv,zK 19 s hc (by rw[<-hv];omega)]
 ·cases h
end Go.AM.IR
namespace Go.AM.IR
theorem nA {α:Type}{f:α->Nat}{enc:α->List AV}(h: ∀x,f x+1<=bkL (enc x)): ∀l:List α,l.length+o6 f l<=bJ (l.map enc)
 | []=>by simp[o6]
 |x::r=>by
  have:=nA h r;have:=h x;rw[Ao,bJ,As,o6];omega
theorem eO {α:Type}{enc:α->List AV}(h: ∀x,1<=bkL (enc x))(l:List α):l.length<=bJ (l.map enc):=by
 have:=nA (f:=λ_=>0) (enc:=enc) (λx=>by have:=h x;omega) l
 omega
theorem ik {α:Type}{enc:α->List AV}{x:α}: ∀{l:List α},x∈l->bkL (enc x)<=bJ (l.map enc)
 |y::r,h=>by
  rw[Ao,bJ];rcases AL.1 h with rfl|h
  ·omega
  ·have:=ik (enc:=enc) h;omega
theorem FQ (x:Mat):0+1<=bkL x.enc:=by simp only[Mat.enc,bkL,AV.bk];omega
theorem yn (x:Actn):0+1<=bkL x.enc:=by simp only[Actn.enc,bkL,AV.bk];omega
theorem FK (x:Trm):Qn x+1<=bkL x.enc:=by
 have h1:=eO (λx=>by have:=FQ x;omega) x.mats
 have h2:=eO (λx=>by have:=yn x;omega) x.acts
 simp only[Trm.enc,bkL,AV.bk,Qn];omega
theorem PM (x:Pol):Ry x+1<=bkL x.enc:=by
 have h1:=nA FK x.terms;simp only[Pol.enc,bkL,AV.bk,Ry];omega
theorem FM (x:RuleP):1<=bkL x.enc:=by simp only[RuleP.enc,bkL,AV.bk];omega
theorem FP (x:PathR):1<=bkL x.enc:=by simp only[PathR.enc,bkL,AV.bk];omega
theorem JP (x:ComR):1<=bkL x.enc:=by simp only[ComR.enc,bkL,AV.bk];omega
theorem ur (x:PList):x.rules.length+1<=bkL x.enc:=by
 have h1:=eO FM x.rules;simp only[PList.enc,bkL,AV.bk];omega
theorem uq (x:PathL):x.rules.length+1<=bkL x.enc:=by
 have h1:=eO FP x.rules;simp only[PathL.enc,bkL,AV.bk];omega
theorem ym (x:ComL):x.rules.length+1<=bkL x.enc:=by
 have h1:=eO JP x.rules;simp only[ComL.enc,bkL,AV.bk];omega
theorem JO (s:PSet):uH s<=bkL s.enc:=by
 have h1:=nA ur s.prefixes;have h2:=nA uq s.paths;have h3:=nA ym s.comms;have h4:=nA PM s.pols;simp only[PSet.enc,bkL,AV.bk,uH];omega
end Go.AM.IR
namespace Go.AM.IR
def aZ {α:Type}(f:α->List UInt8):List α->List UInt8
 | []=>[]
 |x::r=>f x++aZ f r
theorem lj {α:Type}(f:α->List UInt8): ∀a b:List α,aZ f (a++b)=aZ f a++aZ f b
 | [],b=>rfl
 |x::r,b=>by rw[B4,aZ,aZ,lj f r b,AI]
theorem fX {α:Type}{f:α->List UInt8}{enc:α->List AV}: ∀l:List α,(∀x∈l,(f x).length<=1000*bkL (enc x))->(aZ f l).length<=1000*bJ (l.map enc)
 | [],_=>by simp[aZ]
 |x::r,h=>by
  have h1:=h x (by simp)
  have h2:=fX r (λy hy=>h y (by simp[hy]))
  rw[aZ,Ar,Ao,bJ];omega
def iU:List UInt8:=[116,101,114,109,32]
def oB:List UInt8:=[109,97,116,99,104,32]
def qC:List UInt8:=[110,111,116,32]
def BJ:List UInt8:=[115,101,116,32]
def iL:List UInt8:=[112,111,108,105,99,121,32]
def wD:List UInt8:=[100,101,102,97,117,108,116,32]
def plL (r:RuleP):List UInt8:=rtext r++[10]
def paL (r:PathR):List UInt8:=nb r.permit++r.pattern++[10]
def coL (r:ComR):List UInt8:=nb r.permit++kr r.high++[58]++kr r.low++[10]
def plT (x:PList):List UInt8:=qz++x.name++[10]++aZ plL x.rules
def paT (x:PathL):List UInt8:=qB++x.name++[10]++aZ paL x.rules
def coT (x:ComL):List UInt8:=qD++x.name++[10]++aZ coL x.rules
def gJ (m:Mat):List UInt8:=oB++(bif m.neg then qC else [])++nh m++[10]
def gQ (a:Actn):List UInt8:=BJ++ox a++[10]
def dZ (t:Trm):List UInt8:=iU++t.name++[10]++(aZ gJ t.mats++(aZ gQ t.acts++(iM t.verdict++[10])))
def ew (p:Pol):List UInt8:=iL++p.name++[10]++(aZ dZ p.terms++(wD++iM p.dflt++[10]))
def bU (s:PSet):List UInt8:=aZ plT s.prefixes++(aZ paT s.paths++(aZ coT s.comms++aZ ew s.pols))
def CK (s:PSet):Ret:=if iZ s=0 then (if 65536<(bU s).length then ⟨.tup [.str [],.int .i64 4],[]⟩ else ⟨.tup [.str (bU s),.int .i64 0],[]⟩) else ⟨.tup [.str [],.int .i64 (iZ s)],[]⟩
theorem zy (x:Nat):(dots x).length<=87:=by
 have l3:=b7 ((x/ 16777216:Nat):Int);have l2:=b7 ((x/ 65536 % 256:Nat):Int);have l1:=b7 ((x/ 256 % 256:Nat):Int);have l0:=b7 ((x % 256:Nat):Int);unfold dots;simp only[Ar,As];omega
theorem uV (x n:Nat):(ptext x n).length<=109:=by
 have:=zy x;have:=b7 (n:Int);unfold ptext;simp only[Ar,As];omega
theorem RA (p:Pfx):(pfT p).length<=109:=by
 unfold pfT;split
 ·exact uV _ _
 ·simp
theorem Kh (r:RuleP):(rtext r).length<=170:=by
 have hl:=uV r.pfx.addr.toNat r.pfx.len.toNat;have l1:=b7 r.min;have l2:=b7 r.max;have l3:=tz r.permit;unfold rtext rtail rng;split
 ·simp only[Ar,As];omega
 ·simp only[Ar,A9];omega
theorem R5 (m:Mat):(nh m).length<=130+m.name.length:=by
 have l1:=b7 m.n;have l2:=RA m.pfx;unfold nh
 repeat' split
 all_goals (simp only[Ar];first|(show 12+_<=_;omega)|(show 10+_<=_;omega)|(show 15+_<=_;omega)|(show 9+_<=_;omega)|(show 4+_<=_;omega)|(show 7+_<=_;omega))
theorem Vc (a:Actn):(ox a).length<=130:=by
 have l1:=b7 a.n;have l2:=b7 a.asn;have l3:=zy a.addr.toNat;have l4:=Fu a.com.toNat;unfold ox
 repeat' split
 all_goals (simp only[Ar,As];first|(show 5+_<=_;omega)|(show 4+_<=_;omega)|(show 7+_<=_;omega)|(show 9+_<=_;omega)|(show 8+_<=_;omega))
theorem R6 (m:Mat):(gJ m).length<=1000*bkL m.enc:=by
 have h:=R5 m;unfold gJ;simp only[Mat.enc,bkL,AV.bk,Ar];have h1:oB.length=6:=rfl;have h2:(bif m.neg then qC else []).length<=4:=by cases m.neg<;>decide
 have h3:([10]:List UInt8).length=1:=rfl;omega
theorem Ve (a:Actn):(gQ a).length<=1000*bkL a.enc:=by
 have h:=Vc a;unfold gQ;simp only[Actn.enc,bkL,AV.bk,Ar];have h1:BJ.length=4:=rfl;have h3:([10]:List UInt8).length=1:=rfl;omega
theorem Qm (t:Trm):(dZ t).length<=1000*bkL t.enc:=by
 have h1:=fX (f:=gJ) (enc:=Mat.enc) t.mats (λx _=>R6 x)
 have h2:=fX (f:=gQ) (enc:=Actn.enc) t.acts (λx _=>Ve x)
 have h3:=o0 t.verdict;have h4:iU.length=5:=rfl;have h5:([10]:List UInt8).length=1:=rfl;unfold dZ;simp only[Trm.enc,bkL,AV.bk,Ar];omega
theorem CP (p:Pol):(ew p).length<=1000*bkL p.enc:=by
 have h1:=fX (f:=dZ) (enc:=Trm.enc) p.terms (λx _=>Qm x)
 have h3:=o0 p.dflt;have h4:iL.length=7:=rfl;have h6:wD.length=8:=rfl;have h5:([10]:List UInt8).length=1:=rfl;unfold ew;simp only[Pol.enc,bkL,AV.bk,Ar];omega
theorem Xc (x:PList):(plT x).length<=1000*bkL x.enc:=by
 have h1:=fX (f:=plL) (enc:=RuleP.enc) x.rules (λr _=>by
  have:=Kh r;have h5:([10]:List UInt8).length=1:=rfl;unfold plL;simp only[RuleP.enc,bkL,AV.bk,Ar];omega)
 have h4:qz.length=12:=rfl;have h5:([10]:List UInt8).length=1:=rfl;unfold plT;simp only[PList.enc,bkL,AV.bk,Ar];omega
theorem Xl (x:PathL):(paT x).length<=1000*bkL x.enc:=by
 have h1:=fX (f:=paL) (enc:=PathR.enc) x.rules (λr _=>by
  have:=tz r.permit;have h5:([10]:List UInt8).length=1:=rfl;unfold paL;simp only[PathR.enc,bkL,AV.bk,Ar];omega)
 have h4:qB.length=10:=rfl;have h5:([10]:List UInt8).length=1:=rfl;unfold paT;simp only[PathL.enc,bkL,AV.bk,Ar];omega
theorem Yt (x:ComL):(coT x).length<=1000*bkL x.enc:=by
 have h1:=fX (f:=coL) (enc:=ComR.enc) x.rules (λr _=>by
  have:=tz r.permit;have:=DK r.high;have:=DK r.low;have h5:([10]:List UInt8).length=1:=rfl;have h6:([58]:List UInt8).length=1:=rfl;unfold coL;simp only[ComR.enc,bkL,AV.bk,Ar];omega)
 have h4:qD.length=15:=rfl;have h5:([10]:List UInt8).length=1:=rfl;unfold coT;simp only[ComL.enc,bkL,AV.bk,Ar];omega
theorem Qw (s:PSet):(bU s).length<=1000*bkL s.enc:=by
 have h1:=fX (f:=plT) (enc:=PList.enc) s.prefixes (λx _=>Xc x)
 have h2:=fX (f:=paT) (enc:=PathL.enc) s.paths (λx _=>Xl x)
 have h3:=fX (f:=coT) (enc:=ComL.enc) s.comms (λx _=>Yt x)
 have h4:=fX (f:=ew) (enc:=Pol.enc) s.pols (λx _=>CP x)
 unfold bU;simp only[PSet.enc,bkL,AV.bk,Ar];omega
theorem sS {α:Type}{f:α->Int}: ∀{l:List α},bj f l=0-> ∀x∈l,f x=0
 |x::r,h,y,hy=>by
  rw[bj] at h
  by_cases e:f x=0
  ·rw[Ad e] at h
   rcases AL.1 hy with rfl|hy
   ·exact e
   ·exact sS h y hy
  ·rw[Ac e] at h;exact absurd h e
theorem pJ {α β:Type}{rule:β->Int}{name:α->List UInt8}{rules:α->List β}: ∀{l:List α}{b:List UInt8}{fst:Bool},kn rule name rules l b fst=0-> ∀x∈l,∀r∈rules x,rule r=0
 |x::t,b,fst,h,y,hy=>by
  rw[kn] at h
  by_cases e:pQ (name x) b fst (rules x).length=0
  ·rw[Ad e] at h
   by_cases e2:bj rule (rules x)=0
   ·rw[Ad e2] at h
    rcases AL.1 hy with rfl|hy
    ·exact sS e2
    ·exact pJ h y hy
   ·rw[Ac e2] at h;exact absurd h e2
  ·rw[Ac e] at h;exact absurd h e
theorem IY {s:PSet}(h:iZ s=0):(∀x∈s.prefixes,∀r∈x.rules,ruE r=0)/\(∀x∈s.comms,∀r∈x.rules,dy r=0):=by
 unfold iZ at h
 by_cases e1:lZ s.prefixes=0
 ·rw[Ad e1] at h
  by_cases e2:ni s.paths=0
  ·rw[Ad e2] at h
   by_cases e3:lY s.comms=0
   ·unfold lZ at e1
    unfold lY at e3;constructor
    ·split at e1
     ·cases e1
     ·exact pJ e1
    ·split at e3
     ·cases e3
     ·exact pJ e3
   ·rw[Ac e3] at h;exact absurd h e3
  ·rw[Ac e2] at h;exact absurd h e2
 ·rw[Ac e1] at h;exact absurd h e1
theorem Pq {r:ComR}(h:dy r=0): -1<=r.high/\ -1<=r.low:=by
 unfold dy at h
 repeat' split at h
 all_goals first|omega|cases h
end Go.AM.IR
namespace Go.AM.IR
theorem cX: ∀(s:List UInt8),(ag s).2≠ []->s=(ag s).1++32::(ag s).2
 | [],h=>absurd rfl h
 |c::r,h=>by
  unfold ag at h⊢
  by_cases hc:c=32
  ·simp only[Ad hc] at h⊢;rw[hc];rfl
  ·simp only[Ac hc] at h⊢
   have:=cX r h;rw[B4,<-this]
theorem zX: ∀(s:List UInt8){x y:List UInt8},jA s=some (x,y)->s=x++58::y
 | [],_,_,h=>by cases h
 |c::r,x,y,h=>by
  unfold jA at h
  by_cases hc:c=58
  ·rw[Ad hc] at h;cases h;rw[hc];rfl
  ·rw[Ac hc] at h
   rcases hr:jA r with _|⟨a,b⟩
   ·rw[hr] at h;cases h
   ·rw[hr] at h;cases h
    rw[zX r hr];rfl
theorem mJ {t:List UInt8}(h:bg t=true):t≠ []:=by
 unfold bg at h;simp only[Av,AO] at h;exact h.1
theorem jQ {s:List UInt8}{v:Int}(h:n32 s=some v):s=aw v/\0<=v/\v<=4294967295:=by
 unfold n32 at h;split at h
 ·rename_i hz
  obtain ⟨n,h1,_,h2,h3⟩:=t6 4294967295 s hz;rw[h3] at h;cases h;exact ⟨h2,by omega,h1⟩
 ·cases h
theorem u7 {s:List UInt8}{v:Int}(h:iX s=some v):s=kr v/\ -1<=v/\v<=4294967295:=by
 unfold iX at h;split at h
 ·rename_i hs
  cases h;exact ⟨by rw[hs];rfl,by omega,by omega⟩
 ·obtain ⟨h1,h2,h3⟩:=jQ h
  refine ⟨?_,by omega,h3⟩
  unfold kr;rw[Ac (by omega)];exact h1
theorem zT {b:Bool}{t:List UInt8}{n:Nat}(h:(dH b t n).1=0):t=kr (dH b t n).2.high++58::kr (dH b t n).2.low/\(dH b t n).2.permit=b/\n<64/\dy (dH b t n).2=0:=by
 unfold dH at h⊢;rcases hc:jA t with _|⟨x,y⟩
 ·rw[hc] at h;cases h
 ·rw[hc] at h
  dsimp only at h⊢;rcases hx:iX x with _|v
  ·rw[hx] at h;cases h
  ·rw[hx] at h
   dsimp only at h⊢;rcases hy:iX y with _|w
   ·rw[hy] at h;cases h
   ·rw[hy] at h
    dsimp only at h⊢;split at h
    ·rename_i hn
     rw[Ad hn];refine ⟨?_,rfl,hn,h⟩;rw[<-(u7 hx).1,<-(u7 hy).1];exact zX t hc
    ·cases h
theorem UV {s:List UInt8}{v:Int}(h:cmP s=some v):s=mc v.toNat/\0<=v/\v<=4294967295:=by
 unfold cmP at h;rcases hN:cmN s with _|w
 ·rw[hN] at h
  dsimp only at h;rcases hc:jA s with _|⟨a,b⟩
  ·rw[hc] at h;cases h
  ·rw[hc] at h
   dsimp only at h;unfold cmV at h;split at h
   ·rename_i hq
    obtain ⟨q1,q2,q3⟩:=hq;obtain ⟨x,x1,_,_,x3⟩:=t6 65535 a q1;obtain ⟨y,y1,_,_,y3⟩:=t6 65535 b q2;rw[x3,y3] at h q3;cases h;simp only[Int.toNat_natCast] at q3⊢;exact ⟨q3.symm,by omega,by omega⟩
   ·cases h
 ·rw[hN] at h
  cases h;unfold cmN at hN;split at hN
  ·rename_i hs;cases hN;rw[hs];exact ⟨by decide,by decide,by decide⟩
  ·split at hN
   ·rename_i hs;cases hN;rw[hs];exact ⟨by decide,by decide,by decide⟩
   ·split at hN
    ·rename_i hs;cases hN;rw[hs];exact ⟨by decide,by decide,by decide⟩
    ·split at hN
     ·rename_i hs;cases hN;rw[hs];exact ⟨by decide,by decide,by decide⟩
     ·cases hN
theorem im {k:Int}{ng:Bool}{t:List UInt8}{x:Mat}(h:ix k ng (n32 t)=some x): ∃v,t=aw v/\0<=v/\v<=4294967295/\x=⟨k,[],v,⟨0,0⟩,ng⟩:=by
 rcases hn:n32 t with _|v
 ·rw[hn] at h;cases h
 ·rw[hn] at h
  cases h;obtain ⟨h1,h2,h3⟩:=jQ hn;exact ⟨v,h1,h2,h3,rfl⟩
theorem Oh {hd t:List UInt8}{ng:Bool}{x:Mat}(h:qY hd t ng=some x):hd++32::t=nh x/\x.neg=ng:=by
 unfold qY at h;split at h
 ·rename_i e;cases h;rw[e];exact ⟨rfl,rfl⟩
 split at h
 ·rename_i e;cases h;rw[e];exact ⟨rfl,rfl⟩
 split at h
 ·rename_i e;cases h;rw[e];exact ⟨rfl,rfl⟩
 split at h
 ·rename_i e;obtain ⟨v,h1,_,_,rfl⟩:=im h;rw[e,h1];exact ⟨rfl,rfl⟩
 split at h
 ·rename_i e;obtain ⟨v,h1,_,_,rfl⟩:=im h;rw[e,h1];exact ⟨rfl,rfl⟩
 split at h
 ·rename_i e;obtain ⟨v,h1,_,_,rfl⟩:=im h;rw[e,h1];exact ⟨rfl,rfl⟩
 split at h
 ·rename_i e;obtain ⟨v,h1,_,_,rfl⟩:=im h;rw[e,h1];exact ⟨rfl,rfl⟩
 split at h
 ·rename_i e
  split at h
  ·rename_i hz
   cases h;rcases J.psP_all t with q|⟨a,n,ha,hn,ht,q⟩
   ·rw[q] at hz;cases hz
   ·rw[q] at hz⊢
    unfold J.psV at hz⊢;split at hz
    ·rename_i hv
     rw[Ad hv,e];refine ⟨?_,rfl⟩;show _=wC++pfT ⟨(a:Int),(n:Int)⟩
     unfold pfT;rw[Ad hv,ht];simp only[Int.toNat_natCast];rfl
    ·cases hz
  ·cases h
 ·cases h
theorem yV {p:List UInt8×List UInt8}{ng:Bool}{x:Mat}(h:qX p ng=some x):p.2≠ []/\p.1++32::p.2=nh x/\x.neg=ng:=by
 unfold qX at h;split at h
 ·rename_i ho;exact ⟨mJ ho,Oh h⟩
 ·cases h
theorem Og {s:List UInt8}{x:Mat}(h:ic s=some x):s=(bif x.neg then qC else [])++nh x:=by
 unfold ic at h;split at h
 ·rename_i hq
  obtain ⟨h1,h2,h3⟩:=yV h;have e1:=cX (ag s).2 h1;have h0:(ag s).2≠ []:=by intro q;rw[q] at h1;exact h1 rfl
  have e0:=cX s h0;rw[hq] at e0;rw[h3,<-h2,<-e1];exact e0
 ·obtain ⟨h1,h2,h3⟩:=yV h
  rw[h3,<-h2];exact cX s h1
theorem ip {k:Int}{t:List UInt8}{x:Actn}(h:qg k (n32 t)=some x): ∃v,t=aw v/\0<=v/\v<=4294967295/\x=⟨k,v,0,0,0⟩:=by
 rcases hn:n32 t with _|v
 ·rw[hn] at h;cases h
 ·rw[hn] at h
  cases h;obtain ⟨h1,h2,h3⟩:=jQ hn;exact ⟨v,h1,h2,h3,rfl⟩
theorem oa {k:Int}{t:List UInt8}{x:Actn}(h:wy k (cmP t)=some x): ∃v,t=mc v.toNat/\0<=v/\v<=4294967295/\x=⟨k,0,0,v,0⟩:=by
 rcases hn:cmP t with _|v
 ·rw[hn] at h;cases h
 ·rw[hn] at h
  cases h;obtain ⟨h1,h2,h3⟩:=UV hn;exact ⟨v,h1,h2,h3,rfl⟩
theorem nj (v:Int)(h:0<=v)(h1:v<=4294967295):aw v≠ []:=by
 obtain ⟨n,rfl⟩: ∃n:Nat,v=n:=⟨v.toNat,by omega⟩
 rw[Vy];obtain ⟨_,⟨b,r,e,_⟩,_⟩:=zH 19 n (by omega)
 rw[e];simp
theorem Qd {hd t:List UInt8}{x:Actn}(h:Gq hd t=some x):t≠ []/\hd++32::t=ox x:=by
 unfold Gq at h;split at h
 ·rename_i e;obtain ⟨v,h1,h2,h3,rfl⟩:=ip h;rw[e,h1];exact ⟨nj v h2 h3,rfl⟩
 split at h
 ·rename_i e;obtain ⟨v,h1,h2,h3,rfl⟩:=ip h;rw[e,h1];exact ⟨nj v h2 h3,rfl⟩
 split at h
 ·rename_i e;obtain ⟨v,h1,h2,h3,rfl⟩:=ip h;rw[e,h1];exact ⟨nj v h2 h3,rfl⟩
 split at h
 ·rename_i e;obtain ⟨v,h1,h2,h3,rfl⟩:=ip h;rw[e,h1];exact ⟨nj v h2 h3,rfl⟩
 split at h
 ·rename_i e
  split at h
  ·rename_i hz
   cases h;rcases J.paP_all t with q|⟨a,ha,ht,q⟩
   ·rw[q] at hz;cases hz
   ·rw[q,e,ht]
    refine ⟨by unfold J.dots;simp,?_⟩
    show _=wC++dots ((a:Nat):Int).toNat
    simp only[Int.toNat_natCast];rfl
  ·cases h
 have cne: ∀v:Nat,mc v≠ []:=by
  intro v;unfold mc
  (repeat' split)<;>simp[wC0,wC1,wC2,wC3]
 split at h
 ·rename_i e;obtain ⟨v,h1,h2,h3,rfl⟩:=oa h;rw[e,h1];exact ⟨cne _,rfl⟩
 split at h
 ·rename_i e;obtain ⟨v,h1,h2,h3,rfl⟩:=oa h;rw[e,h1];exact ⟨cne _,rfl⟩
 split at h
 ·rename_i e
  rcases ha:n32 (ag t).1 with _|a
  ·rw[ha] at h;cases h
  rcases hb:n32 (ag t).2 with _|b
  ·rw[ha,hb] at h;cases h
  ·rw[ha,hb] at h
   cases h;obtain ⟨a1,a2,a3⟩:=jQ ha;obtain ⟨b1,b2,b3⟩:=jQ hb;have hne:(ag t).2≠ []:=by rw[b1];exact nj b b2 b3
   have ht:=cX t hne;rw[a1,b1] at ht;rw[e];refine ⟨by rw[ht];simp,?_⟩
   rw[ht];rfl
 ·cases h
theorem Qc {s:List UInt8}{x:Actn}(h:jl s=some x):s=ox x:=by
 obtain ⟨h1,h2⟩:=Qd h;rw[<-h2];exact cX s h1
theorem CU {s:List UInt8}(h:(J.plP s).2=0):s=rtext ⟨(J.plP s).1.permit,(J.plP s).1.pfx,(J.plP s).1.min,(J.plP s).1.max⟩/\RuleP.ok ⟨(J.plP s).1.permit,(J.plP s).1.pfx,(J.plP s).1.min,(J.plP s).1.max⟩/\ruE ⟨(J.plP s).1.permit,(J.plP s).1.pfx,(J.plP s).1.min,(J.plP s).1.max⟩=0:=by
 rcases J.plP_all s with q|⟨r,r1,r2,r3,q⟩
 ·rw[q] at h;cases h
 ·rw[q]
  obtain ⟨z1,z2,z3,z4,z5⟩:=J.chk_zero r2;refine ⟨?_,⟨r1,by unfold okI;simp only;omega,by unfold okI;simp only;omega⟩,r2⟩
  rw[r3];obtain ⟨b,p,mn,mx⟩:=r;cases b<;>rfl
theorem u5 {s t:List UInt8}{b:Bool}(h:cR s=some (b,t))(ht:t≠ []):s=nb b++t:=by
 unfold cR at h;split at h
 ·rename_i e
  cases h;have:=cX s ht;rw[e] at this;exact this
 ·split at h
  ·rename_i e
   cases h;have:=cX s ht;rw[e] at this;exact this
  ·cases h
theorem Ze:fu []=none:=by rfl
end Go.AM.IR
namespace Go.AM.IR
theorem GN (s:PSet)(g:s.good)(i:Nat)(x:Pol)(hx:s.pols[i]? =some x):ab G 521 [.int .i64 (i:Int),.ref 0 0 0] [.cells s.enc] ⟨.int .i64 x.terms.length,[(true,.cells s.enc)]⟩:=by
 have m1:=ml s.pols Pol.enc;have m2:=ml x.terms Trm.enc;have hx1:(s.pols.map Pol.enc)[((i:Nat):Int).toNat]? =some x.enc:=by simp[hx]
 have hi:i<s.pols.length:=(AC.1 hx).1;have gl:=g.d;refine gvB (F:=Ue) ?_;refine fX1 ?_;rw[m2];rfl
theorem IU (k:Kn)(hf:k.fit)(s:PSet)(g:s.good)(i:Nat)(x:Pol)(hx:s.pols[i]? =some x):ab G 522 [.int .i64 (i:Int),.ref 0 0 0,.ref 1 0 0] [.cells k.enc,.cells s.enc] ⟨.int .i64 (plE k x),[(true,.cells k.enc),(true,.cells s.enc)]⟩:=by
 have m1:=ml s.pols Pol.enc;have hx1:(s.pols.map Pol.enc)[((i:Nat):Int).toNat]? =some x.enc:=by simp[hx]
 have hi:i<s.pols.length:=(AC.1 hx).1;have gl:=g.d;obtain ⟨q1,q2,q3⟩:=g.pol x (A4 hx);have h1:=Ii k hf x q2 q3;generalize plE k x=E at*;refine gvB (F:=Ud) ?_
 (conv=>whnf);first|refine pW [(0,_,_),(1,_,_)] [] [true,true] ?_|refine pY [(0,_,_),(1,_,_)] [] [true,true] ?_
 rfl
theorem wc (k:Kn)(hf:k.fit)(s:PSet)(g:s.good): ∀(rest done:List Pol)(T:TV)(H:ap)(c:Nat)(n:Int)(e:s.pols=done++rest)(hn:n=done.length),
  Ev G ⟨nY,⟨(16,.int .i64 n)::(2,.fn 522 [.ref 0 0 0,.ref 1 0 0])::(1,.fn 521 [.ref 1 0 0])::(0,.sl 1 ((s.pols.map Pol.name).map ah))::(14,.sl 1 ((s.pols.map Pol.name).map ah))::(15,.int .i64 s.pols.length)::T,(0,some (0,.cells k.enc))::(1,some (0,.cells s.enc))::H,c⟩,[.t 6],2⟩ ⟨.int .i64 (eaE Pol.name (λx:Pol=>x.terms.length) (plE k) done rest),[(true,.cells k.enc),(true,.cells s.enc)]⟩
 | [],done,T,H,c,n,e,hn=>by
  have hd:=md0 e;refine evA ?_
  (conv=>whnf);first|refine pW [(0,_,_),(1,_,_)] [] [true,true] ?_|refine pY [(0,_,_),(1,_,_)] [] [true,true] ?_
  rfl
 |x::r,done,T,H,c,n,e,hn=>by
  have hd:=md e;have gl:=g.d;have m1:((s.pols.map Pol.name).map ah).length=s.pols.length:=by simp
  have hx:((s.pols.map Pol.name).map ah)[n.toNat]? =some [.str x.name]:=by simp[e,hn,ah]
  obtain ⟨q1,q2,q3⟩:=g.pol x (by simp[e])
  have h2:ab G 577 [.sl 1 (List.take (n.toNat-0) (List.drop 0 ((s.pols.map Pol.name).map ah))),.str x.name] [] ⟨.int .i64 (bq (done.map Pol.name) x.name),[]⟩:=by
   have h:=cJ (done.map Pol.name) x.name q1 (by simp;omega)
   have q:List.take (n.toNat-0) (List.drop 0 ((s.pols.map Pol.name).map ah))=(done.map Pol.name).map ah:=by
    rw[e,hn];simp
   rw[q];exact h
  have h3:=GN s g done.length x (by simp[e])
  have h4:=IU k hf s g done.length x (by simp[e])
  rw[<-hn] at h3 h4;have ih:=λT H c=>wc k hf s g r (done++[x]) T H c (n+1) (by simp[e]) (by simp[hn])
  rw[eaE];generalize bq (done.map Pol.name) x.name=A at*
  by_cases a:A=0
  ·subst a
   rw[Ad rfl]
   by_cases b:64<x.terms.length
   ·rw[Ad b]
    refine evl ?_
    repeat' (first|refine bb ?_|refine kX [(1,_,_)] [] ⟨rfl,trivial⟩ trivial (h3) ?_|(refine ae ?_ ?_<;>intro h))
    (conv=>whnf);first|refine pW [(0,_,_),(1,_,_)] [] [true,true] ?_|refine pY [(0,_,_),(1,_,_)] [] [true,true] ?_
    rfl
   ·rw[Ac b]
    generalize plE k x=E at*
    by_cases h0:E=0
    ·subst h0
     rw[Ad rfl];refine evl ?_
     repeat' (first|refine bb ?_|refine kX [(1,_,_)] [] ⟨rfl,trivial⟩ trivial (h3) ?_|refine kX [(0,_,_),(1,_,_)] [] ⟨rfl,rfl,trivial⟩ trivial (h4) ?_|(refine ae ?_ ?_<;>intro h))
     refine au [16,2,1,0,14,15] [0,1] ?_;exact ih _ _ _
    ·rw[Ac h0]
     refine evl ?_
     repeat' (first|refine bb ?_|refine kX [(1,_,_)] [] ⟨rfl,trivial⟩ trivial (h3) ?_|refine kX [(0,_,_),(1,_,_)] [] ⟨rfl,rfl,trivial⟩ trivial (h4) ?_|(refine ae ?_ ?_<;>intro h))
     (conv=>whnf);first|refine pW [(0,_,_),(1,_,_)] [] [true,true] ?_|refine pY [(0,_,_),(1,_,_)] [] [true,true] ?_
     rfl
  ·rw[Ac a]
   refine evA ?_
   (conv=>whnf);first|refine pW [(0,_,_),(1,_,_)] [] [true,true] ?_|refine pY [(0,_,_),(1,_,_)] [] [true,true] ?_
   rfl
theorem IK (k:Kn)(hf:k.fit)(s:PSet)(g:s.good):ab G 508 [.sl 1 ((s.pols.map Pol.name).map ah),.fn 521 [.ref 1 0 0],.fn 522 [.ref 0 0 0,.ref 1 0 0]] [.cells k.enc,.cells s.enc] ⟨.int .i64 (if 64<s.pols.length then 4 else eaE Pol.name (λx:Pol=>x.terms.length) (plE k) [] s.pols),[(true,.cells k.enc),(true,.cells s.enc)]⟩:=by
 have gl:=g.d;have m1:((s.pols.map Pol.name).map ah).length=s.pols.length:=by simp
 by_cases c:64<s.pols.length
 ·rw[Ad c]
  refine gvB (F:=nr) ?_
  (conv=>whnf);first|refine pW [(0,_,_),(1,_,_)] [] [true,true] ?_|refine pY [(0,_,_),(1,_,_)] [] [true,true] ?_
  rfl
 ·rw[Ac c]
  refine gvB (F:=nr) ?_;refine au [16,2,1,0,14,15] [0,1] ?_;rw[m1];exact wc k hf s g s.pols [] _ _ _ 0 rfl rfl
end Go.AM.IR
namespace Go.AM.IR
theorem GF:bz ⟨0,0⟩=true:=by rfl
theorem yF: ∀(l:List PList)(k:List UInt8),(xm l k=none↔fk (l.map PList.name) k=false)
 | [],k=>by simp[xm,fk]
 |x::r,k=>by
  have ih:=yF r k
  by_cases h:x.name=k
  ·simp[xm,fk,h]
  ·simp only[xm,Ac h,ih];simp[fk,h]
theorem yL: ∀(l:List PathL)(k:List UInt8),(xn l k=none↔fk (l.map PathL.name) k=false)
 | [],k=>by simp[xn,fk]
 |x::r,k=>by
  have ih:=yL r k
  by_cases h:x.name=k
  ·simp[xn,fk,h]
  ·simp only[xn,Ac h,ih];simp[fk,h]
theorem zY: ∀(l:List ComL)(k:List UInt8),(yf l k=none↔fk (l.map ComL.name) k=false)
 | [],k=>by simp[yf,fk]
 |x::r,k=>by
  have ih:=zY r k
  by_cases h:x.name=k
  ·simp[yf,fk,h]
  ·simp only[yf,Ac h,ih];simp[fk,h]
theorem XW (s:PSet)(m:Mat):mtE (db s) m=KJ s m:=by
 have p1:=yF s.prefixes m.name;have p2:=yL s.paths m.name;have p3:=zY s.comms m.name;obtain ⟨kind,name,n,⟨pa,pl⟩,neg⟩:=m;dsimp only at p1 p2 p3;have hz:=GF;unfold mtE KJ db;dsimp only
 by_cases k1:kind=1
 ·subst k1
  simp (decide:=true) only[if_true,if_false,reduceIte];unfold mtN mat1;dsimp only
  by_cases c:n=0/\pa=0/\pl=0
  ·obtain ⟨rfl,rfl,rfl⟩:=c
   simp only[p1];cases fk (s.prefixes.map PList.name) name<;>simp[hz]
  ·rw[Ac c]
   (repeat' split)<;>first|rfl|(exfalso;(try simp only[ne_eq,AF] at*);omega)
 by_cases k2:kind=2
 ·subst k2
  simp (decide:=true) only[if_true,if_false,reduceIte];unfold mtN mat2;dsimp only
  by_cases c:n=0/\pa=0/\pl=0
  ·obtain ⟨rfl,rfl,rfl⟩:=c
   simp only[p2];cases fk (s.paths.map PathL.name) name<;>simp[hz]
  ·rw[Ac c]
   (repeat' split)<;>first|rfl|(exfalso;(try simp only[ne_eq,AF] at*);omega)
 by_cases k3:kind=3
 ·subst k3
  simp (decide:=true) only[if_true,if_false,reduceIte];unfold mtN mat3;dsimp only
  by_cases c:n=0/\pa=0/\pl=0
  ·obtain ⟨rfl,rfl,rfl⟩:=c
   simp only[p3];cases fk (s.comms.map ComL.name) name<;>simp[hz]
  ·rw[Ac c]
   (repeat' split)<;>first|rfl|(exfalso;(try simp only[ne_eq,AF] at*);omega)
 by_cases k7:kind=7
 ·subst k7
  simp (decide:=true) only[if_true,if_false,reduceIte];unfold mtH mat7;dsimp only
  by_cases c:name= []
  ·by_cases d:n=0
   ·simp only[c,d]
    cases bz ⟨pa,pl⟩<;>simp
   ·simp[c,d]
  ·simp[c]
 by_cases k4:kind=4
 ·subst k4
  simp (decide:=true) only[if_true,if_false,reduceIte];unfold mtR mat4;dsimp only
  by_cases c:name= []/\pa=0/\pl=0
  ·obtain ⟨rfl,rfl,rfl⟩:=c
   simp only[hz]
   (repeat' split)<;>first|rfl|(exfalso;simp_all;done)|(exfalso;simp_all;omega)
  ·rw[Ac c]
   (repeat' split)<;>first|rfl|(exfalso;simp_all;done)|(exfalso;simp_all;omega)
 by_cases k6:kind=6
 ·subst k6
  simp (decide:=true) only[if_true,if_false,reduceIte];unfold mtR mat6;dsimp only
  by_cases c:name= []/\pa=0/\pl=0
  ·obtain ⟨rfl,rfl,rfl⟩:=c
   simp only[hz]
   (repeat' split)<;>first|rfl|(exfalso;simp_all;done)|(exfalso;simp_all;omega)
  ·rw[Ac c]
   (repeat' split)<;>first|rfl|(exfalso;simp_all;done)|(exfalso;simp_all;omega)
 by_cases k8:kind=8
 ·subst k8
  simp (decide:=true) only[if_true,if_false,reduceIte];unfold mtR mat8;dsimp only
  by_cases c:name= []/\pa=0/\pl=0
  ·obtain ⟨rfl,rfl,rfl⟩:=c
   simp only[hz]
   (repeat' split)<;>first|rfl|(exfalso;simp_all;done)|(exfalso;simp_all;omega)
  ·rw[Ac c]
   (repeat' split)<;>first|rfl|(exfalso;simp_all;done)|(exfalso;simp_all;omega)
 by_cases k5:kind=5
 ·subst k5
  simp (decide:=true) only[if_true,if_false,reduceIte];unfold mtR mat5;dsimp only
  by_cases c:name= []/\pa=0/\pl=0
  ·obtain ⟨rfl,rfl,rfl⟩:=c
   simp only[hz]
   (repeat' split)<;>first|rfl|(exfalso;simp_all;done)|(exfalso;simp_all;omega)
  ·rw[Ac c]
   (repeat' split)<;>first|rfl|(exfalso;simp_all;done)|(exfalso;simp_all;omega)
 rw[Ac k1,Ac k2,Ac k3,Ac k7,Ac k4,Ac k6,Ac k8,Ac k5]
 (repeat' split)<;>first|rfl|(exfalso;omega)
end Go.AM.IR
namespace Go.AM.IR
theorem vO {α:Type}{f g:α->Int}(h: ∀x,f x=g x): ∀l:List α,bj f l=bj g l
 | []=>rfl
 |x::r=>by rw[bj,bj,h,vO h r]
theorem We (s:PSet)(d:List Trm)(t:Trm):eT (db s) d t=tE1 s d t:=by
 unfold eT tE1 BM tE2;rw[vO (XW s)]
theorem yu (s:PSet): ∀(r d:List Trm),ft (db s) d r=rX s d r
 | [],_=>rfl
 |t::r,d=>by rw[ft,rX,We,yu s r]
theorem Dp (name:List UInt8)(d:List (List UInt8))(b:List UInt8)(fst:Bool)(n:Int)(hd:if fst=true then d= [] else d.getLast?=some b):pQ name b fst n=if bq d name=0 then (if 64<n then 4 else 0) else bq d name:=by
 unfold pQ bq
 by_cases h:nmB name=false
 ·rw[Ad h,Ad h];rfl
 ·rw[Ac h,Ac h]
  cases fst
  ·simp only[A5,if_false] at hd
   rw[hd];dsimp only
   by_cases q:(Op.bytesLess name b||name==b)=true
   ·rw[Ad ⟨rfl,q⟩];simp only[Ad q];rfl
   ·rw[Ac (λw=>q w.2)];simp only[Ac q];rfl
  ·simp only[if_true] at hd
   subst hd;rw[Ac (by simp)];rfl
theorem jf {α β:Type}(rule:β->Int)(nm:α->List UInt8)(rules:α->List β): ∀(r d:List α)(b:List UInt8)(fst:Bool)(hd:if fst=true then d= [] else (d.map nm).getLast?=some b),
  eaE nm (λx=>(rules x).length) (λx=>bj rule (rules x)) d r=kn rule nm rules r b fst
 | [],_,_,_,_=>rfl
 |x::r,d,b,fst,hd=>by
  have hh:=Dp (nm x) (d.map nm) b fst ((rules x).length:Nat) (by cases fst<;>simp_all)
  have ih:=jf rule nm rules r (d++[x]) (nm x) false (by simp)
  rw[eaE,kn,hh,ih]
  by_cases a:bq (d.map nm) (nm x)=0
  ·rw[Ad a,Ad a]
   by_cases c:64<(rules x).length
   ·have c':(64:Int)<((rules x).length:Nat):=by omega
    simp[c,c']
   ·have c': ¬(64:Int)<((rules x).length:Nat):=by omega
    simp[c,c']
  ·rw[Ac a,Ac a,Ac a]
theorem qP (s:PSet): ∀(r d:List Pol)(b:List UInt8)(fst:Bool)(hd:if fst=true then d= [] else (d.map Pol.name).getLast?=some b),
  eaE Pol.name (λx=>x.terms.length) (plE (db s)) d r=uW s r b fst
 | [],_,_,_,_=>rfl
 |x::r,d,b,fst,hd=>by
  have hh:=Dp x.name (d.map Pol.name) b fst (x.terms.length:Nat) (by cases fst<;>simp_all)
  have ih:=qP s r (d++[x]) x.name false (by simp)
  rw[eaE,uW,hh,ih]
  by_cases a:bq (d.map Pol.name) x.name=0
  ·rw[Ad a,Ad a]
   by_cases c:64<x.terms.length
   ·have c':(64:Int)<(x.terms.length:Nat):=by omega
    simp[c,c']
   ·have c': ¬(64:Int)<(x.terms.length:Nat):=by omega
    rw[Ac c,plE,yu]
    by_cases e:rX s [] x.terms=0
    ·simp[c',e]
    ·simp[c',e]
  ·rw[Ac a,Ac a,Ac a]
end Go.AM.IR
namespace Go.AM.IR
def PS.txt:PS->List UInt8
 | .top p1 pa co po _=>bU ⟨p1,pa,co,po⟩
 | .pre p1 pa co po nm rl=>bU ⟨p1++[⟨nm,rl⟩],pa,co,po⟩
 | .pat p1 pa co po nm rl=>bU ⟨p1,pa++[⟨nm,rl⟩],co,po⟩
 | .com p1 pa co po nm rl=>bU ⟨p1,pa,co++[⟨nm,rl⟩],po⟩
 | .pol p1 pa co po nm ts=>bU ⟨p1,pa,co,po⟩++(iL++nm++[10]++aZ dZ ts)
 | .term p1 pa co po nm ts tn ms acs=>bU ⟨p1,pa,co,po⟩++(iL++nm++[10]++(aZ dZ ts++(iU++tn++[10]++(aZ gJ ms++aZ gQ acs))))
abbrev lE1 (d:List PList)(l:List PList):Int:=eaE PList.name (λx=>x.rules.length) (λx=>bj ruE x.rules) d l
abbrev lE2 (d:List PathL)(l:List PathL):Int:=eaE PathL.name (λx=>x.rules.length) (λx=>bj paE x.rules) d l
abbrev lE3 (d:List ComL)(l:List ComL):Int:=eaE ComL.name (λx=>x.rules.length) (λx=>bj dy x.rules) d l
abbrev lE4 (k:Kn)(d:List Pol)(l:List Pol):Int:=eaE Pol.name (λx=>x.terms.length) (plE k) d l
structure LOk (pre:List PList)(pa:List PathL)(co:List ComL):Prop where
 a:pre.length<=64/\lE1 [] pre=0
 b:pa.length<=64/\lE2 [] pa=0
 c:co.length<=64/\lE3 [] co=0
abbrev kn3 (pre:List PList)(pa:List PathL)(co:List ComL):Kn:=⟨pre.map PList.name,pa.map PathL.name,co.map ComL.name,[]⟩
def PS.good:PS->Prop
 | .top p1 pa co po so=>(so<=1->pa= [])/\(so<=2->co= [])/\(so<=3->po= [])/\LOk p1 pa co/\po.length<=64/\lE4 (kn3 p1 pa co) [] po=0
 | .pre p1 pa co po nm rl=>pa= []/\co= []/\po= []/\LOk (p1++[⟨nm,rl⟩]) pa co
 | .pat p1 pa co po nm rl=>co= []/\po= []/\LOk p1 (pa++[⟨nm,rl⟩]) co
 | .com p1 pa co po nm rl=>po= []/\LOk p1 pa (co++[⟨nm,rl⟩])
 | .pol p1 pa co po nm ts=>LOk p1 pa co/\po.length<64/\lE4 (kn3 p1 pa co) [] po=0/\bq (po.map Pol.name) nm=0/\ts.length<=64/\ft (kn3 p1 pa co) [] ts=0
 | .term p1 pa co po nm ts tn ms acs=>LOk p1 pa co/\po.length<64/\lE4 (kn3 p1 pa co) [] po=0/\bq (po.map Pol.name) nm=0/\ts.length<64/\ft (kn3 p1 pa co) [] ts=0/\nmB tn=true/\ts.any (λu=>u.name==tn)=false/\ms.length<=64/\bj (mtE (kn3 p1 pa co)) ms=0/\acs.length<=64/\bj il acs=0
theorem jt {α:Type}(f:α->Int)(x:α)(hx:f x=0): ∀l:List α,bj f l=0->bj f (l++[x])=0
 | [],_=>by rw[By,bj,Ad hx];rfl
 |y::r,h=>by
  rw[bj] at h;split at h
  ·rename_i hy;rw[B4,bj,Ad hy];exact jt f x hx r h
  ·rename_i hy;exact absurd h hy
theorem j9 {α:Type}(nm:α->List UInt8)(sz:α->Nat)(chk:α->Int)(x:α): ∀(l d:List α),eaE nm sz chk d l=0->bq ((d++l).map nm) (nm x)=0->sz x<=64->chk x=0->eaE nm sz chk d (l++[x])=0
 | [],d,_,h1,h2,h3=>by
  rw[BD] at h1;rw[By,eaE,Ad h1,Ac (by omega),Ad h3];rfl
 |y::r,d,h,h1,h2,h3=>by
  rw[eaE] at h;rw[B4,eaE];split at h
  ·rename_i ha
   rw[Ad ha];split at h
   ·cases h
   ·rename_i hb
    rw[Ac hb];split at h
    ·rename_i hc
     rw[Ad hc];exact j9 nm sz chk x r (d++[y]) h (by rw[AI];exact h1) h2 h3
    ·rename_i hc;exact absurd h hc
  ·rename_i ha;exact absurd h ha
theorem qc {α:Type}(nm:α->List UInt8)(sz:α->Nat)(chk:α->Int)(x:α): ∀(l d:List α),eaE nm sz chk d (l++[x])=0->eaE nm sz chk d l=0/\bq ((d++l).map nm) (nm x)=0/\sz x<=64/\chk x=0
 | [],d,h=>by
  rw[By,eaE] at h;rw[BD];split at h
  ·rename_i ha
   split at h
   ·cases h
   ·rename_i hb
    split at h
    ·rename_i hc;exact ⟨rfl,ha,by omega,hc⟩
    ·rename_i hc;exact absurd h hc
  ·rename_i ha;exact absurd h ha
 |y::r,d,h=>by
  rw[B4,eaE] at h;rw[eaE];split at h
  ·rename_i ha
   rw[Ad ha];split at h
   ·cases h
   ·rename_i hb
    rw[Ac hb];split at h
    ·rename_i hc
     rw[Ad hc];obtain ⟨q1,q2,q3⟩:=qc nm sz chk x r (d++[y]) h;rw[AI] at q2;exact ⟨q1,q2,q3⟩
    ·rename_i hc;exact absurd h hc
  ·rename_i ha;exact absurd h ha
theorem yv (k:Kn)(t:Trm): ∀(l d:List Trm),ft k d l=0->eT k (d++l) t=0->ft k d (l++[t])=0
 | [],d,_,h=>by
  rw[BD] at h;rw[By,ft,Ad h];rfl
 |y::r,d,h0,h=>by
  rw[ft] at h0;split at h0
  ·rename_i ha
   rw[B4,ft,Ad ha];exact yv k t r (d++[y]) h0 (by rw[AI];exact h)
  ·rename_i ha;exact absurd h0 ha
theorem Wg (a b c d d':List (List UInt8))(l:List Trm)(t:Trm):eT ⟨a,b,c,d⟩ l t=eT ⟨a,b,c,d'⟩ l t:=rfl
theorem ZH (a b c d d':List (List UInt8))(p:Pol):plE ⟨a,b,c,d⟩ p=plE ⟨a,b,c,d'⟩ p:=by
 have: ∀(r l:List Trm),ft ⟨a,b,c,d⟩ l r=ft ⟨a,b,c,d'⟩ l r:=by
  intro r
  induction r with
  |nil=>intro l;rfl
  |cons x r ih=>intro l;rw[ft,ft,ih,Wg a b c d d']
 unfold plE;rw[this]
theorem vG {so s:Int}{k:List (List UInt8)}{t:List UInt8}(h:hdE so s k t=0):so<=s/\bg t=true/\k.length<64/\bq k t=0:=by
 unfold hdE at h;split at h
 ·cases h
 ·rename_i h1
  split at h
  ·cases h
  ·rename_i h2
   split at h
   ·cases h
   ·rename_i h3;exact ⟨AF.mp h1,AF.mp h2,by omega,h⟩
theorem l5 {e:Int}{st st':PS}(h:hdO e st= .ok st'):e=0/\st'=st:=by
 unfold hdO at h;split at h
 ·rename_i he;cases h;exact ⟨he,rfl⟩
 ·cases h
theorem th (pre:List PList)(x:PList):bU ⟨pre++[x],[],[],[]⟩=bU ⟨pre,[],[],[]⟩++plT x:=by
 simp[bU,lj,aZ]
theorem tj (pre:List PList)(pa:List PathL)(x:PathL):bU ⟨pre,pa++[x],[],[]⟩=bU ⟨pre,pa,[],[]⟩++paT x:=by
 simp[bU,lj,aZ]
theorem tk (pre:List PList)(pa:List PathL)(co:List ComL)(x:ComL):bU ⟨pre,pa,co++[x],[]⟩=bU ⟨pre,pa,co,[]⟩++coT x:=by
 simp[bU,lj,aZ]
theorem Qv (pre:List PList)(pa:List PathL)(co:List ComL)(po:List Pol)(x:Pol):bU ⟨pre,pa,co,po++[x]⟩=bU ⟨pre,pa,co,po⟩++ew x:=by
 simp[bU,lj,aZ]
def Mg (st st':PS)(s:List UInt8):Prop:=st'.txt=st.txt++(s++[10])/\st'.good
theorem mi {pre:List PList}{pa:List PathL}{co:List ComL}{po:List Pol}{so:Int}{s:List UInt8}{st':PS}(h0:br (ag s).1≠0)(h:lu pre pa co po so (ag s).1 (ag s).2= .ok st')(g:PS.good (.top pre pa co po so)):Mg (.top pre pa co po so) st' s:=by
 obtain ⟨g1,g2,g3,⟨ga,gb,gc⟩,g4,g5⟩:=g;unfold lu at h;split at h
 ·rename_i hw
  obtain ⟨e,rfl⟩:=l5 h;obtain ⟨e1,e2,e3,e4⟩:=vG e;have hs:=cX s (mJ e2);rw[hw] at hs;obtain rfl:=g1 e1;obtain rfl:=g2 (by omega)
  obtain rfl:=g3 (by omega)
  refine ⟨?_,rfl,rfl,rfl,⟨?_,gb,gc⟩⟩
  ·show bU ⟨pre++[⟨(ag s).2,[]⟩],[],[],[]⟩=bU ⟨pre,[],[],[]⟩++(s++[10])
   rw[th]
   congr 1
   show qz++(ag s).2++[10]++[]=s++[10]
   rw[BD]
   congr 1
   exact hs.symm
  ·rw[At] at e3
   exact ⟨by simp;omega,j9 _ _ _ _ _ _ ga.2 e4 (by simp) rfl⟩
 split at h
 ·rename_i hw
  obtain ⟨e,rfl⟩:=l5 h;obtain ⟨e1,e2,e3,e4⟩:=vG e;have hs:=cX s (mJ e2);rw[hw] at hs;obtain rfl:=g2 e1;obtain rfl:=g3 (by omega)
  refine ⟨?_,rfl,rfl,⟨ga,?_,gc⟩⟩
  ·show bU ⟨pre,pa++[⟨(ag s).2,[]⟩],[],[]⟩=bU ⟨pre,pa,[],[]⟩++(s++[10])
   rw[tj]
   congr 1
   show qB++(ag s).2++[10]++[]=s++[10]
   rw[BD]
   congr 1
   exact hs.symm
  ·rw[At] at e3
   exact ⟨by simp;omega,j9 _ _ _ _ _ _ gb.2 e4 (by simp) rfl⟩
 split at h
 ·rename_i hw
  obtain ⟨e,rfl⟩:=l5 h;obtain ⟨e1,e2,e3,e4⟩:=vG e;have hs:=cX s (mJ e2);rw[hw] at hs;obtain rfl:=g3 e1;refine ⟨?_,rfl,⟨ga,gb,?_⟩⟩
  ·show bU ⟨pre,pa,co++[⟨(ag s).2,[]⟩],[]⟩=bU ⟨pre,pa,co,[]⟩++(s++[10])
   rw[tk]
   congr 1
   show qD++(ag s).2++[10]++[]=s++[10]
   rw[BD]
   congr 1
   exact hs.symm
  ·rw[At] at e3
   exact ⟨by simp;omega,j9 _ _ _ _ _ _ gc.2 e4 (by simp) rfl⟩
 ·rename_i h1 h2 h3
  have hw:=Vz h0 h1 h2 h3;obtain ⟨e,rfl⟩:=l5 h;obtain ⟨e1,e2,e3,e4⟩:=vG e;have hs:=cX s (mJ e2);rw[hw] at hs;rw[At] at e3;refine ⟨?_,⟨ga,gb,gc⟩,e3,g5,e4,by simp,rfl⟩
  show bU ⟨pre,pa,co,po⟩++(iL++(ag s).2++[10]++[])=bU ⟨pre,pa,co,po⟩++(s++[10])
  congr 1
  rw[BD]
  congr 1
  exact hs.symm
theorem jv {pre:List PList}{pa:List PathL}{co:List ComL}{po:List Pol}{nm:List UInt8}:(∀{rl:List RuleP},PS.good (.pre pre pa co po nm rl)->PS.good (.top (pre++[⟨nm,rl⟩]) pa co po 1))/\(∀{rl:List PathR},PS.good (.pat pre pa co po nm rl)->PS.good (.top pre (pa++[⟨nm,rl⟩]) co po 2))/\(∀{rl:List ComR},PS.good (.com pre pa co po nm rl)->PS.good (.top pre pa (co++[⟨nm,rl⟩]) po 3)):=by
 refine ⟨?_,?_,?_⟩
 ·rintro rl ⟨rfl,rfl,rfl,h⟩
  exact ⟨λ_=>rfl,λ_=>rfl,λ_=>rfl,h,by simp,rfl⟩
 ·rintro rl ⟨rfl,rfl,h⟩
  exact ⟨λq=>by omega,λ_=>rfl,λ_=>rfl,h,by simp,rfl⟩
 ·rintro rl ⟨rfl,h⟩
  exact ⟨λq=>by omega,λq=>by omega,λ_=>rfl,h,by simp,rfl⟩
theorem mT {α:Type}(f:α->List UInt8)(l:List α)(x:α):aZ f (l++[x])=aZ f l++f x:=by rw[lj,aZ,aZ,BD]
theorem M8 (st:PS)(s:List UInt8)(st':PS)(h:dp st s= .ok st')(g:st.good):Mg st st' s:=by
 cases st with
 |top pre pa co po so=>
  rw[dp] at h;split at h
  ·cases h
  ·rename_i h0;exact mi h0 h g
 |pre pre pa co po nm rl=>
  rw[dp] at h;split at h
  ·split at h
   ·cases h
   ·rename_i hz
    split at h
    ·cases h
    ·rename_i hl
     cases h;obtain ⟨k1,k2,k3⟩:=CU (AF.mp hz);obtain ⟨rfl,rfl,rfl,⟨ga,gb,gc⟩⟩:=g;obtain ⟨q1,q2,q3,q4⟩:=qc _ _ _ _ _ _ ga.2;have ga1:=ga.1;refine ⟨?_,rfl,rfl,rfl,⟨⟨by simpa using ga1,j9 _ _ _ _ _ _ q1 q2 (by simp;omega) (jt _ _ k3 _ q4)⟩,gb,gc⟩⟩
     show bU ⟨pre++[⟨nm,rl++[_]⟩],[],[],[]⟩=bU ⟨pre++[⟨nm,rl⟩],[],[],[]⟩++(s++[10])
     rw[th,th,AI]
     congr 1
     show qz++nm++[10]++aZ plL (rl++[_])=qz++nm++[10]++aZ plL rl++(s++[10])
     rw[mT,<-AI]
     congr 1
     unfold plL;rw[<-k1]
  ·rename_i h0
   obtain ⟨f1,f2⟩:=mi h0 h (jv.1 g);exact ⟨f1,f2⟩
 |pat pre pa co po nm rl=>
  rw[dp] at h;split at h
  ·split at h
   ·cases h
   ·rename_i b t hp
    split at h
    ·rename_i hr
     split at h
     ·cases h
     ·rename_i hl
      cases h;have ht:t≠ []:=by rintro rfl;rw[Ze] at hr;cases hr
      have k1:=u5 hp ht;obtain ⟨rfl,rfl,⟨ga,gb,gc⟩⟩:=g;obtain ⟨q1,q2,q3,q4⟩:=qc _ _ _ _ _ _ gb.2;have gb1:=gb.1;refine ⟨?_,rfl,rfl,⟨ga,⟨by simpa using gb1,j9 _ _ _ _ _ _ q1 q2 (by simp;omega) (jt _ _ (by unfold paE;rw[Ad hr]) _ q4)⟩,gc⟩⟩
      show bU ⟨pre,pa++[⟨nm,rl++[_]⟩],[],[]⟩=bU ⟨pre,pa++[⟨nm,rl⟩],[],[]⟩++(s++[10])
      rw[tj,tj,AI]
      congr 1
      show qB++nm++[10]++aZ paL (rl++[_])=qB++nm++[10]++aZ paL rl++(s++[10])
      rw[mT,<-AI]
      congr 1
      unfold paL;rw[<-k1]
    ·cases h
  ·rename_i h0
   obtain ⟨f1,f2⟩:=mi h0 h (jv.2.1 g);exact ⟨f1,f2⟩
 |com pre pa co po nm rl=>
  rw[dp] at h;split at h
  ·split at h
   ·cases h
   ·rename_i b t hp
    split at h
    ·rename_i hz
     cases h;obtain ⟨k1,k2,k3,k4⟩:=zT hz;have ht:t≠ []:=by rw[k1];simp
     have k0:=u5 hp ht;obtain ⟨rfl,⟨ga,gb,gc⟩⟩:=g;obtain ⟨q1,q2,q3,q4⟩:=qc _ _ _ _ _ _ gc.2;have gc1:=gc.1;refine ⟨?_,rfl,⟨ga,gb,⟨by simpa using gc1,j9 _ _ _ _ _ _ q1 q2 (by simp;omega) (jt _ _ k4 _ q4)⟩⟩⟩
     show bU ⟨pre,pa,co++[⟨nm,rl++[_]⟩],[]⟩=bU ⟨pre,pa,co++[⟨nm,rl⟩],[]⟩++(s++[10])
     rw[tk,tk,AI]
     congr 1
     show qD++nm++[10]++aZ coL (rl++[_])=qD++nm++[10]++aZ coL rl++(s++[10])
     rw[mT,<-AI]
     congr 1
     unfold coL;rw[k2,k0];generalize dH b t rl.length=z at k1;rw[k1];simp only[AI,B4,By]
    ·cases h
  ·rename_i h0
   obtain ⟨f1,f2⟩:=mi h0 h (jv.2.2 g);exact ⟨f1,f2⟩
 |pol pre pa co po nm ts=>
  obtain ⟨gL,g1,g2,g3,g4,g5⟩:=g
  have dfl: ∀v:Int,v=1∨v=2->s=wD++iM v->Mg (.pol pre pa co po nm ts) (.top pre pa co (po++[⟨nm,ts,v⟩]) 4) s:=by
   intro v hv hs;refine ⟨?_,λq=>by omega,λq=>by omega,λq=>by omega,gL,by simp;omega,j9 _ _ _ _ _ _ g2 g3 g4 ?_⟩
   ·show bU ⟨pre,pa,co,po++[⟨nm,ts,v⟩]⟩=bU ⟨pre,pa,co,po⟩++(iL++nm++[10]++aZ dZ ts)++(s++[10])
    rw[Qv,AI]
    congr 1
    show iL++nm++[10]++(aZ dZ ts++(wD++iM v++[10]))=_
    rw[hs];simp only[AI]
   ·unfold plE
    rw[Ad g5];unfold dfE;rw[Ac (by dsimp only;omega)]
  rw[dp] at h;split at h
  ·rename_i hd;cases h;exact dfl 1 (.inl rfl) (by rw[hd];rfl)
  split at h
  ·rename_i hd;cases h;exact dfl 2 (.inr rfl) (by rw[hd];rfl)
  split at h
  ·cases h
  rename_i hw;split at h
  ·cases h
  rename_i ho;split at h
  ·cases h
  rename_i hk;split at h
  ·cases h
  rename_i ht;cases h;have hs:=cX s (mJ (AF.mp ho));rw[AF.mp hw] at hs;have ht:=AF.mp ht;unfold eT at ht;split at ht
  ·cases ht
  rename_i hn;split at ht
  ·cases ht
  rename_i ha;refine ⟨?_,gL,g1,g2,g3,by omega,g5,by simpa using hn,by simpa using ha,by simp,rfl,by simp,rfl⟩
  show bU ⟨pre,pa,co,po⟩++(iL++nm++[10]++(aZ dZ ts++(iU++(ag s).2++[10]++([]++[]))))=bU ⟨pre,pa,co,po⟩++(iL++nm++[10]++aZ dZ ts)++(s++[10])
  have e:iU++(ag s).2=s:=hs.symm;rw[e];simp only[AI,BD]
 |term pre pa co po nm ts tn ms acs=>
  obtain ⟨gL,g1,g2,g3,g4,g5,g6,g7,g8,g9,g10,g11⟩:=g
  have vd: ∀v:Int,v=1∨v=2∨v=3->s=iM v->Mg (.term pre pa co po nm ts tn ms acs) (.pol pre pa co po nm (ts++[⟨tn,ms,acs,v⟩])) s:=by
   intro v hv hs;refine ⟨?_,gL,g1,g2,g3,by simp;omega,yv _ _ _ _ g5 ?_⟩
   ·show bU ⟨pre,pa,co,po⟩++(iL++nm++[10]++aZ dZ (ts++[⟨tn,ms,acs,v⟩]))=bU ⟨pre,pa,co,po⟩++(iL++nm++[10]++(aZ dZ ts++(iU++tn++[10]++(aZ gJ ms++aZ gQ acs))))++(s++[10])
    rw[mT,hs];unfold dZ;simp only[AI]
   ·rw[By]
    unfold eT;rw[Ac (by simp[g6]),Ac (by simp[g7])]
    unfold BM;rw[Ac (by simp only;omega),Ad g9]
    unfold tE3;rw[Ac (by simp only;omega),Ad g11]
    unfold vdE;rw[Ac (by simp only;omega)]
  rw[dp] at h;split at h
  ·rename_i hd;cases h;exact vd 1 (.inl rfl) (by rw[hd];rfl)
  split at h
  ·rename_i hd;cases h;exact vd 2 (.inr (.inl rfl)) (by rw[hd];rfl)
  split at h
  ·rename_i hd;cases h;exact vd 3 (.inr (.inr rfl)) (by rw[hd];rfl)
  split at h
  ·rename_i hw
   split at h
   ·cases h
   rename_i ha;split at h
   ·cases h
   rename_i x hm;split at h
   ·cases h
   rename_i hl;split at h
   ·cases h
   rename_i hv;cases h;obtain rfl:=List.length_eq_zero_iff.1 (AF.mp ha);have k1:=Og hm
   have hne:(ag s).2≠ []:=by
    intro q;rw[q] at hm;cases hm
   have hs:=cX s hne;rw[hw] at hs;refine ⟨?_,gL,g1,g2,g3,g4,g5,g6,g7,by simp;omega,jt _ _ (AF.mp hv) _ g9,g10,g11⟩
   show bU ⟨pre,pa,co,po⟩++(iL++nm++[10]++(aZ dZ ts++(iU++tn++[10]++(aZ gJ (ms++[x])++[]))))=bU ⟨pre,pa,co,po⟩++(iL++nm++[10]++(aZ dZ ts++(iU++tn++[10]++(aZ gJ ms++[]))))++(s++[10])
   have e:gJ x=s++[10]:=by
    unfold gJ;rw[hs];show _=oB++(ag s).2++[10]
    rw[k1];simp only[AI]
   rw[mT,e];simp only[AI,BD]
  split at h
  ·rename_i hw
   split at h
   ·cases h
   rename_i x hm;split at h
   ·cases h
   rename_i hl;split at h
   ·cases h
   rename_i hv;cases h;have k1:=Qc hm
   have hne:(ag s).2≠ []:=by
    intro q;rw[q] at hm;cases hm
   have hs:=cX s hne;rw[hw] at hs;refine ⟨?_,gL,g1,g2,g3,g4,g5,g6,g7,g8,g9,by simp;omega,jt _ _ (AF.mp hv) _ g11⟩
   show bU ⟨pre,pa,co,po⟩++(iL++nm++[10]++(aZ dZ ts++(iU++tn++[10]++(aZ gJ ms++aZ gQ (acs++[x])))))=bU ⟨pre,pa,co,po⟩++(iL++nm++[10]++(aZ dZ ts++(iU++tn++[10]++(aZ gJ ms++aZ gQ acs))))++(s++[10])
   have e:gQ x=s++[10]:=by
    unfold gQ;rw[hs];show _=BJ++(ag s).2++[10]
    rw[k1]
   rw[mT,e];simp only[AI,BD]
  ·cases h
theorem wo {pre:List PList}{pa:List PathL}{co:List ComL}{po:List Pol}(h:LOk pre pa co)(h1:po.length<=64)(h2:lE4 (kn3 pre pa co) [] po=0):iZ ⟨pre,pa,co,po⟩=0:=by
 obtain ⟨⟨a1,a2⟩,⟨b1,b2⟩,⟨c1,c2⟩⟩:=h;have e1:=jf ruE PList.name PList.rules pre [] [] true (by simp)
 have e2:=jf paE PathL.name PathL.rules pa [] [] true (by simp)
 have e3:=jf dy ComL.name ComL.rules co [] [] true (by simp)
 have e4:=qP ⟨pre,pa,co,po⟩ po [] [] true (by simp)
 have e5:plE (db ⟨pre,pa,co,po⟩)=plE (kn3 pre pa co):=funext λp=>ZH _ _ _ _ _ p
 rw[e5] at e4;have q1:lZ pre=0:=by unfold lZ;rw[Ac (by omega),<-e1];exact a2
 have q2:ni pa=0:=by unfold ni;rw[Ac (by omega),<-e2];exact b2
 have q3:lY co=0:=by unfold lY;rw[Ac (by omega),<-e3];exact c2
 unfold iZ;rw[Ad q1,Ad q2,Ad q3,Ac (by simp only;omega),<-e4]
 exact h2
theorem tr: ∀(rest:List UInt8)(st:PS)(n:Int)(acc done:List UInt8)(x:PSet)(m:Int),ir st n acc rest=(x,m,0)->0<=n->st.good->st.txt=done->m=0/\iZ x=0/\bU x=done++(acc++rest)
 | [],st,n,acc,done,x,m,h,hn,g,ht=>by
  unfold ir at h;split at h
  ·cases h
  rename_i ha;split at h
  ·cases h
  rename_i hp;cases h;obtain rfl:acc= []:=AF.mp ha;rw[BD,BD,<-ht];cases st with
  |top pre pa co po so=>exact ⟨rfl,wo g.2.2.2.1 g.2.2.2.2.1 g.2.2.2.2.2,rfl⟩
  |pre pre pa co po nm rl=>
   have g:=jv.1 g;exact ⟨rfl,wo g.2.2.2.1 g.2.2.2.2.1 g.2.2.2.2.2,rfl⟩
  |pat pre pa co po nm rl=>
   have g:=jv.2.1 g;exact ⟨rfl,wo g.2.2.2.1 g.2.2.2.2.1 g.2.2.2.2.2,rfl⟩
  |com pre pa co po nm rl=>
   have g:=jv.2.2 g;exact ⟨rfl,wo g.2.2.2.1 g.2.2.2.2.1 g.2.2.2.2.2,rfl⟩
  |pol pre pa co po nm ts=>exact absurd rfl hp
  |term pre pa co po nm ts tn ms acs=>exact absurd rfl hp
 |c::r,st,n,acc,done,x,m,h,hn,g,ht=>by
  rw[ir] at h;split at h
  ·rename_i hc
   rcases hs:dp st acc with e|st'
   ·rw[hs] at h
    dsimp only at h;rcases wL st acc with ⟨e',z,hz,ho,_⟩|⟨st',R,ho,_⟩
    ·rw[hs] at ho;cases ho;injection h with _ h2;injection h2 with _ h4;exact absurd h4 hz
    ·rw[hs] at ho;cases ho
   ·rw[hs] at h
    dsimp only at h;obtain ⟨f1,f2⟩:=M8 st acc st' hs g;obtain ⟨r1,r2,r3⟩:=tr r st' (n+1) [] (done++(acc++[10])) x m h (by omega) f2 (by rw[f1,ht])
    refine ⟨r1,r2,?_⟩;rw[r3,hc];simp only[AI,By,B4]
  ·obtain ⟨r1,r2,r3⟩:=tr r st n (acc++[c]) done x m h hn g ht
   refine ⟨r1,r2,?_⟩;rw[r3];simp only[AI,By,B4]
end Go.AM.IR
namespace Go.AM.IR
theorem b6: ∀a b:List (List AV),bJ (a++b)=bJ a+bJ b
 | [],b=>by rw[By,bJ,A6]
 |x::r,b=>by rw[B4,bJ,bJ,b6 r b];omega
theorem cM {α:Type}{P:α->Prop}{l:List α}{x:α}(h: ∀y∈l,P y)(hx:P x): ∀y∈l++[x],P y:=by
 intro y hy;rcases Cb.1 hy with q|q
 ·exact h y q
 ·obtain rfl:=Cc.1 q;exact hx
theorem lq {α:Type}{P:α->Prop}{l:List α}{x:α}(h: ∀y∈l++[x],P y):(∀y∈l,P y)/\P x:=⟨λy hy=>h y (by simp[hy]),h x (by simp)⟩
theorem bF {v:Int}(h: -1<=v)(h1:v<=4294967295):okI v:=⟨by omega,by omega⟩
theorem vP {v:Int}(h:0<=v)(h1:v<=4294967295):okU v:=⟨h,h1⟩
theorem yW {hd t:List UInt8}{ng:Bool}{x:Mat}(h:qY hd t ng=some x):x.ok/\x.name.length<=t.length:=by
 have hp:=Ju h;unfold qY at h;split at h
 ·cases h;exact ⟨⟨bF (by first|omega|(dsimp only;omega)) (by first|omega|(dsimp only;omega)),bF (by first|omega|(dsimp only;omega)) (by first|omega|(dsimp only;omega)),hp⟩,Be _⟩
 split at h
 ·cases h;exact ⟨⟨bF (by first|omega|(dsimp only;omega)) (by first|omega|(dsimp only;omega)),bF (by first|omega|(dsimp only;omega)) (by first|omega|(dsimp only;omega)),hp⟩,Be _⟩
 split at h
 ·cases h;exact ⟨⟨bF (by first|omega|(dsimp only;omega)) (by first|omega|(dsimp only;omega)),bF (by first|omega|(dsimp only;omega)) (by first|omega|(dsimp only;omega)),hp⟩,Be _⟩
 split at h
 ·obtain ⟨v,h1,h2,h3,rfl⟩:=im h;exact ⟨⟨bF (by first|omega|(dsimp only;omega)) (by first|omega|(dsimp only;omega)),bF (by first|omega|(dsimp only;omega)) h3,hp⟩,Nat.zero_le _⟩
 split at h
 ·obtain ⟨v,h1,h2,h3,rfl⟩:=im h;exact ⟨⟨bF (by first|omega|(dsimp only;omega)) (by first|omega|(dsimp only;omega)),bF (by first|omega|(dsimp only;omega)) h3,hp⟩,Nat.zero_le _⟩
 split at h
 ·obtain ⟨v,h1,h2,h3,rfl⟩:=im h;exact ⟨⟨bF (by first|omega|(dsimp only;omega)) (by first|omega|(dsimp only;omega)),bF (by first|omega|(dsimp only;omega)) h3,hp⟩,Nat.zero_le _⟩
 split at h
 ·obtain ⟨v,h1,h2,h3,rfl⟩:=im h;exact ⟨⟨bF (by first|omega|(dsimp only;omega)) (by first|omega|(dsimp only;omega)),bF (by first|omega|(dsimp only;omega)) h3,hp⟩,Nat.zero_le _⟩
 split at h
 ·split at h
  ·cases h;exact ⟨⟨bF (by first|omega|(dsimp only;omega)) (by first|omega|(dsimp only;omega)),bF (by first|omega|(dsimp only;omega)) (by first|omega|(dsimp only;omega)),hp⟩,Nat.zero_le _⟩
  ·cases h
 ·cases h
theorem Oe {s:List UInt8}{x:Mat}(h:ic s=some x):x.ok/\x.name.length<=s.length:=by
 unfold ic at h;have l1:=aW s;have l2:=aW (ag s).2;unfold qX at h;split at h
 ·split at h
  ·obtain ⟨a,b⟩:=yW h;exact ⟨a,by omega⟩
  ·cases h
 ·split at h
  ·obtain ⟨a,b⟩:=yW h;exact ⟨a,by omega⟩
  ·cases h
theorem Qb {s:List UInt8}{x:Actn}(h:jl s=some x):x.ok:=by
 have z:okI 0:=bF (by first|omega|(dsimp only;omega)) (by first|omega|(dsimp only;omega))
 have zu:okU 0:=vP (by decide) (by decide)
 unfold jl Gq at h;split at h
 ·obtain ⟨v,h1,h2,h3,rfl⟩:=ip h;exact ⟨bF (by first|omega|(dsimp only;omega)) (by first|omega|(dsimp only;omega)),bF (by first|omega|(dsimp only;omega)) h3,z,zu,zu⟩
 split at h
 ·obtain ⟨v,h1,h2,h3,rfl⟩:=ip h;exact ⟨bF (by first|omega|(dsimp only;omega)) (by first|omega|(dsimp only;omega)),bF (by first|omega|(dsimp only;omega)) h3,z,zu,zu⟩
 split at h
 ·obtain ⟨v,h1,h2,h3,rfl⟩:=ip h;exact ⟨bF (by first|omega|(dsimp only;omega)) (by first|omega|(dsimp only;omega)),bF (by first|omega|(dsimp only;omega)) h3,z,zu,zu⟩
 split at h
 ·obtain ⟨v,h1,h2,h3,rfl⟩:=ip h;exact ⟨bF (by first|omega|(dsimp only;omega)) (by first|omega|(dsimp only;omega)),bF (by first|omega|(dsimp only;omega)) h3,z,zu,zu⟩
 split at h
 ·split at h
  ·rename_i hz
   cases h;rcases J.paP_all (ag s).2 with q|⟨a,ha,ht,q⟩
   ·rw[q] at hz;cases hz
   ·rw[q];exact ⟨bF (by first|omega|(dsimp only;omega)) (by first|omega|(dsimp only;omega)),z,z,zu,vP (by simp only;omega) (by simp only;omega)⟩
  ·cases h
 split at h
 ·obtain ⟨v,h1,h2,h3,rfl⟩:=oa h;exact ⟨bF (by first|omega|(dsimp only;omega)) (by first|omega|(dsimp only;omega)),z,z,vP h2 h3,zu⟩
 split at h
 ·obtain ⟨v,h1,h2,h3,rfl⟩:=oa h;exact ⟨bF (by first|omega|(dsimp only;omega)) (by first|omega|(dsimp only;omega)),z,z,vP h2 h3,zu⟩
 split at h
 ·rcases ha:n32 (ag (ag s).2).1 with _|a
  ·rw[ha] at h;cases h
  rcases hb:n32 (ag (ag s).2).2 with _|b
  ·rw[ha,hb] at h;cases h
  ·rw[ha,hb] at h
   cases h;obtain ⟨a1,a2,a3⟩:=jQ ha;obtain ⟨b1,b2,b3⟩:=jQ hb;exact ⟨bF (by first|omega|(dsimp only;omega)) (by first|omega|(dsimp only;omega)),bF (by first|omega|(dsimp only;omega)) b3,bF (by first|omega|(dsimp only;omega)) a3,zu,zu⟩
 ·cases h
theorem Pm {b:Bool}{t:List UInt8}{n:Nat}(h:(dH b t n).1=0):(dH b t n).2.ok:=by
 obtain ⟨_,_,_,h4⟩:=zT h;unfold dy at h4
 repeat' split at h4
 all_goals first
  |(cases h4;done)
  |exact ⟨bF (by omega) (by omega),bF (by first|omega|(dsimp only;omega)) (by first|omega|(dsimp only;omega))⟩
theorem NI {s t:List UInt8}{b:Bool}(h:cR s=some (b,t)):t.length<=s.length:=by
 have:=aW s;unfold cR at h
 repeat' split at h
 all_goals first
  |(cases h;done)
  |(cases h;omega)
def PS.nice (st:PS)(m:Nat):Prop:=st.set.ok/\bkL st.set.enc<=m
def bkP (pre:List PList)(pa:List PathL)(co:List ComL)(po:List Pol):Nat:=bJ (pre.map PList.enc)+bJ (pa.map PathL.enc)+bJ (co.map ComL.enc)+bJ (po.map Pol.enc)+4
theorem fY (pre:List PList)(pa:List PathL)(co:List ComL)(po:List Pol):bkL (PSet.enc ⟨pre,pa,co,po⟩)=bkP pre pa co po:=by
 simp only[PSet.enc,bkL,AV.bk,bkP];omega
theorem mh {pre:List PList}{pa:List PathL}{co:List ComL}{po:List Pol}{so:Int}{s:List UInt8}{st':PS}{m:Nat}(h:lu pre pa co po so (ag s).1 (ag s).2= .ok st')(g:PSet.ok ⟨pre,pa,co,po⟩/\bkL (PSet.enc ⟨pre,pa,co,po⟩)<=m):st'.nice (m+10+s.length):=by
 have l1:=aW s;obtain ⟨⟨g1,g2,g3,g4⟩,g5⟩:=g;rw[fY,bkP] at g5;unfold lu at h;split at h
 ·obtain ⟨_,rfl⟩:=l5 h
  refine ⟨⟨cM g1 (by intro x hx;cases hx),g2,g3,g4⟩,?_⟩
  show bkL (PSet.enc ⟨pre++[⟨(ag s).2,[]⟩],pa,co,po⟩)<=_
  rw[fY,bkP,List.map_append,b6];simp only[Ao,Bd,bJ,PList.enc,bkL,AV.bk];omega
 split at h
 ·obtain ⟨_,rfl⟩:=l5 h
  refine ⟨⟨g1,cM g2 (by intro x hx;cases hx),g3,g4⟩,?_⟩
  show bkL (PSet.enc ⟨pre,pa++[⟨(ag s).2,[]⟩],co,po⟩)<=_
  rw[fY,bkP,List.map_append,b6];simp only[Ao,Bd,bJ,PathL.enc,bkL,AV.bk];omega
 split at h
 ·obtain ⟨_,rfl⟩:=l5 h
  refine ⟨⟨g1,g2,cM g3 (by intro x hx;cases hx),g4⟩,?_⟩
  show bkL (PSet.enc ⟨pre,pa,co++[⟨(ag s).2,[]⟩],po⟩)<=_
  rw[fY,bkP,List.map_append,b6];simp only[Ao,Bd,bJ,ComL.enc,bkL,AV.bk];omega
 ·obtain ⟨_,rfl⟩:=l5 h
  refine ⟨⟨g1,g2,g3,cM g4 ⟨(by intro x hx;cases hx),bF (by first|omega|(dsimp only;omega)) (by first|omega|(dsimp only;omega))⟩⟩,?_⟩
  show bkL (PSet.enc ⟨pre,pa,co,po++[⟨(ag s).2,[],0⟩]⟩)<=_
  rw[fY,bkP,List.map_append,b6];simp only[Ao,Bd,bJ,Pol.enc,bkL,AV.bk];omega
theorem M7 (st:PS)(s:List UInt8)(st':PS)(m:Nat)(h:dp st s= .ok st')(g:st.nice m):st'.nice (m+10+s.length):=by
 have l1:=aW s;cases st with
 |top pre pa co po so=>
  rw[dp] at h;split at h
  ·cases h
  ·exact mh h g
 |pre pre pa co po nm rl=>
  rw[dp] at h;split at h
  ·split at h
   ·cases h
   ·rename_i hz
    split at h
    ·cases h
    ·cases h
     obtain ⟨k1,k2,k3⟩:=CU (AF.mp hz);obtain ⟨⟨g1,g2,g3,g4⟩,g5⟩:=g;obtain ⟨i1,i2⟩:=lq g1;refine ⟨⟨cM i1 (cM i2 k2),g2,g3,g4⟩,?_⟩
     change bkL (PSet.enc ⟨pre++[⟨nm,rl⟩],pa,co,po⟩)<=_ at g5
     show bkL (PSet.enc ⟨pre++[⟨nm,rl++[_]⟩],pa,co,po⟩)<=_
     rw[fY,bkP,List.map_append,b6] at g5⊢;simp only[Ao,Bd,List.map_append,b6,bJ,PList.enc,RuleP.enc,bkL,AV.bk] at g5⊢;omega
  ·exact mh h g
 |pat pre pa co po nm rl=>
  rw[dp] at h;split at h
  ·split at h
   ·cases h
   ·rename_i b t hp
    have lt:=NI hp;split at h
    ·split at h
     ·cases h
     ·cases h
      obtain ⟨⟨g1,g2,g3,g4⟩,g5⟩:=g;obtain ⟨i1,i2⟩:=lq g2;refine ⟨⟨g1,cM i1 (cM i2 trivial),g3,g4⟩,?_⟩
      change bkL (PSet.enc ⟨pre,pa++[⟨nm,rl⟩],co,po⟩)<=_ at g5
      show bkL (PSet.enc ⟨pre,pa++[⟨nm,rl++[_]⟩],co,po⟩)<=_
      rw[fY,bkP,List.map_append,b6] at g5⊢;simp only[Ao,Bd,List.map_append,b6,bJ,PathL.enc,PathR.enc,bkL,AV.bk] at g5⊢;omega
    ·cases h
  ·exact mh h g
 |com pre pa co po nm rl=>
  rw[dp] at h;split at h
  ·split at h
   ·cases h
   ·rename_i b t hp
    split at h
    ·rename_i hz
     cases h;have k1:=Pm hz;obtain ⟨⟨g1,g2,g3,g4⟩,g5⟩:=g;obtain ⟨i1,i2⟩:=lq g3;refine ⟨⟨g1,g2,cM i1 (cM i2 k1),g4⟩,?_⟩
     change bkL (PSet.enc ⟨pre,pa,co++[⟨nm,rl⟩],po⟩)<=_ at g5
     show bkL (PSet.enc ⟨pre,pa,co++[⟨nm,rl++[_]⟩],po⟩)<=_
     rw[fY,bkP,List.map_append,b6] at g5⊢;simp only[Ao,Bd,List.map_append,b6,bJ,ComL.enc,ComR.enc,bkL,AV.bk] at g5⊢;omega
    ·cases h
  ·exact mh h g
 |pol pre pa co po nm ts=>
  obtain ⟨⟨g1,g2,g3,g4⟩,g5⟩:=g;obtain ⟨i1,i2⟩:=lq g4
  change bkL (PSet.enc ⟨pre,pa,co,po++[⟨nm,ts,0⟩]⟩)<=_ at g5
  rw[fY,bkP,List.map_append,b6] at g5;simp only[Ao,Bd,bJ,Pol.enc,bkL,AV.bk] at g5
  have dfl: ∀v:Int,v=1∨v=2->PS.nice (.top pre pa co (po++[⟨nm,ts,v⟩]) 4) (m+10+s.length):=by
   intro v hv;refine ⟨⟨g1,g2,g3,cM i1 ⟨i2.1,bF (by first|omega|(dsimp only;omega)) (by first|omega|(dsimp only;omega))⟩⟩,?_⟩
   show bkL (PSet.enc ⟨pre,pa,co,po++[⟨nm,ts,v⟩]⟩)<=_
   rw[fY,bkP,List.map_append,b6];simp only[Ao,Bd,bJ,Pol.enc,bkL,AV.bk];omega
  rw[dp] at h;split at h
  ·cases h;exact dfl 1 (.inl rfl)
  split at h
  ·cases h;exact dfl 2 (.inr rfl)
  split at h
  ·cases h
  split at h
  ·cases h
  split at h
  ·cases h
  split at h
  ·cases h
  cases h;refine ⟨⟨g1,g2,g3,cM i1 ⟨cM i2.1 ⟨(by intro x hx;cases hx),(by intro x hx;cases hx),bF (by first|omega|(dsimp only;omega)) (by first|omega|(dsimp only;omega))⟩,bF (by first|omega|(dsimp only;omega)) (by first|omega|(dsimp only;omega))⟩⟩,?_⟩
  show bkL (PSet.enc ⟨pre,pa,co,po++[⟨nm,ts++[⟨(ag s).2,[],[],0⟩],0⟩]⟩)<=_
  rw[fY,bkP,List.map_append,b6];simp only[Ao,Bd,List.map_append,b6,bJ,Pol.enc,Trm.enc,bkL,AV.bk];omega
 |term pre pa co po nm ts tn ms acs=>
  obtain ⟨⟨g1,g2,g3,g4⟩,g5⟩:=g;obtain ⟨i1,i2⟩:=lq g4;obtain ⟨j1,j2⟩:=lq i2.1
  change bkL (PSet.enc ⟨pre,pa,co,po++[⟨nm,ts++[⟨tn,ms,acs,0⟩],0⟩]⟩)<=_ at g5
  rw[fY,bkP,List.map_append,b6] at g5;simp only[Ao,Bd,List.map_append,b6,bJ,Pol.enc,Trm.enc,bkL,AV.bk] at g5
  have vd: ∀v:Int,v=1∨v=2∨v=3->PS.nice (.pol pre pa co po nm (ts++[⟨tn,ms,acs,v⟩])) (m+10+s.length):=by
   intro v hv;refine ⟨⟨g1,g2,g3,cM i1 ⟨cM j1 ⟨j2.1,j2.2.1,bF (by first|omega|(dsimp only;omega)) (by first|omega|(dsimp only;omega))⟩,bF (by first|omega|(dsimp only;omega)) (by first|omega|(dsimp only;omega))⟩⟩,?_⟩
   show bkL (PSet.enc ⟨pre,pa,co,po++[⟨nm,ts++[⟨tn,ms,acs,v⟩],0⟩]⟩)<=_
   rw[fY,bkP,List.map_append,b6];simp only[Ao,Bd,List.map_append,b6,bJ,Pol.enc,Trm.enc,bkL,AV.bk];omega
  rw[dp] at h;split at h
  ·cases h;exact vd 1 (.inl rfl)
  split at h
  ·cases h;exact vd 2 (.inr (.inl rfl))
  split at h
  ·cases h;exact vd 3 (.inr (.inr rfl))
  split at h
  ·split at h
   ·cases h
   split at h
   ·cases h
   rename_i x hm;split at h
   ·cases h
   split at h
   ·cases h
   cases h;obtain ⟨k1,k2⟩:=Oe hm;refine ⟨⟨g1,g2,g3,cM i1 ⟨cM j1 ⟨cM j2.1 k1,j2.2.1,j2.2.2⟩,i2.2⟩⟩,?_⟩;show bkL (PSet.enc ⟨pre,pa,co,po++[⟨nm,ts++[⟨tn,ms++[x],acs,0⟩],0⟩]⟩)<=_
   rw[fY,bkP,List.map_append,b6];simp only[Ao,Bd,List.map_append,b6,bJ,Pol.enc,Trm.enc,Mat.enc,bkL,AV.bk];omega
  split at h
  ·split at h
   ·cases h
   rename_i x hm;split at h
   ·cases h
   split at h
   ·cases h
   cases h;have k1:=Qb hm;refine ⟨⟨g1,g2,g3,cM i1 ⟨cM j1 ⟨j2.1,cM j2.2.1 k1,j2.2.2⟩,i2.2⟩⟩,?_⟩;show bkL (PSet.enc ⟨pre,pa,co,po++[⟨nm,ts++[⟨tn,ms,acs++[x],0⟩],0⟩]⟩)<=_
   rw[fY,bkP,List.map_append,b6];simp only[Ao,Bd,List.map_append,b6,bJ,Pol.enc,Trm.enc,Actn.enc,bkL,AV.bk];omega
  ·cases h
theorem lJ:dl.ok/\bkL dl.enc<=4:=⟨⟨(by intro x hx;cases hx),(by intro x hx;cases hx),(by intro x hx;cases hx),(by intro x hx;cases hx)⟩,by decide⟩
theorem tq: ∀(rest:List UInt8)(st:PS)(n:Int)(acc:List UInt8)(m:Nat),st.nice m->4<=m->(ir st n acc rest).1.ok/\bkL (ir st n acc rest).1.enc<=m+11* (acc.length+rest.length)
 | [],st,n,acc,m,g,hm=>by
  unfold ir;have z:=lJ;split
  ·exact ⟨z.1,by have:=z.2;simp only;omega⟩
  split
  ·exact ⟨z.1,by have:=z.2;simp only;omega⟩
  ·exact ⟨g.1,by have:=g.2;simp only;omega⟩
 |c::r,st,n,acc,m,g,hm=>by
  have z:=lJ;rw[ir];split
  ·rcases hs:dp st acc with e|st'
   ·exact ⟨z.1,by have:=z.2;simp only;omega⟩
   ·obtain ⟨a,b⟩:=tq r st' (n+1) [] (m+10+acc.length) (M7 st acc st' m hs g) (by omega)
    refine ⟨a,AN b ?_⟩;simp only[A9,As];omega
  ·obtain ⟨a,b⟩:=tq r st n (acc++[c]) m g hm
   refine ⟨a,AN b ?_⟩;simp only[Ar,As,A9];omega
theorem wO: ∀(rest:List UInt8)(st:PS)(n:Int)(acc:List UInt8)(x:PSet)(m e:Int),ir st n acc rest=(x,m,e)->e≠0->x=dl
 | [],st,n,acc,x,m,e,h,he=>by
  unfold ir at h;split at h
  ·cases h;rfl
  split at h
  ·cases h;rfl
  ·cases h;exact absurd rfl he
 |c::r,st,n,acc,x,m,e,h,he=>by
  rw[ir] at h;split at h
  ·rcases hs:dp st acc with e'|st'
   ·rw[hs] at h;cases h;rfl
   ·rw[hs] at h;exact wO r st' _ _ x m e h he
  ·exact wO r st _ _ x m e h he
theorem NJ (s:List UInt8)(h:s.length<=20000):(kM s).1.ok/\bkL (kM s).1.enc<=1048576:=by
 unfold kM;rw[Ac (by omega)]
 have z:=lJ;obtain ⟨a,b⟩:=tq s (.top [] [] [] [] 0) 0 [] 4 z (Be _);refine ⟨a,AN b ?_⟩;simp only[A9];omega
end Go.AM.IR
namespace Go.AM.IR
theorem rj (s:PSet)(h:bkL s.enc<=1048576)(ok:s.ok):s.good:=by
 have l1:=eO (enc:=PList.enc) (λx=>by have:=ur x;omega) s.prefixes
 have l2:=eO (enc:=PathL.enc) (λx=>by have:=uq x;omega) s.paths
 have l3:=eO (enc:=ComL.enc) (λx=>by have:=ym x;omega) s.comms
 have l4:=eO (enc:=Pol.enc) (λx=>by have:=PM x;omega) s.pols
 simp only[PSet.enc,bkL,AV.bk] at h;obtain ⟨o1,o2,o3,o4⟩:=ok;refine ⟨by omega,by omega,by omega,by omega,λx hx=>?_,λx hx=>?_,λx hx=>?_,λx hx=>?_⟩
 ·have m:=ik (enc:=PList.enc) hx
  have n:=eO FM x.rules;simp only[PList.enc,bkL,AV.bk] at m;exact ⟨by omega,by omega,o1 x hx⟩
 ·have m:=ik (enc:=PathL.enc) hx
  have n:=eO FP x.rules;simp only[PathL.enc,bkL,AV.bk] at m;refine ⟨by omega,by omega,λr hr=>?_⟩
  have k:=ik (enc:=PathR.enc) hr;simp only[PathR.enc,bkL,AV.bk] at k;omega
 ·have m:=ik (enc:=ComL.enc) hx
  have n:=eO JP x.rules;simp only[ComL.enc,bkL,AV.bk] at m;exact ⟨by omega,by omega,trivial⟩
 ·have m:=ik (enc:=Pol.enc) hx
  have n:=eO (enc:=Trm.enc) (λx=>by have:=FK x;omega) x.terms
  simp only[Pol.enc,bkL,AV.bk] at m;refine ⟨by omega,by omega,λt ht=>?_⟩
  have k:=ik (enc:=Trm.enc) ht;have n1:=eO (enc:=Mat.enc) (λx=>by have:=FQ x;omega) t.mats
  have n2:=eO (enc:=Actn.enc) (λx=>by have:=yn x;omega) t.acts
  simp only[Trm.enc,bkL,AV.bk] at k;exact ⟨by omega,by omega,by omega,λm hm=>(((o4 x hx).1 t ht).1 m hm).2.2⟩
theorem Sb (s:PSet):s.prefixes.length+s.paths.length+s.comms.length+s.pols.length<=bkL s.enc:=by
 have h3:=JO s;unfold uH at h3;omega
end Go.AM.IR
