/- What functions of this program give. -/
import Derived.Test.YtomphmeopjpejaaGreatDoorDataR
set_option linter.unusedVariables false
set_option linter.unusedSimpArgs false
set_option maxHeartbeats 4000000
set_option maxRecDepth 20000
namespace Go.AM.IR
deriving instance DecidableEq for RuleP,PathR,ComR,Mat,Actn,PList,PathL,ComL,Trm,Pol,PSet
section
variable {k:Eff->Prop} {kv:AV->Prop} {x y:Opd} {g key:Nat} {hg:Nat->Cl}
theorem Gv {ks:List LK}{neg v:Bool}{a b:B7}(he:eqL ks a b=some v)(h:k {res:=.bool (xor neg v)}): ∃e,aX (.eqs ks neg x y) g key [.agg a,.agg b] hg=some e/\k e:=⟨_,by show (eqL ks a b).map _=_;rw[he];rfl,h⟩
theorem xU {a b:B5}(n:a=b)(h:kv (.bool false)): ∃v,bm .neq (.str a) (.str b)=some v/\kv v:=⟨.bool false,by show some (AV.bool (!(a==b)))=_;simp[n],h⟩
end
theorem Vo (x y:RuleP):eqL [.bool,.int,.int,.int,.int] x.enc y.enc=some (decide (x=y)):=by
 rcases x with ⟨a,⟨p,q⟩,c,d⟩;rcases y with ⟨a',⟨p',q'⟩,c',d'⟩
 simp only[RuleP.enc,eqL,qD,if_true,Option.some.injEq];rw[Bool.eq_iff_iff];simp[and_assoc]
theorem Vp (x y:PathR):eqL [.bool,.str] x.enc y.enc=some (decide (x=y)):=by
 rcases x with ⟨a,b⟩;rcases y with ⟨a',b'⟩
 simp only[PathR.enc,eqL,qD,if_true,Option.some.injEq];rw[Bool.eq_iff_iff];simp[and_assoc]
theorem aaJ (x y:ComR):eqL [.bool,.int,.int] x.enc y.enc=some (decide (x=y)):=by
 rcases x with ⟨a,b,c⟩;rcases y with ⟨a',b',c'⟩
 simp only[ComR.enc,eqL,qD,if_true,Option.some.injEq];rw[Bool.eq_iff_iff];simp[and_assoc]
theorem adt (x y:Mat):eqL [.int,.str,.int,.int,.int,.bool] x.enc y.enc=some (decide (x=y)):=by
 rcases x with ⟨a,b,c,⟨p,q⟩,d⟩;rcases y with ⟨a',b',c',⟨p',q'⟩,d'⟩
 simp only[Mat.enc,eqL,qD,if_true,Option.some.injEq];rw[Bool.eq_iff_iff];simp[and_assoc]
theorem aaK (x y:Actn):eqL [.int,.int,.int,.int,.int] x.enc y.enc=some (decide (x=y)):=by
 rcases x with ⟨a,b,c,d,e⟩;rcases y with ⟨a',b',c',d',e'⟩
 simp only[Actn.enc,eqL,qD,if_true,Option.some.injEq];rw[Bool.eq_iff_iff];simp[and_assoc]
def Trm.fits (t:Trm):Prop:=t.mats.length<2^40/\t.acts.length<2^40
def Pol.fits (p:Pol):Prop:=p.terms.length<2^40/\ ∀t∈p.terms,t.fits
structure PSet.fits (s:PSet):Prop where
 a:s.prefixes.length<2^40
 b:s.paths.length<2^40
 c:s.comms.length<2^40
 d:s.pols.length<2^40
 a1: ∀x∈s.prefixes,x.rules.length<2^40
 b1: ∀x∈s.paths,x.rules.length<2^40
 c1: ∀x∈s.comms,x.rules.length<2^40
 d1: ∀x∈s.pols,x.fits
theorem abx (l:CL)(hl:l.length<2^40)(i:Int)(s:PList)(h0:0<=i)(hs:(l.map PList.enc)[i.toNat]? =some s.enc)(hi:i<l.length)(hsl:s.rules.length<2^40)(R:Bool)(go: ∀T H c,Ev G ⟨DB,⟨(14,.int .i64 (i+1))::(1,.sl 2 (l.map PList.enc))::(0,.sl 2 (l.map PList.enc))::(13,.int .i64 l.length)::T,H,c⟩,[.t 4],0⟩ ⟨.bool R,[]⟩): ∀(r d:DN)(T:TV)(H:az)(c:Nat)(n:Int)(e:s.rules=d++r)(hn:n=d.length),
  Ev G ⟨UV,⟨(49,.int .i64 n)::(5,.int .i64 i)::(1,.sl 2 (l.map PList.enc))::(0,.sl 2 (l.map PList.enc))::(13,.int .i64 l.length)::(14,.int .i64 i)::(48,.int .i64 s.rules.length)::T,H,c⟩,[.t 4],0⟩ ⟨.bool R,[]⟩
 | [],d,T,H,c,n,e,hn=>by
  have hd:=md0 e;refine evA ?_;refine au [14,1,0,13] [] ?_;exact go _ _ _
 |x::r,d,T,H,c,n,e,hn=>by
  have hd:=md e;have hla:=ml l PList.enc;have hl1:=ml s.rules RuleP.enc;have hx:=mx RuleP.enc e hn;have he:=Vo x x;rw[Ak rfl] at he;refine evl ?_
  repeat' ((conv=>whnf);first|refine Gv he ?_|refine aq ?_|apply ae<;>intro h)
  refine au [49,5,1,0,13,14,48] [] ?_;exact abx l hl i s h0 hs hi hsl R go r (d++[x]) _ _ _ (n+1) (by simp[e]) (by simp[hn])
theorem abn (l:CL)(hl:l.length<2^40)(hs: ∀x∈l,x.rules.length<2^40): ∀(r d:CL)(T:TV)(H:az)(c:Nat)(n:Int)(e:l=d++r)(hn:n=d.length),
  Ev G ⟨DB,⟨(14,.int .i64 n)::(1,.sl 2 (l.map PList.enc))::(0,.sl 2 (l.map PList.enc))::(13,.int .i64 l.length)::T,H,c⟩,[.t 4],0⟩ ⟨.bool true,[]⟩
 | [],d,T,H,c,n,e,hn=>by
  have hd:=md0 e;refine evA ?_;refine ap ?_;rfl
 |x::r,d,T,H,c,n,e,hn=>by
  have hd:=md e;have hla:=ml l PList.enc;have hx:=mx PList.enc e hn;have m1:=ml x.rules RuleP.enc;refine evl ?_
  repeat' ((conv=>whnf);first|refine xU rfl ?_|refine aq ?_|apply ae<;>intro h)
  refine au [49,5,1,0,13,14,48] [] ?_;rw[m1];exact abx l hl n x (by omega) hx (by omega) (hs x (by simp[e])) _ (λT H c=>abn l hl hs r (d++[x]) T H c (n+1) (by simp[e]) (by simp[hn])) x.rules [] _ _ _ 0 rfl rfl
theorem Mq (l:CL)(h1:l.length<2^40)(hs: ∀x∈l,x.rules.length<2^40):ag G 554 [.sl 2 (l.map PList.enc),.sl 2 (l.map PList.enc)] [] ⟨.bool true,[]⟩:=by
 have l1:=ml l PList.enc;refine gvB (F:=JD) ?_;refine au [14,1,0,13] [] ?_;rw[l1];exact abn l h1 hs l [] _ _ _ 0 rfl rfl
theorem abw (l:CO)(hl:l.length<2^40)(i:Int)(s:PathL)(h0:0<=i)(hs:(l.map PathL.enc)[i.toNat]? =some s.enc)(hi:i<l.length)(hsl:s.rules.length<2^40)(R:Bool)(go: ∀T H c,Ev G ⟨DA,⟨(14,.int .i64 (i+1))::(1,.sl 2 (l.map PathL.enc))::(0,.sl 2 (l.map PathL.enc))::(13,.int .i64 l.length)::T,H,c⟩,[.t 4],0⟩ ⟨.bool R,[]⟩): ∀(r d:DO)(T:TV)(H:az)(c:Nat)(n:Int)(e:s.rules=d++r)(hn:n=d.length),
  Ev G ⟨UT,⟨(49,.int .i64 n)::(5,.int .i64 i)::(1,.sl 2 (l.map PathL.enc))::(0,.sl 2 (l.map PathL.enc))::(13,.int .i64 l.length)::(14,.int .i64 i)::(48,.int .i64 s.rules.length)::T,H,c⟩,[.t 4],0⟩ ⟨.bool R,[]⟩
 | [],d,T,H,c,n,e,hn=>by
  have hd:=md0 e;refine evA ?_;refine au [14,1,0,13] [] ?_;exact go _ _ _
 |x::r,d,T,H,c,n,e,hn=>by
  have hd:=md e;have hla:=ml l PathL.enc;have hl1:=ml s.rules PathR.enc;have hx:=mx PathR.enc e hn;have he:=Vp x x;rw[Ak rfl] at he;refine evl ?_
  repeat' ((conv=>whnf);first|refine Gv he ?_|refine aq ?_|apply ae<;>intro h)
  refine au [49,5,1,0,13,14,48] [] ?_;exact abw l hl i s h0 hs hi hsl R go r (d++[x]) _ _ _ (n+1) (by simp[e]) (by simp[hn])
theorem abm (l:CO)(hl:l.length<2^40)(hs: ∀x∈l,x.rules.length<2^40): ∀(r d:CO)(T:TV)(H:az)(c:Nat)(n:Int)(e:l=d++r)(hn:n=d.length),
  Ev G ⟨DA,⟨(14,.int .i64 n)::(1,.sl 2 (l.map PathL.enc))::(0,.sl 2 (l.map PathL.enc))::(13,.int .i64 l.length)::T,H,c⟩,[.t 4],0⟩ ⟨.bool true,[]⟩
 | [],d,T,H,c,n,e,hn=>by
  have hd:=md0 e;refine evA ?_;refine ap ?_;rfl
 |x::r,d,T,H,c,n,e,hn=>by
  have hd:=md e;have hla:=ml l PathL.enc;have hx:=mx PathL.enc e hn;have m1:=ml x.rules PathR.enc;refine evl ?_
  repeat' ((conv=>whnf);first|refine xU rfl ?_|refine aq ?_|apply ae<;>intro h)
  refine au [49,5,1,0,13,14,48] [] ?_;rw[m1];exact abw l hl n x (by omega) hx (by omega) (hs x (by simp[e])) _ (λT H c=>abm l hl hs r (d++[x]) T H c (n+1) (by simp[e]) (by simp[hn])) x.rules [] _ _ _ 0 rfl rfl
theorem Mj (l:CO)(h1:l.length<2^40)(hs: ∀x∈l,x.rules.length<2^40):ag G 555 [.sl 2 (l.map PathL.enc),.sl 2 (l.map PathL.enc)] [] ⟨.bool true,[]⟩:=by
 have l1:=ml l PathL.enc;refine gvB (F:=JC) ?_;refine au [14,1,0,13] [] ?_;rw[l1];exact abm l h1 hs l [] _ _ _ 0 rfl rfl
theorem abv (l:CS)(hl:l.length<2^40)(i:Int)(s:ComL)(h0:0<=i)(hs:(l.map ComL.enc)[i.toNat]? =some s.enc)(hi:i<l.length)(hsl:s.rules.length<2^40)(R:Bool)(go: ∀T H c,Ev G ⟨Dy,⟨(14,.int .i64 (i+1))::(1,.sl 2 (l.map ComL.enc))::(0,.sl 2 (l.map ComL.enc))::(13,.int .i64 l.length)::T,H,c⟩,[.t 4],0⟩ ⟨.bool R,[]⟩): ∀(r d:DR)(T:TV)(H:az)(c:Nat)(n:Int)(e:s.rules=d++r)(hn:n=d.length),
  Ev G ⟨UR,⟨(49,.int .i64 n)::(5,.int .i64 i)::(1,.sl 2 (l.map ComL.enc))::(0,.sl 2 (l.map ComL.enc))::(13,.int .i64 l.length)::(14,.int .i64 i)::(48,.int .i64 s.rules.length)::T,H,c⟩,[.t 4],0⟩ ⟨.bool R,[]⟩
 | [],d,T,H,c,n,e,hn=>by
  have hd:=md0 e;refine evA ?_;refine au [14,1,0,13] [] ?_;exact go _ _ _
 |x::r,d,T,H,c,n,e,hn=>by
  have hd:=md e;have hla:=ml l ComL.enc;have hl1:=ml s.rules ComR.enc;have hx:=mx ComR.enc e hn;have he:=aaJ x x;rw[Ak rfl] at he;refine evl ?_
  repeat' ((conv=>whnf);first|refine Gv he ?_|refine aq ?_|apply ae<;>intro h)
  refine au [49,5,1,0,13,14,48] [] ?_;exact abv l hl i s h0 hs hi hsl R go r (d++[x]) _ _ _ (n+1) (by simp[e]) (by simp[hn])
theorem abl (l:CS)(hl:l.length<2^40)(hs: ∀x∈l,x.rules.length<2^40): ∀(r d:CS)(T:TV)(H:az)(c:Nat)(n:Int)(e:l=d++r)(hn:n=d.length),
  Ev G ⟨Dy,⟨(14,.int .i64 n)::(1,.sl 2 (l.map ComL.enc))::(0,.sl 2 (l.map ComL.enc))::(13,.int .i64 l.length)::T,H,c⟩,[.t 4],0⟩ ⟨.bool true,[]⟩
 | [],d,T,H,c,n,e,hn=>by
  have hd:=md0 e;refine evA ?_;refine ap ?_;rfl
 |x::r,d,T,H,c,n,e,hn=>by
  have hd:=md e;have hla:=ml l ComL.enc;have hx:=mx ComL.enc e hn;have m1:=ml x.rules ComR.enc;refine evl ?_
  repeat' ((conv=>whnf);first|refine xU rfl ?_|refine aq ?_|apply ae<;>intro h)
  refine au [49,5,1,0,13,14,48] [] ?_;rw[m1];exact abv l hl n x (by omega) hx (by omega) (hs x (by simp[e])) _ (λT H c=>abl l hl hs r (d++[x]) T H c (n+1) (by simp[e]) (by simp[hn])) x.rules [] _ _ _ 0 rfl rfl
theorem Mi (l:CS)(h1:l.length<2^40)(hs: ∀x∈l,x.rules.length<2^40):ag G 556 [.sl 2 (l.map ComL.enc),.sl 2 (l.map ComL.enc)] [] ⟨.bool true,[]⟩:=by
 have l1:=ml l ComL.enc;refine gvB (F:=JB) ?_;refine au [14,1,0,13] [] ?_;rw[l1];exact abl l h1 hs l [] _ _ _ 0 rfl rfl
theorem tl16 (s:Trm)(hsl:s.acts.length<2^40)(g1 g2:Nat): ∀(r d:C8)(T:TV)(H:az)(c:Nat)(n:Int)(e:s.acts=d++r)(hn:n=d.length),
  Ev G ⟨UQ,⟨(58,.int .i64 n)::(3,.ref 67 g2 0)::(2,.ref 66 g1 0)::(57,.int .i64 s.acts.length)::T,(66,some (g1,.cells s.enc))::(67,some (g2,.cells s.enc))::H,c⟩,[.t 4],0⟩ ⟨.bool true,[]⟩
 | [],d,T,H,c,n,e,hn=>by
  have hd:=md0 e;refine evA ?_;refine ap ?_;rfl
 |x::r,d,T,H,c,n,e,hn=>by
  have hd:=md e;have hl1:=ml s.acts Actn.enc;have hx:=mx Actn.enc e hn;have he:=aaK x x;rw[Ak rfl] at he;refine evl ?_
  repeat' ((conv=>whnf);first|refine Gv he ?_|refine aq ?_|apply ae<;>intro h)
  refine au [58,3,2,57] [66,67] ?_;exact tl16 s hsl  g1 g2 r (d++[x]) _ _ _ (n+1) (by simp[e]) (by simp[hn])
theorem tl9 (s:Trm)(hsl:s.mats.length<2^40)(hal:s.acts.length<2^40)(g1 g2:Nat): ∀(r d:C9)(T:TV)(H:az)(c:Nat)(n:Int)(e:s.mats=d++r)(hn:n=d.length),
  Ev G ⟨aac,⟨(40,.int .i64 n)::(3,.ref 67 g2 0)::(2,.ref 66 g1 0)::(39,.int .i64 s.mats.length)::T,(66,some (g1,.cells s.enc))::(67,some (g2,.cells s.enc))::H,c⟩,[.t 4],0⟩ ⟨.bool true,[]⟩
 | [],d,T,H,c,n,e,hn=>by
  have hd:=md0 e;have m1:=ml s.acts Actn.enc;refine evA ?_;refine au [58,3,2,57] [66,67] ?_;rw[m1];exact tl16 s hal g1 g2 s.acts [] _ _ _ 0 rfl rfl
 |x::r,d,T,H,c,n,e,hn=>by
  have hd:=md e;have hl1:=ml s.mats Mat.enc;have hx:=mx Mat.enc e hn;have he:=adt x x;rw[Ak rfl] at he;refine evl ?_
  repeat' ((conv=>whnf);first|refine Gv he ?_|refine aq ?_|apply ae<;>intro h)
  refine au [40,3,2,39] [66,67] ?_;exact tl9 s hsl hal g1 g2 r (d++[x]) _ _ _ (n+1) (by simp[e]) (by simp[hn])
theorem LW (s:Trm)(hs:s.fits):ag G 557 [.agg s.enc,.agg s.enc] [] ⟨.bool true,[]⟩:=by
 have m1:=ml s.mats Mat.enc;have m3:=ml s.acts Actn.enc;obtain ⟨q1,q2⟩:=hs;refine gvC (F:=JA) ?_
 repeat' ((conv=>whnf);first|refine xU rfl ?_|refine aq ?_|apply ae<;>intro h)
 refine au [40,3,2,39] [66,67] ?_;rw[m1];exact tl9 s q1 q2 _ _ s.mats [] _ _ _ 0 rfl rfl
theorem sl15 (s:PSet)(hl:s.pols.length<2^40)(i:Int)(p:Pol)(h0:0<=i)(hi:i<s.pols.length)(hp:p.fits)(g1 g2:Nat)(go: ∀T H c,Ev G ⟨DC,⟨(43,.int .i64 (i+1))::(3,.ref 67 2 0)::(2,.ref 66 1 0)::(42,.int .i64 s.pols.length)::T,(66,some (1,.cells s.enc))::(67,some (2,.cells s.enc))::H,c⟩,[.t 4],0⟩ ⟨.bool true,[]⟩): ∀(r d:C4)(T:TV)(H:az)(c:Nat)(n:Int)(e:p.terms=d++r)(hn:n=d.length),
  Ev G ⟨UX,⟨(80,.int .i64 n)::(7,.ref 71 g2 0)::(6,.ref 70 g1 0)::(3,.ref 67 2 0)::(2,.ref 66 1 0)::(42,.int .i64 s.pols.length)::(43,.int .i64 i)::(79,.int .i64 p.terms.length)::T,(66,some (1,.cells s.enc))::(67,some (2,.cells s.enc))::(70,some (g1,.cells p.enc))::(71,some (g2,.cells p.enc))::H,c⟩,[.t 4],0⟩ ⟨.bool true,[]⟩
 | [],d,T,H,c,n,e,hn=>by
  have hd:=md0 e;refine evA ?_;refine au [43,3,2,42] [66,67] ?_;exact go _ _ _
 |x::r,d,T,H,c,n,e,hn=>by
  have hq1:=hp.1;have hd:=md e;have hl1:=ml p.terms Trm.enc;have hx:=mx Trm.enc e hn;have he:=LW x (hp.2 x (by simp[e]))
  refine evA ?_;refine au [80,7,6,3,2,42,43,79] [66,67,70,71] ?_;exact sl15 s hl i p h0 hi hp g1 g2 go r (d++[x]) _ _ _ (n+1) (by simp[e]) (by simp[hn])
theorem sl17 (s:PSet)(hl:s.pols.length<2^40)(hs: ∀x∈s.pols,x.fits): ∀(r d:C0)(T:TV)(H:az)(c:Nat)(n:Int)(e:s.pols=d++r)(hn:n=d.length),
  Ev G ⟨DC,⟨(43,.int .i64 n)::(3,.ref 67 2 0)::(2,.ref 66 1 0)::(42,.int .i64 s.pols.length)::T,(66,some (1,.cells s.enc))::(67,some (2,.cells s.enc))::H,c⟩,[.t 4],0⟩ ⟨.bool true,[]⟩
 | [],d,T,H,c,n,e,hn=>by
  have hd:=md0 e;refine evA ?_;refine ap ?_;rfl
 |x::r,d,T,H,c,n,e,hn=>by
  have hd:=md e;have hla:=ml s.pols Pol.enc;have hx:=mx Pol.enc e hn;have m1:=ml x.terms Trm.enc;refine evl ?_
  repeat' ((conv=>whnf);first|refine xU rfl ?_|refine aq ?_|apply ae<;>intro h)
  refine au [80,7,6,3,2,42,43,79] [66,67,70,71] ?_;rw[m1];exact sl15 s hl n x (by omega) (by omega) (hs x (by simp[e])) _ _ (λT H c=>sl17 s hl hs r (d++[x]) T H c (n+1) (by simp[e]) (by simp[hn])) x.terms [] _ _ _ 0 rfl rfl
theorem O5 (s:PSet)(hs:s.fits):ag G 479 [.agg s.enc,.agg s.enc] [] ⟨.bool true,[]⟩:=by
 have h1:=Mq s.prefixes hs.a hs.a1;have h2:=Mj s.paths hs.b hs.b1;have h3:=Mi s.comms hs.c hs.c1;have m1:=ml s.pols Pol.enc;have hq1:=hs.d;refine gvB (F:=JF) ?_;refine au [43,3,2,42] [66,67] ?_;rw[m1];exact sl17 s hs.d hs.d1 s.pols [] _ _ _ 0 rfl rfl
def rN (most:Int):B5->Nat->CV
 | [],n=>some n
 |b::r,n=>if most<J.dval b∨(most- (J.dval b:Nat))/ 10<n then none else rN most r (10*n+J.dval b)
theorem TJ (most:Int): ∀(s:B5)(n:Nat),(n:Int)<=most->s.all J.dig=true->rN most s n=if (dc s n:Int)<=most then some (dc s n) else none
 | [],n,h,_=>by
  grind [dc,rN]
 |b::r,n,h,hd=>by
  simp only[B2,At] at hd;have hv:=(vJ hd.1).1;have e:dc (b::r) n=dc r (10*n+J.dval b):=rfl;have hle:=oD r (10*n+J.dval b);rw[rN,e]
  by_cases c:most<J.dval b∨(most- (J.dval b:Nat))/ 10<n
  ·grind
  ·rw[Aa c,TJ most r _ (by omega) hd.2]
theorem Dp: ∀(s:B5)(n:Nat),n<=9223372036854775807->s.all J.dig=true->J.foldN s n=if dc s n<=9223372036854775807 then some (dc s n) else none
 | [],n,h,_=>by
  grind [dc,J.foldN]
 |b::r,n,h,hd=>by
  simp only[B2,At] at hd;have hv:=(vJ hd.1).1;have e:dc (b::r) n=dc r (10*n+J.dval b):=rfl;have hle:=oD r (10*n+J.dval b);rw[J.foldN,e]
  by_cases c:n>(9223372036854775807-J.dval b)/ 10
  ·grind
  ·rw[Aa c,Dp r _ (by omega) hd.2]
def rNR:CV->Ret
 |some n=>J.nfR ((n:Int),0)
 |none=>J.nfR (0,5)
theorem acl (most:Int)(h0:0<=most)(h1:most<=9223372036854775807)(s:B5)(hc:J.canon s=true)(hd:s.all J.dig=true):rNR (rN most s 0)=J.nfR (J.fNum most s):=by
 unfold J.fNum;rw[Ac hc,TJ most s 0 (by omega) hd,Dp s 0 (by omega) hd]
 by_cases c:(dc s 0:Int)<=most
 ·rw[Ac c,Ac (by omega)]
  dsimp only;rw[Aa (by omega)];rfl
 ·rw[Aa c]
  by_cases d:dc s 0<=9223372036854775807
  ·rw[Ac d]
   dsimp only;rw[Ac (by omega)];rfl
  ·rw[Aa d];rfl
theorem sK (s:B5)(hs:s.length<2^40)(most:Int)(m0:0<=most)(m1:most<=4294967295): ∀(rest done:B5)(a:Nat)(T:TV)(H:az)(c:Nat)(n A:Int)(e:s=done++rest)(hn:n=done.length)(hA:A=a)(ha:(a:Int)<=most)(hd:rest.all J.dig=true),
  Ev G ⟨UY,⟨(8,.int .i64 n)::(7,.int .i64 A)::(1,.int .i64 most)::(0,.str s)::T,H,c⟩,[.t 4,.t 5],0⟩ (rNR (rN most rest a))
 | [],done,a,T,H,c,n,A,e,hn,hA,ha,hd=>by
  have hd:=md0 e;rw[rN,rNR];refine evA ?_;refine ap ?_;rw[hA];rfl
 |x::rest,done,a,T,H,c,n,A,e,hn,hA,ha,hdg=>by
  have hd:=md e;have hb:=J.idx_at e hn;simp only[B2,At] at hdg;obtain ⟨h1,h2⟩:48<=x.toNat/\x.toNat<=57:=by have:=hdg.1;simpa[J.dig] using this
  have hv:J.dval x<10:=by unfold J.dval;omega
  rw[rN]
  by_cases ho:most<J.dval x
  ·rw[Ac (.inl ho)]
   have ho2:((J.dval x:Nat):Int)>most:=ho;refine evl ?_
   repeat' ((conv=>whnf);first|refine J.zIstr ?_ hb (by omega)|refine J.zSub48 ?_ h1|refine aq ?_|apply ae<;>intro h)
   refine ap ?_;rfl
  by_cases hq:(most- (J.dval x:Nat))/ 10<a
  ·rw[Ac (.inr hq)]
   have ho2: ¬((J.dval x:Nat):Int)>most:=by omega
   have ho3:A>(most- ((J.dval x:Nat):Int))/ 10:=by omega
   refine evl ?_
   repeat' ((conv=>whnf);first|refine J.zIstr ?_ hb (by omega)|refine J.zSub48 ?_ h1|refine aq ?_|apply ae<;>intro h)
   refine ap ?_;rfl
  ·rw[Aa (λq=>q.elim ho hq)]
   have ho2: ¬((J.dval x:Nat):Int)>most:=by omega
   have ho3: ¬A>(most- ((J.dval x:Nat):Int))/ 10:=by omega
   refine evl ?_
   repeat' ((conv=>whnf);first|refine J.zIstr ?_ hb (by omega)|refine J.zSub48 ?_ h1|refine aq ?_|apply ae<;>intro h)
   refine au [8,7,1,0] [] ?_;exact sK s hs most m0 m1 rest (done++[x]) (10*a+J.dval x) _ _ _ (n+1) (10*A+(J.dval x:Nat)) (by simp[e]) (by simp[hn]) (by omega) (by omega) hdg.2
theorem nU (s:B5)(hs:s.length<2^40)(most:Int)(m0:0<=most)(m1:most<=4294967295): ∀(rest done:B5)(T:TV)(H:az)(c:Nat)(n:Int)(e:s=done++rest)(hn:n=done.length)(hd:done.all J.dig=true),
  Ev G ⟨aat,⟨(6,.int .i64 n)::(0,.str s)::(1,.int .i64 most)::T,H,c⟩,[.t 4,.t 5],0⟩ (if rest.all J.dig=true then rNR (rN most s 0) else J.nfR (0,2))
 | [],done,T,H,c,n,e,hn,hd=>by
  have hl:=md0 e;have hds:s.all J.dig=true:=by rw[e,Bb];exact hd
  rw[Ac (show ([]:B5).all J.dig=true from rfl)]
  refine evA ?_;refine au [8,7,1,0] [] ?_;exact sK s hs most m0 m1 s [] 0 _ _ _ 0 0 rfl rfl rfl (by omega) hds
 |x::rest,done,T,H,c,n,e,hn,hd=>by
  have hl:=md e;have hb:=J.idx_at e hn;rw[B2]
  by_cases h1:48<=x.toNat
  ·by_cases h2:x.toNat<=57
   ·have hx:J.dig x=true:=by simp[J.dig,h1,h2]
    rw[hx,By];refine evl ?_
    repeat' ((conv=>whnf);first|refine J.zIstr ?_ hb (by omega)|refine aq ?_|apply ae<;>intro h)
    refine au [6,0,1] [] ?_;exact nU s hs most m0 m1 rest (done++[x]) _ _ _ (n+1) (by simp[e]) (by simp[hn]) (by simp only[List.all_append,hd,By,B2,hx,List.all_nil])
   ·rw[show J.dig x=false from by simp[J.dig,h2],Bo,Aa (by decide)]
    refine evl ?_
    repeat' ((conv=>whnf);first|refine J.zIstr ?_ hb (by omega)|refine aq ?_|apply ae<;>intro h)
    refine ap ?_;rfl
  ·rw[show J.dig x=false from by simp[J.dig,h1],Bo,Aa (by decide)]
   refine evl ?_
   repeat' ((conv=>whnf);first|refine J.zIstr ?_ hb (by omega)|refine aq ?_|apply ae<;>intro h)
   refine ap ?_;rfl
theorem ku (s:B5)(hs:s.length<2^40)(most:Int)(m0:0<=most)(m1:most<=4294967295):ag G 475 [.str s,.int .i64 most] [] (J.nfR (J.fNum most s)):=by
 have fin: ∀t:B5,J.canon s=t.all J.dig->s.all J.dig=t.all J.dig->(if t.all J.dig=true then rNR (rN most s 0) else J.nfR (0,2))=J.nfR (J.fNum most s):=by
  intro t h1 h2
  by_cases hc:t.all J.dig=true
  ·rw[Ac hc,acl most m0 (by omega) s (by rw[h1,hc]) (by rw[h2,hc])]
  ·rw[Aa hc]
   unfold J.fNum;rw[Aa (by rw[h1];exact hc)]
 cases s with
 |nil=>
  have z: ∀{kv:AV->Prop},kv (.bool true)-> ∃v,bm .eql (.str []) (.str [])=some v/\kv v:=λh=>⟨_,rfl,h⟩
  refine gvC (F:=uz) ?_
  repeat' ((conv=>whnf);first|refine z ?_|refine aq ?_|apply ae<;>intro h)
  refine ap ?_;rfl
 |cons b r=>
  have z: ∀{kv:AV->Prop},kv (.bool false)-> ∃v,bm .eql (.str (b::r)) (.str [])=some v/\kv v:=λh=>⟨_,rfl,h⟩
  have hb:(b::r)[(0:Int).toNat]? =some b:=rfl;have hl:(b::r).length=r.length+1:=rfl;cases r with
  |nil=>
   rw[<-fin [b] (by simp[J.canon]) rfl]
   refine gvC (F:=uz) ?_
   repeat' ((conv=>whnf);first|refine z ?_|refine aq ?_|apply ae<;>intro h)
   refine au [6,0,1] [] ?_;exact nU [b] hs most m0 m1 [b] [] _ _ _ 0 rfl rfl rfl
  |cons d q=>
   have hl2:(b::d::q).length=q.length+2:=rfl
   by_cases hz:b=48
   ·subst hz
    have:J.fNum most (48::d::q)=(0,2):=by unfold J.fNum;rw[Aa (by simp[J.canon])]
    rw[this];refine gvC (F:=uz) ?_
    repeat' ((conv=>whnf);first|refine z ?_|refine J.zIstr (b:=48) ?_ hb (by omega)|refine aq ?_|apply ae<;>intro h)
    refine ap ?_;rfl
   ·have hz2: ¬(b.toNat:Int)=48:=by
     intro e;apply hz;apply A5.1
     show b.toNat=48
     omega
    rw[<-fin (b::d::q) (by simp[J.canon,hz]) rfl]
    refine gvC (F:=uz) ?_
    repeat' ((conv=>whnf);first|refine z ?_|refine J.zIstr (b:=b) ?_ hb (by omega)|refine aq ?_|apply ae<;>intro h)
    refine au [6,0,1] [] ?_;exact nU (b::d::q) hs most m0 m1 (b::d::q) [] _ _ _ 0 rfl rfl rfl
theorem dq (n:Int):ag G 633 [.int .i64 n] [] ⟨.int .i64 (if 64<n then 4 else 0),[]⟩:=by
 by_cases h:64<n
 ·rw[Ac h]
  exact gvA (F:=QX)
 ·rw[Aa h]
  exact gvA (F:=QX)
def pkR:Ds->Ret
 |some v=>⟨.tup [.int .i64 v,.bool true],[]⟩
 |none=>⟨.tup [.int .i64 0,.bool false],[]⟩
theorem YW {most:Int}{s:B5}(h:(J.fNum most s).2≠0):(J.fNum most s).1=0:=by
 grind [J.fNum]
theorem sM (s:B5)(hs:s.length<2^40):ag G 637 [.str s] [] (pkR (eN s)):=by
 have h1:=ku s hs 4294967295 (by decide) (by decide)
 unfold eN n32
 by_cases h:s= [42]
 ·subst h
  exact i8 100 rfl rfl (by kernel_rfl)
 ·rw[Aa h]
  have z: ∀{kv:AV->Prop},kv (.bool false)-> ∃v,bm .eql (.str s) (.str [42])=some v/\kv v:=λq=>⟨.bool false,by show some (AV.bool (s== [42]))=_;simp[h],q⟩
  have hb:=YW (most:=4294967295) (s:=s);unfold J.nfR at h1;generalize J.fNum 4294967295 s=p at*;obtain ⟨v,e⟩:=p;dsimp only at*
  by_cases he:e=0
  ·subst he
   rw[Ac rfl];refine gvC (F:=QV) ?_
   repeat' ((conv=>whnf);first|refine z ?_|refine aq ?_|apply ae<;>intro h)
   refine ap ?_;rfl
  ·rw[Aa he]
   obtain rfl:=hb he;refine gvC (F:=QV) ?_
   repeat' ((conv=>whnf);first|refine z ?_|refine fu he ?_|refine aq ?_|apply ae<;>intro h)
   refine ap ?_
   first|rfl|(rw[Al he];rfl)|(simp[he];rfl)
theorem qy (s p:B5)(hs:s.length<2^40)(hp:p.length<2^40):ag G 636 [.str s,.str p] [] (match kc s p with
 |some t=>⟨.tup [.str t,.bool true],[]⟩
 |none=>⟨.tup [.str [],.bool false],[]⟩):=by
 unfold kc
 by_cases h:p.length<s.length
 ·by_cases hq:s.take p.length=p
  ·rw[Ac ⟨h,hq⟩]
   have z: ∀{kv:AV->Prop},kv (.bool false)-> ∃v,bm .neq (.str (s.take p.length)) (.str p)=some v/\kv v:=λq=>⟨.bool false,by rw[hq];show some (AV.bool (p !=p))=_;simp,q⟩
   refine gvC (F:=Jw) ?_
   repeat' ((conv=>whnf);first|refine z ?_|refine aq ?_|apply ae<;>intro h)
   refine ap ?_;simp[List.take_of_length_le]
  ·rw[Aa (λq=>hq q.2)]
   have z: ∀{kv:AV->Prop},kv (.bool true)-> ∃v,bm .neq (.str (s.take p.length)) (.str p)=some v/\kv v:=λq=>⟨.bool true,by show some (AV.bool (s.take p.length !=p))=_;simp[hq],q⟩
   refine gvC (F:=Jw) ?_
   repeat' ((conv=>whnf);first|refine z ?_|refine aq ?_|apply ae<;>intro h)
   refine ap ?_;rfl
 ·rw[Aa (λq=>h q.1)]
  exact gvA (F:=Jw)
theorem ko (w:B5):ag G 632 [.str w] [] ⟨.int .i64 (cZ w),[]⟩:=by
 by_cases h1:w=cW
 ·subst h1;exact i8 400 rfl rfl (by kernel_rfl)
 by_cases h2:w=cU
 ·subst h2;exact i8 400 rfl rfl (by kernel_rfl)
 by_cases h3:w=ca
 ·subst h3;exact i8 400 rfl rfl (by kernel_rfl)
 have e:cZ w=0:=by unfold cZ;rw[Aa h1,Aa h2,Aa h3]
 have z: ∀(v:B5){kv:AV->Prop},w≠v->kv (.bool false)-> ∃x,bm .eql (.str v) (.str w)=some x/\kv x:=λv kv hn q=>⟨.bool false,by show some (AV.bool (v==w))=_;simp[show v≠w from λh=>hn h.symm],q⟩
 rw[e];refine gvC (F:=QY) ?_
 repeat' ((conv=>whnf);first|refine z cW h1 ?_|refine z cU h2 ?_|refine z ca h3 ?_|refine aq ?_|apply ae<;>intro h)
 refine evl ?_
 repeat' ((conv=>whnf);first|refine z cW h1 ?_|refine z cU h2 ?_|refine z ca h3 ?_|refine aq ?_|apply ae<;>intro h)
 refine evl ?_
 repeat' ((conv=>whnf);first|refine z cW h1 ?_|refine z cU h2 ?_|refine z ca h3 ?_|refine aq ?_|apply ae<;>intro h)
 refine evl ?_
 repeat' ((conv=>whnf);first|refine z cW h1 ?_|refine z cU h2 ?_|refine z ca h3 ?_|refine aq ?_|apply ae<;>intro h)
 refine evA ?_;refine ap ?_;rfl
def oT:B5->B5->CF
 | [],w=>[w]
 |c::r,w=>if c=32 then w::oT r [] else oT r (w++[c])
def pre1 (w:B5):CF->CF
 |x::l=>(w++x)::l
 | []=>[w]
theorem zO: ∀(s w:B5),oT s w=pre1 w (wds s)
 | [],w=>by grind [oT,wds,pre1]
 |c::r,w=>by
  rw[oT,wds]
  by_cases hc:c=32
  ·rw[Ac hc,Ac hc,zO r [],pre1,Bb]
   rcases hw:wds r with _|⟨x,l⟩
   ·grind [oO]
   ·rfl
  ·rw[Aa hc,Aa hc,zO r (w++[c])]
   grind [pre1]
theorem oQ (s:B5)(hs:s.length<2^30): ∀(rest done w:B5)(out:CF)(T:TV)(H:az)(c g:Nat)(i:Int)(e:s=done++rest)(hi:i=done.length)(hw:w.length<=done.length)(ho:out.length<=done.length),
  Ev G ⟨UL,⟨(5,.int .i64 i)::(4,.str w)::(3,.vs 83 g out.length)::(0,.str s)::T,(83,some (g,.vec 1 (out.map ah)))::H,c⟩,[.t 2],0⟩ ⟨.sl 1 ((out++oT rest w).map ah),[]⟩
 | [],done,w,out,T,H,c,g,i,e,hi,hw,ho=>by
  have hl:=md0 e;have m1:=ml out ah;rw[oT];refine evA ?_
  (conv=>whnf)
  refine lx [(83,_,Blk.vec 1 (out.map ah++[[AV.str w]]))] [2] [] ⟨rfl,(by simp[Blk.pure,dx,ab,aM,AV.pure]),trivial⟩ ?_
  iterate 8 (try ((conv=>whnf);first|refine ⟨rfl,?_⟩|refine ⟨(by first|(simp;done)|(simp[ab];done)),?_⟩))
  intro T H;have e2:(out++[w]).map ah=out.map ah++[[AV.str w]]:=by simp[ah]
  have hp:ab (out.map ah++[[AV.str w]])=true:=by simp[dx,ab,aM,AV.pure]
  rw[e2];show Ev G ⟨_,⟨(2,_)::T,H,_⟩,_,_⟩ _
  refine YU ?_ (ha:=hp);rfl
 |x::rest,done,w,out,T,H,c,g,i,e,hi,hw,ho=>by
  have hl:=md e;have m1:=ml out ah;have hb:=J.idx_at e hi;have hx:=x.toNat_lt;rw[oT]
  by_cases h:x=32
  ·subst h
   rw[Ac rfl];refine evl ?_
   repeat' ((conv=>whnf);first|refine J.zIstr (b:=32) ?_ hb (by omega)|refine aq ?_|apply ae<;>intro h)
   refine au [5,4,3,0] [83] ?_;have h:=oQ s hs rest (done++[32]) [] (out++[w]);have e1:(out++[w]).length=out.length+1:=by simp
   have e2:(out++[w]).map ah=out.map ah++[ah w]:=by simp
   have e3:(out++[w])++oT rest []=out++w::oT rest []:=by simp
   rw[e3,e1,e2] at h;exact h _ _ _ _ (i+1) (by simp[e]) (by simp[hi]) (by simp) (by simpa using ho)
  ·rw[Aa h]
   have hn: ¬(x.toNat:Int)=32:=λq=>h (A5.mp (by simpa using (by omega:x.toNat=32)))
   refine evl ?_
   have hsl:List.take ((i+1).toNat-i.toNat) (List.drop i.toNat s)= [x]:=by
    rw[show (i+1).toNat-i.toNat=1 by omega,show i.toNat=done.length by omega,e];simp
   repeat' ((conv=>whnf);first|refine J.zIstr ?_ hb (by omega)|refine zCat ?_|refine aq ?_|apply ae<;>intro h)
   refine au [5,4,3,0] [83] ?_;rw[hsl];exact oQ s hs rest (done++[x]) (w++[x]) out _ _ _ _ (i+1) (by simp[e]) (by simp[hi]) (by simp;omega) (by simp;omega)
theorem gU (s:B5)(hs:s.length<2^30):ag G 598 [.str s] [] ⟨.sl 1 ((wds s).map ah),[]⟩:=by
 have e:wds s= []++oT s []:=by
  rw[zO s []];rcases hw:wds s with _|⟨x,l⟩
  ·exact absurd hw (oO s)
  ·rfl
 rw[e];refine gvB (F:=Rm) ?_;refine cP 83 1 [(3,.vs 83 _ 0)] [] ⟨LeP.nilV _ _ _,trivial⟩ trivial ?_;refine au [5,4,3,0] [83] ?_;exact oQ s hs s [] [] [] _ _ _ _ 0 rfl rfl (by simp) (by simp)
def kR:CF:=[cH,cG,cz,ib,kM,fE,gy,ic]
def kOf (w:B5):CF->Int->Int->Int
 | [],_,k=>k
 |x::r,i,k=>kOf w r (i+1) (if w=x then i+1 else k)
def mRt (k:Int)(t:B5)(ng:Bool):Mat×Bool:=
 if k=0 then (⟨0,[],0,⟨0,0⟩,ng⟩,false) else if k<=3 then (⟨k,t,0,⟨0,0⟩,ng⟩,true) else
 if k=7 then (⟨k,[],0,(J.psR t).1,ng⟩,decide ((J.psR t).2=0)) else (⟨k,[],(J.fNum 4294967295 t).1,⟨0,0⟩,ng⟩,decide ((J.fNum 4294967295 t).2=0))
def Jd (x:Mat×Bool):Ret:=⟨.tup [.agg x.1.enc,.bool x.2],[]⟩
theorem om (w t:B5)(ht:t.length<2^40)(ng:Bool): ∀(rest done:CF)(k:Int)(T:TV)(H:az)(c g g2 g3:Nat)(i:Int)(e:kR=done++rest)(hi:i=done.length)(h0:0<=k)(h8:k<=8),
  Ev G ⟨UH,⟨(35,.int .i64 i)::(4,.ref 68 g 0)::(0,.sl 1 [[.str w],[.str t]])::(33,.vs 97 g3 8)::(2,.ref 66 g2 0)::(34,.int .i64 8)::T,(68,some (g,.cells [.int .i64 k,.str [],.int .i64 0,.int .u32 0,.int .i64 0,.bool ng]))::(66,some (g2,.cells [.int .i64 0,.str [],.int .i64 0,.int .u32 0,.int .i64 0,.bool false]))::(97,some (g3,.vec 1 (kR.map ah)))::H,c⟩,[.cell 2 (some 6),.t 3],0⟩ (Jd (mRt (kOf w rest i k) t ng))
 | [],done,k,T,H,c,g,g2,g3,i,e,hi,h0,h8=>by
  have hl:(8:Int)=i:=by rw[hi];have:=congrArg List.length e;simp[kR] at this;omega
  subst hl;have h1:=ku t ht 4294967295 (by decide) (by decide)
  have h2:=J.parse_gives234 t ht;unfold J.nfR at h1;rw[kOf,mRt]
  by_cases k0:k=0
  ·subst k0
   refine evA ?_;refine ap ?_;(conv=>whnf);refine Go.AM.finC ?_;rfl
  by_cases k3:k<=3
  ·rw[Aa k0,Ac k3]
   refine evA ?_;refine ap ?_;(conv=>whnf);refine Go.AM.finC ?_;rfl
  by_cases k7:k=7
  ·subst k7
   rw[Aa k0,Aa k3,Ac rfl];generalize J.psR t=p at*;obtain ⟨⟨pa,pl⟩,e⟩:=p;refine evA ?_;refine ap ?_;(conv=>whnf);refine Go.AM.finC ?_;rfl
  ·rw[Aa k0,Aa k3,Aa k7]
   generalize J.fNum 4294967295 t=p at*;obtain ⟨v,e⟩:=p;refine evA ?_;refine ap ?_;(conv=>whnf);refine Go.AM.finC ?_;rfl
 |x::rest,done,k,T,H,c,g,g2,g3,i,e,hi,h0,h8=>by
  have hl:done.length+(rest.length+1)=8:=by have:=congrArg List.length e;simp[kR] at this;omega
  have hx:(kR.map ah)[i.toNat]? =some [.str x]:=by rw[e,hi];simp[ah]
  have hm:(kR.map ah).length=8:=rfl;have hp:ab (kR.map ah)=true:=by simp
  rw[kOf];generalize hws:kR.map ah=ws at hx hm hp⊢
  by_cases h:w=x
  ·subst h
   rw[Ac rfl];refine evA ?_;refine au [35,4,0,33,2,34] [68,66,97] ?_;subst hws;exact om w t ht ng rest (done++[w]) (i+1) _ _ _ _ _ _ (i+1) (by simp[e]) (by simp[hi]) (by omega) (by omega)
  ·rw[Aa h]
   have z: ∀{kv:AV->Prop},kv (.bool false)-> ∃v,bm .eql (.str w) (.str x)=some v/\kv v:=λq=>⟨.bool false,by show some (AV.bool (w==x))=_;simp[h],q⟩
   refine evl ?_
   repeat' ((conv=>whnf);first|refine z ?_|refine aq ?_|apply ae<;>intro h)
   refine au [35,4,0,33,2,34] [68,66,97] ?_;subst hws;exact om w t ht ng rest (done++[x]) k _ _ _ _ _ _ (i+1) (by simp[e]) (by simp[hi]) h0 h8
section
variable (l:CF)(ng:Bool)
def mNo:Mat×Bool:=(⟨0,[],0,⟨0,0⟩,ng⟩,false)
def nW:Mat×Bool:=match l with
 | [k,t]=>if t= [] then mNo ng else mRt (kOf k kR 0 0) t ng
 |_=>mNo ng
def mtS:Mat×Bool:=match l with
 |w::r=>if w=bR then nW r true else nW l false
 | []=>mNo false
theorem qF (hl:l.length<2^40)(hs: ∀w∈l,w.length<2^40):ag G 634 [.sl 1 (l.map ah)] [] (Jd (mtS l)):=by
 have zN: ∀(a b:B5){kv:AV->Prop},a≠b->kv (.bool false)-> ∃v,bm .eql (.str a) (.str b)=some v/\kv v:=λa b kv h q=>⟨.bool false,by show some (AV.bool (a==b))=_;simp[h],q⟩
 have zY: ∀(a:B5){kv:AV->Prop},kv (.bool true)-> ∃v,bm .eql (.str a) (.str a)=some v/\kv v:=λa kv q=>⟨.bool true,by show some (AV.bool (a==a))=_;simp,q⟩
 rcases l with _|⟨w,r⟩
 ·refine gvB (F:=mZ) ?_
  refine ap ?_;(conv=>whnf);refine Go.AM.finC ?_;rfl
 rw[mtS]
 by_cases hw:w=bR
 ·subst hw
  rw[Ac rfl];rcases r with _|⟨k,_|⟨t,_|⟨x,r⟩⟩⟩
  ·simp only[An,A6,ah,bR]
   refine gvC (F:=mZ) ?_
   repeat' ((conv=>whnf);first|refine And.intro (by first|(simp;done)|(simp;omega)) ?_|refine zY _ ?_|refine aq ?_|apply ae<;>intro h)
   refine ap ?_;(conv=>whnf);refine Go.AM.finC ?_;rfl
  ·simp only[An,A6,ah,bR]
   refine gvC (F:=mZ) ?_
   repeat' ((conv=>whnf);first|refine And.intro (by first|(simp;done)|(simp;omega)) ?_|refine zY _ ?_|refine aq ?_|apply ae<;>intro h)
   refine ap ?_;(conv=>whnf);refine Go.AM.finC ?_;rfl
  ·have ht:=hs t (by simp)
   simp only[An,A6,ah,bR];rw[nW]
   by_cases h0:t= []
   ·subst h0
    rw[Ac rfl];refine gvC (F:=mZ) ?_
    repeat' ((conv=>whnf);first|refine And.intro (by first|(simp;done)|(simp;omega)) ?_|refine zY _ ?_|refine aq ?_|apply ae<;>intro h)
    refine ap ?_;(conv=>whnf);refine Go.AM.finC ?_;rfl
   ·rw[Aa h0]
    refine gvC (F:=mZ) ?_
    repeat' ((conv=>whnf);first|refine And.intro (by first|(simp;done)|(simp;omega)) ?_|refine zY _ ?_|refine zN t [] h0 ?_|refine aq ?_|apply ae<;>intro h)
    refine au [35,4,0,33,2,34] [68,66,97] ?_;exact om k t ht true kR [] 0 _ _ _ _ _ _ 0 rfl rfl (by decide) (by decide)
  ·have hr:r.length<2^40:=by simp at hl;omega
   have m1:=ml r ah;have p1:ab (r.map ah)=true:=by simp
   simp only[An,A6,ah,bR];rw[show nW (k::t::x::r) true=mNo true from rfl]
   generalize r.map ah=rr at*;have hrr:rr.length<2^40:=by omega
   have m2:([AV.str [110,111,116]]::[AV.str k]::[AV.str t]::[AV.str x]::rr).length=rr.length+4:=rfl;have m3:([AV.str k]::[AV.str t]::[AV.str x]::rr).length=rr.length+3:=rfl;refine gvC (F:=mZ) ?_
   repeat' ((conv=>whnf);first|refine And.intro (by first|(simp;done)|(simp;omega)) ?_|refine zY _ ?_|refine aq ?_|apply ae<;>intro h)
   refine ap ?_;(conv=>whnf);refine Go.AM.finC ?_;rfl
 ·rw[Aa hw]
  rcases r with _|⟨t,_|⟨x,r⟩⟩
  ·simp only[An,A6,ah]
   refine gvC (F:=mZ) ?_
   repeat' ((conv=>whnf);first|refine zN w bR hw ?_|refine And.intro (by first|(simp;done)|(simp;omega)) ?_|refine zY _ ?_|refine aq ?_|apply ae<;>intro h)
   refine ap ?_;(conv=>whnf);refine Go.AM.finC ?_;rfl
  ·have ht:=hs t (by simp)
   simp only[An,A6,ah];rw[nW]
   by_cases h0:t= []
   ·subst h0
    rw[Ac rfl];refine gvC (F:=mZ) ?_
    repeat' ((conv=>whnf);first|refine zN w bR hw ?_|refine And.intro (by first|(simp;done)|(simp;omega)) ?_|refine zY _ ?_|refine aq ?_|apply ae<;>intro h)
    refine ap ?_;(conv=>whnf);refine Go.AM.finC ?_;rfl
   ·rw[Aa h0]
    refine gvC (F:=mZ) ?_
    repeat' ((conv=>whnf);first|refine zN w bR hw ?_|refine zN t [] h0 ?_|refine aq ?_|apply ae<;>intro h)
    refine au [35,4,0,33,2,34] [68,66,97] ?_;exact om w t ht false kR [] 0 _ _ _ _ _ _ 0 rfl rfl (by decide) (by decide)
  ·have hr:r.length<2^40:=by simp at hl;omega
   have m1:=ml r ah;have p1:ab (r.map ah)=true:=by simp
   simp only[An,A6,ah];rw[show nW (w::t::x::r) false=mNo false from rfl]
   generalize r.map ah=rr at*;have hrr:rr.length<2^40:=by omega
   have m2:([AV.str w]::[AV.str t]::[AV.str x]::rr).length=rr.length+3:=rfl;refine gvC (F:=mZ) ?_
   repeat' ((conv=>whnf);first|refine zN w bR hw ?_|refine And.intro (by first|(simp;done)|(simp;omega)) ?_|refine zY _ ?_|refine aq ?_|apply ae<;>intro h)
   refine ap ?_;(conv=>whnf);refine Go.AM.finC ?_;rfl
end
end Go.AM.IR
namespace Go.AM.IR.J
def wU (s:B5):Int×Int:=if (cg s 4 0 0 0).2=s.length then ((cg s 4 0 0 0).1,0) else (0,2)
theorem IM {x:Nat}(hx:x<4294967296):wU (dots x)=((x:Int),0):=by
 have:=OE (s:=dots x) (rest:=[]) hx (by simp) (.inl rfl)
 unfold wU;rw[this,Ac rfl]
theorem Xm (s:B5):wU s=(0,2)∨ ∃x:Nat,x<4294967296/\s=dots x/\wU s=((x:Int),0):=by
 by_cases h:(cg s 4 0 0 0).2=s.length
 ·right
  rcases CG s with e|⟨x,hx,e,hl,ea⟩
  ·rw[e] at h;simp only at h;omega
  ·have hq:s=dots x:=by
    rw[ea] at h;have h2:(dots x).length=s.length:=by simp only at h;omega
    rw[h2,List.drop_length,Bb] at e;exact e
   exact ⟨x,hx,hq,by rw[hq];exact IM hx⟩
 ·left;unfold wU;rw[Aa h]
theorem acy (s:B5):wU s=paP s:=by
 rcases Xm s with e|⟨x,hx,es,e⟩
 ·rcases paP_all s with q|⟨x,hx,es,q⟩
  ·rw[e,q]
  ·rw[es,IM hx] at e;cases e
 ·rw[e,es,NT hx]
theorem padP_gives232 (s:B5)(hs:s.length<2^40):ag G 232 [.str s] [] (okA (paP s)):=by
 have ha:=p6 s hs;rw[<-acy];unfold wU;generalize cg s 4 0 0 0=p at*;obtain ⟨x,a⟩:=p
 by_cases h:a=s.length
 ·rw[Ac h]
  exact gvA (F:=RJ)
 ·rw[Aa h]
  exact gvA (F:=RJ)
end Go.AM.IR.J
namespace Go.AM.IR
def xH:B5->Nat->Nat->DG
 | [],a,b=>some (a,b)
 |c::r,a,b=>if J.dig c=true/\b<=65535 then xH r a (10*b+J.dval c) else none
def oa:B5->Nat->DG
 | [],a=>some (a,0)
 |c::r,a=>if J.dig c=true/\a<=65535 then oa r (10*a+J.dval c) else if c=58 then xH r a 0 else none
def ld (s:B5):DG->Ret
 |none=>cmR none
 |some (a,b)=>if a<=65535/\b<=65535/\gQ (a*65536+b)=s then cmR (some ((a*65536+b:Nat):Int)) else cmR none
def cms:Cc:=[4294901760,4294967041,4294967042,4294967043]
def Ch (x:Nat):B7:=[.int .u32 (x:Int)]
def cF (s:B5):Cc->Ret
 | []=>ld s (oa s 0)
 |x::r=>if gQ x=s then cmR (some (x:Int)) else cF s r
theorem KW: ∀(d:B5)(a b:Nat),d.all J.dig=true->dc d b<=65535->xH d a b=some (a,dc d b)
 | [],a,b,_,_=>rfl
 |c::r,a,b,hd,hv=>by
  simp only[B2,At] at hd;have e:dc (c::r) b=dc r (10*b+J.dval c):=rfl;have hle:=oD r (10*b+J.dval c);rw[e] at hv⊢;rw[xH,Ac ⟨hd.1,by omega⟩]
  exact KW r a _ hd.2 hv
theorem KX: ∀(d:B5)(a:Nat)(r:B5),d.all J.dig=true->dc d a<=65535->oa (d++r) a=oa r (dc d a)
 | [],a,r,_,_=>rfl
 |c::d,a,r,hd,hv=>by
  simp only[B2,At] at hd;have e:dc (c::d) a=dc d (10*a+J.dval c):=rfl;have hle:=oD d (10*a+J.dval c);rw[e] at hv⊢;rw[BD,oa,Ac ⟨hd.1,by omega⟩]
  exact KX d _ r hd.2 hv
theorem Gw {n:Nat}(h:n<=4294967295):dc (am (n:Int)) 0=n:=by
 have h1:=uy (n:=n) (most:=4294967295) (by omega) (by omega)
 unfold J.fNum at h1;split at h1
 ·split at h1
  ·cases h1
  ·rename_i m hm
   have:=ux _ _ _ hm;split at h1
   ·cases h1
   ·rename_i q
    have:((m:Int),(0:Int))=((n:Int),0):=h1;have:(m:Int)=n:=congrArg Prod.fst this;omega
 ·cases h1
theorem adF (s:B5)(hn: ∀x∈cms,gQ x≠s):ld s (oa s 0)=cmR (cmP s):=by
 rcases hc:cmP s with _|v
 ·rcases oa s 0 with _|⟨a,b⟩
  ·rfl
  ·rw[ld]
   split
   ·rename_i h
    have:=Ox (v:=((a*65536+b:Nat):Int)) (by omega) (by omega)
    rw[Int.toNat_natCast,h.2.2,hc] at this;cases this
   ·rfl
 ·obtain ⟨h1,h2,h3⟩:=Ky hc
  obtain ⟨x,rfl⟩: ∃x:Nat,v=x:=⟨v.toNat,by omega⟩
  rw[Int.toNat_natCast] at h1;have n1: ∀y∈cms,¬(x:Int)=(y:Int):=λy hy q=>hn y hy (by rw[h1,show x=y by omega])
  have n2: ¬(x:Int)=4294901760:=by have:=n1 4294901760 (by decide);omega
  have n3: ¬(x:Int)=4294967041:=by have:=n1 4294967041 (by decide);omega
  have n4: ¬(x:Int)=4294967042:=by have:=n1 4294967042 (by decide);omega
  have n5: ¬(x:Int)=4294967043:=by have:=n1 4294967043 (by decide);omega
  have e:s=am ((x/ 65536:Nat):Int)++58::am ((x % 65536:Nat):Int):=by
   rw[h1];unfold gQ
   rw[Aa n2,Aa n3,Aa n4,Aa n5]
  have va:=Gw (n:=x/ 65536) (by omega)
  have vb:=Gw (n:=x % 65536) (by omega)
  have e2:oa s 0=some (x/ 65536,x % 65536):=by
   rw[e,KX _ _ _ (kW (by omega) (by omega)) (by rw[va];omega),va,oa,Aa (λq=>absurd q.1 (by decide)),Ac rfl,KW _ _ _ (kW (by omega) (by omega)) (by rw[vb];omega),vb]
  have e3:x/ 65536*65536+x % 65536=x:=by omega
  rw[e2,ld,Ac ⟨by omega,by omega,by rw[e3];exact h1.symm⟩,e3]
theorem abG (s:B5): ∀l:Cc,(∀x∈l,x<=4294967295)->(∀x∈cms,x∈l∨gQ x≠s)->cF s l=cmR (cmP s)
 | [],_,h=>by rw[cF];exact adF s λx hx=>(h x hx).elim (λq=>by cases q) id
 |x::r,hl,h=>by
  rw[cF]
  by_cases c:gQ x=s
  ·have:=Ox (v:=(x:Int)) (by omega) (by have:=hl x (by simp);omega)
   rw[Int.toNat_natCast,c] at this;rw[Ac c,this]
  ·rw[Aa c]
   exact abG s r (λy hy=>hl y (by simp[hy])) λy hy=>by
    rcases h y hy with q|q
    ·rcases AI.1 q with rfl|q
     ·exact .inr c
     ·exact .inl q
    ·exact .inr q
theorem wt (s:B5)(hs:s.length<2^30): ∀(rest done:B5)(a b:Nat)(T:TV)(H:az)(c g:Nat)(i A B:Int)(e:s=done++rest)(hi:i=done.length)(hA:A=a)(hB:B=b)(ha:a<=655359)(hb:b<=655359),
  Ev G ⟨Du,⟨(8,.int .i64 i)::(6,.ref 70 g 0)::(0,.str s)::(7,.int .i64 1)::T,(70,some (g,.cells [.int .i64 A,.int .i64 B]))::H,c⟩,[.t 2,.t 3],0⟩ (ld s (xH rest a b))
 | [],done,a,b,T,H,c,g,i,A,B,e,hi,hA,hB,ha,hb=>by
  have hl:=md0 e;subst hA;subst hB
  rw[xH,ld]
  by_cases c1:a<=65535
  case neg=>
   rw[Aa (λq=>c1 q.1)]
   refine evA ?_;refine ap ?_;rfl
  by_cases c2:b<=65535
  case neg=>
   rw[Aa (λq=>c2 q.2.1)]
   refine evA ?_;refine ap ?_;rfl
  have hA:a<65536:=by omega
  obtain ⟨x,hx⟩: ∃x,x=a*65536:=⟨_,rfl⟩
  obtain ⟨y,hy⟩: ∃y,y=a*65536+b:=⟨_,rfl⟩
  have tc:=pH y (by omega)
  have hS: ∀{kv:AV->Prop},kv (.int .u32 (x:Int))-> ∃v,bm .shl (.int .u32 (a:Int)) (.int .u64 16)=some v/\kv v:=λh=>Ab hA (by rw[<-hx];exact h)
  have hw: ∀{kv:AV->Prop},kv (.int .u32 (y:Int))-> ∃v,bm .add (.int .u32 (x:Int)) (.int .u32 (b:Int))=some v/\kv v:=λh=>⟨_,by show some (AV.int .u32 (IntKind.wrap .u32 _))=_;rw[show (x:Int)+(b:Int)=(y:Int) by omega,oC _ (by omega)],h⟩
  rw[<-hy];clear hx hy
  by_cases c3:gQ y=s
  ·rw[Ac ⟨c1,c2,c3⟩]
   refine evl ?_
   repeat' ((conv=>whnf);first|refine hS ?_|refine hw ?_|refine OL c3 ?_|refine aq ?_|apply ae<;>intro h)
   refine ap ?_;rfl
  ·rw[Aa (λq=>c3 q.2.2)]
   refine evl ?_
   repeat' ((conv=>whnf);first|refine hS ?_|refine hw ?_|refine Wd c3 ?_|refine aq ?_|apply ae<;>intro h)
   refine ap ?_;rfl
 |x::rest,done,a,b,T,H,c,g,i,A,B,e,hi,hA,hB,ha,hb=>by
  have hl:=md e;have hx:=J.idx_at e hi;have hxl:=x.toNat_lt;have ih:=wt s hs rest (done++[x]);subst hA;subst hB
  rw[xH]
  by_cases h1:48<=x.toNat
  case neg=>
   rw[Aa (λq=>h1 (by have:=q.1;simp[J.dig] at this;omega)),ld]
   refine evl ?_
   repeat' ((conv=>whnf);first|refine J.zIstr ?_ hx (by omega)|refine aq ?_|apply ae<;>intro h)
   refine ap ?_;rfl
  by_cases h2:x.toNat<=57
  case neg=>
   rw[Aa (λq=>h2 (by have:=q.1;simp[J.dig] at this;omega))]
   by_cases h3:x.toNat=58
   ·rw[ld]
    refine evl ?_
    repeat' ((conv=>whnf);first|refine J.zIstr ?_ hx (by omega)|refine aq ?_|apply ae<;>intro h)
    refine ap ?_;rfl
   ·rw[ld]
    refine evl ?_
    repeat' ((conv=>whnf);first|refine J.zIstr ?_ hx (by omega)|refine aq ?_|apply ae<;>intro h)
    refine ap ?_;rfl
  have hd:J.dig x=true:=by simp[J.dig];omega
  have hv:J.dval x<10:=by unfold J.dval;omega
  by_cases h3:b<=65535
  ·rw[Ac ⟨hd,h3⟩]
   refine evl ?_
   repeat' ((conv=>whnf);first|refine J.zIstr ?_ hx (by omega)|refine J.zSub48 ?_ h1|refine aq ?_|apply ae<;>intro h)
   refine au [8,6,0,7] [70] ?_;exact ih a (10*b+J.dval x) _ _ _ _ (i+1) _ _ (by simp[e]) (by simp[hi]) rfl (by omega) ha (by omega)
  ·rw[Aa (λq=>h3 q.2),ld]
   refine evl ?_
   repeat' ((conv=>whnf);first|refine J.zIstr ?_ hx (by omega)|refine aq ?_|apply ae<;>intro h)
   refine ap ?_;rfl
theorem wu (s:B5)(hs:s.length<2^30): ∀(rest done:B5)(a:Nat)(T:TV)(H:az)(c g:Nat)(i A:Int)(e:s=done++rest)(hi:i=done.length)(hA:A=a)(ha:a<=655359),
  Ev G ⟨Du,⟨(8,.int .i64 i)::(6,.ref 70 g 0)::(0,.str s)::(7,.int .i64 0)::T,(70,some (g,.cells [.int .i64 A,.int .i64 0]))::H,c⟩,[.t 2,.t 3],0⟩ (ld s (oa rest a))
 | [],done,a,T,H,c,g,i,A,e,hi,hA,ha=>by
  have hl:=md0 e;subst hA;rw[oa,ld]
  by_cases c1:a<=65535
  case neg=>
   rw[Aa (λq=>c1 q.1)]
   refine evA ?_;refine ap ?_;rfl
  have c2:0<=65535:=by decide
  have hA:a<65536:=by omega
  obtain ⟨x,hx⟩: ∃x,x=a*65536:=⟨_,rfl⟩
  obtain ⟨y,hy⟩: ∃y,y=a*65536+0:=⟨_,rfl⟩
  have tc:=pH y (by omega)
  have hS: ∀{kv:AV->Prop},kv (.int .u32 (x:Int))-> ∃v,bm .shl (.int .u32 (a:Int)) (.int .u64 16)=some v/\kv v:=λh=>Ab hA (by rw[<-hx];exact h)
  have hw: ∀{kv:AV->Prop},kv (.int .u32 (y:Int))-> ∃v,bm .add (.int .u32 (x:Int)) (.int .u32 0)=some v/\kv v:=λh=>⟨_,by show some (AV.int .u32 (IntKind.wrap .u32 _))=_;rw[show (x:Int)+0=(y:Int) by omega,oC _ (by omega)],h⟩
  rw[<-hy];clear hx hy
  by_cases c3:gQ y=s
  ·rw[Ac ⟨c1,c2,c3⟩]
   refine evl ?_
   repeat' ((conv=>whnf);first|refine hS ?_|refine hw ?_|refine OL c3 ?_|refine aq ?_|apply ae<;>intro h)
   refine ap ?_;rfl
  ·rw[Aa (λq=>c3 q.2.2)]
   refine evl ?_
   repeat' ((conv=>whnf);first|refine hS ?_|refine hw ?_|refine Wd c3 ?_|refine aq ?_|apply ae<;>intro h)
   refine ap ?_;rfl
 |x::rest,done,a,T,H,c,g,i,A,e,hi,hA,ha=>by
  have hl:=md e;have hx:=J.idx_at e hi;have hxl:=x.toNat_lt;have ih:=wu s hs rest (done++[x]);subst hA;rw[oa]
  by_cases h1:48<=x.toNat
  case neg=>
   rw[Aa (λq=>h1 (by have:=q.1;simp[J.dig] at this;omega)),Aa (λq=>h1 (by rw[q];decide)),ld]
   refine evl ?_
   repeat' ((conv=>whnf);first|refine J.zIstr ?_ hx (by omega)|refine aq ?_|apply ae<;>intro h)
   refine ap ?_;rfl
  by_cases h2:x.toNat<=57
  case neg=>
   rw[Aa (λq=>h2 (by have:=q.1;simp[J.dig] at this;omega))]
   by_cases h3:x.toNat=58
   ·have h4:x=58:=A5.1 (by simpa using h3)
    rw[Ac h4];refine evl ?_
    repeat' ((conv=>whnf);first|refine J.zIstr ?_ hx (by omega)|refine aq ?_|apply ae<;>intro h)
    refine au [8,6,0,7] [70] ?_;exact wt s hs rest (done++[x]) a 0 _ _ _ _ (i+1) _ _ (by simp[e]) (by simp[hi]) rfl rfl ha (by omega)
   ·rw[Aa (λq=>h3 (by rw[q];decide)),ld]
    refine evl ?_
    repeat' ((conv=>whnf);first|refine J.zIstr ?_ hx (by omega)|refine aq ?_|apply ae<;>intro h)
    refine ap ?_;rfl
  have hd:J.dig x=true:=by simp[J.dig];omega
  have hv:J.dval x<10:=by unfold J.dval;omega
  by_cases h3:a<=65535
  ·rw[Ac ⟨hd,h3⟩]
   refine evl ?_
   repeat' ((conv=>whnf);first|refine J.zIstr ?_ hx (by omega)|refine J.zSub48 ?_ h1|refine aq ?_|apply ae<;>intro h)
   refine au [8,6,0,7] [70] ?_;exact ih (10*a+J.dval x) _ _ _ _ (i+1) _ (by simp[e]) (by simp[hi]) (by omega) (by omega)
  ·rw[Aa (λq=>h3 q.2),Aa (λq=>by rw[q] at h2;exact absurd h2 (by decide)),ld]
   refine evl ?_
   repeat' ((conv=>whnf);first|refine J.zIstr ?_ hx (by omega)|refine aq ?_|apply ae<;>intro h)
   refine ap ?_;rfl
theorem zr (s:B5)(hs:s.length<2^30): ∀(rest done:Cc)(T:TV)(H:az)(c g:Nat)(i:Int)(e:cms=done++rest)(hi:i=done.length),
  Ev G ⟨Zw,⟨(12,.int .i64 i)::(0,.str s)::(10,.vs 74 g 4)::(11,.int .i64 4)::T,(74,some (g,.vec 1 (cms.map Ch)))::H,c⟩,[.t 2,.t 3],0⟩ (cF s rest)
 | [],done,T,H,c,g,i,e,hi=>by
  have hl:(4:Int)=i:=by rw[hi];have:=congrArg List.length e;simp[cms] at this;omega
  subst hl;rw[cF];refine evA ?_;refine au [8,6,0,7] [70] ?_;exact wu s hs s [] 0 _ _ _ _ 0 _ rfl rfl rfl (by decide)
 |x::rest,done,T,H,c,g,i,e,hi=>by
  have hl:done.length+(rest.length+1)=4:=by have:=congrArg List.length e;simp[cms] at this;omega
  have hx:(cms.map Ch)[i.toNat]? =some [.int .u32 (x:Int)]:=by rw[e,hi];simp[Ch]
  have hm:(cms.map Ch).length=4:=rfl;have hp:ab (cms.map Ch)=true:=rfl
  have hb:x<=4294967295:=by
   have:x∈cms:=by rw[e];simp
   simp[cms] at this;omega
  have tc:=pH x (by omega)
  have ih:=zr s hs rest (done++[x]);rw[cF];generalize hws:cms.map Ch=ws at hx hm hp ih⊢
  by_cases h:gQ x=s
  ·rw[Ac h]
   have z: ∀{kv:AV->Prop},kv (.bool true)-> ∃v,bm .eql (.str (gQ x)) (.str s)=some v/\kv v:=λq=>⟨.bool true,by show some (AV.bool (gQ x==s))=_;simp[h],q⟩
   refine evl ?_
   repeat' ((conv=>whnf);first|refine z ?_|refine aq ?_|apply ae<;>intro h)
   refine ap ?_;rfl
  ·rw[Aa h]
   have z: ∀{kv:AV->Prop},kv (.bool false)-> ∃v,bm .eql (.str (gQ x)) (.str s)=some v/\kv v:=λq=>⟨.bool false,by show some (AV.bool (gQ x==s))=_;simp[h],q⟩
   refine evl ?_
   repeat' ((conv=>whnf);first|refine z ?_|refine aq ?_|apply ae<;>intro h)
   refine au [12,0,10,11] [74] ?_;exact ih _ _ _ _ (i+1) (by simp[e]) (by simp[hi])
theorem Ig (s:B5)(hs:s.length<2^30):ag G 649 [.str s] [] (cmR (cmP s)):=by
 rw[<-abG s cms (by decide) (λx hx=>.inl hx)]
 refine gvB (F:=Ju) ?_;refine au [12,0,10,11] [74] ?_;exact zr s hs cms [] _ _ _ _ 0 rfl rfl
def jx:CF:=[ot,r6,jU,r0,nr,sa,r8,jd]
def xQ (x:Actn×Bool):Ret:=⟨.tup [.agg x.1.enc,.bool x.2],[]⟩
def aRt (k:Int)(t:B5)(r:CF):Actn×Bool:=
 if k=0 then (⟨0,0,0,0,0⟩,false) else
 if k=5 then (⟨5,0,0,0,(J.paP t).1⟩,decide (r= []/\(J.paP t).2=0)) else
 if k=6∨k=7 then (match cmP t with
  |some v=>(⟨k,0,0,v,0⟩,decide (r= []))
  |none=>(⟨k,0,0,0,0⟩,false)) else
 if k=8 then (match r with
  | [u]=>(⟨8,(J.fNum 4294967295 u).1,(J.fNum 4294967295 t).1,0,0⟩,decide ((J.fNum 4294967295 t).2=0/\(J.fNum 4294967295 u).2=0))
  |_=>(⟨8,0,0,0,0⟩,false)) else
 (⟨k,(J.fNum 4294967295 t).1,0,0,0⟩,decide (r= []/\(J.fNum 4294967295 t).2=0))
theorem TH (w t:B5)(ht:t.length<2^30)(r:CF)(hr:r.length<2^30)(hu: ∀u∈r,u.length<2^30)(k:Int)(h0:0<=k)(h8:k<=8)(T:TV)(H:az)(c g g2 g3:Nat):
  Ev G ⟨Dv,⟨(21,.int .i64 8)::(4,.ref 68 g 0)::(0,.sl 1 ([.str w]::[.str t]::r.map ah))::(19,.vs 83 g3 8)::(2,.ref 66 g2 0)::(20,.int .i64 8)::T,(68,some (g,.cells [.int .i64 k,.int .i64 0,.int .i64 0,.int .u32 0,.int .u32 0]))::(66,some (g2,.cells [.int .i64 0,.int .i64 0,.int .i64 0,.int .u32 0,.int .u32 0]))::(83,some (g3,.vec 1 (jx.map ah)))::H,c⟩,[.cell 2 (some 5),.t 3],0⟩ (xQ (aRt k t r)):=by
 have h1:=ku t (by omega) 4294967295 (by decide) (by decide)
 have h2:=J.padP_gives232 t (by omega)
 have h3:=Ig t ht;unfold J.nfR at h1;unfold J.okA at h2;unfold aRt
 by_cases k0:k=0
 ·subst k0
  refine evA ?_;refine ap ?_;(conv=>whnf);refine Go.AM.finC ?_;rfl
 rw[Aa k0]
 by_cases k8:k=8
 ·subst k8
  rw[Aa (by decide),Aa (by decide),Ac rfl]
  rcases r with _|⟨u,_|⟨x,r⟩⟩
  ·simp only[A6]
   refine evA ?_;refine ap ?_;(conv=>whnf);refine Go.AM.finC ?_;rfl
  ·have h4:=ku u (by have:=hu u (by simp);omega) 4294967295 (by decide) (by decide)
   unfold J.nfR at h4;simp only[An,A6,ah];generalize J.fNum 4294967295 t=p at*;generalize J.fNum 4294967295 u=q at*;obtain ⟨p1,p2⟩:=p;obtain ⟨q1,q2⟩:=q
   by_cases e1:p2=0
   ·by_cases e2:q2=0
    ·subst e1 e2
     refine evA ?_;refine ap ?_;(conv=>whnf);refine Go.AM.finC ?_;rfl
    ·subst e1
     rw[show decide ((0:Int)=0/\q2=0)=false by simp[e2]]
     refine evA ?_;refine ap ?_;(conv=>whnf);refine Go.AM.finC ?_;simp[xQ,Actn.enc,e2]
   ·rw[show decide (p2=0/\q2=0)=false by simp[e1]]
    refine evA ?_;refine ap ?_;(conv=>whnf);refine Go.AM.finC ?_;rfl
  ·simp only[An,ah]
   have m1:=ml r ah;have p1:ab (r.map ah)=true:=by simp
   simp only[Ar] at hr;generalize r.map ah=rr at*;have m2:([AV.str w]::[AV.str t]::[AV.str u]::[AV.str x]::rr).length=rr.length+4:=rfl;refine evA ?_;refine ap ?_;(conv=>whnf);refine Go.AM.finC ?_;rfl
 have m1:=ml r ah;have p1:ab (r.map ah)=true:=by simp
 have hz:(r= []/\r.length=0)∨(r≠ []/\0<r.length):=by rcases r with _|⟨a,b⟩;exact .inl ⟨rfl,rfl⟩;exact .inr ⟨by simp,by simp⟩
 have m2:([AV.str w]::[AV.str t]::r.map ah).length=r.length+2:=by simp
 generalize r.map ah=rr at*
 by_cases k5:k=5
 ·subst k5
  rw[Ac rfl];generalize J.paP t=p at*;obtain ⟨a,e⟩:=p;dsimp only at h2⊢;rcases hz with ⟨z1,z2⟩|⟨z1,z2⟩
  ·by_cases c:e=0
   ·subst c
    rw[show decide (r= []/\(0:Int)=0)=true by simp[z1]]
    refine evA ?_;refine ap ?_;(conv=>whnf);refine Go.AM.finC ?_;rfl
   ·rw[show decide (r= []/\e=0)=false by simp[c]]
    refine evA ?_;refine ap ?_;(conv=>whnf);refine Go.AM.finC ?_;rfl
  ·rw[show decide (r= []/\e=0)=false by simp[z1]]
   refine evA ?_;refine ap ?_;(conv=>whnf);refine Go.AM.finC ?_;rfl
 rw[Aa k5]
 by_cases k67:k=6∨k=7
 ·rw[Ac k67]
  rcases hcm:cmP t with _|v
  ·rw[hcm,cmR] at h3
   dsimp only;rcases k67 with q|q<;>subst q
   ·rcases hz with ⟨z1,z2⟩|⟨z1,z2⟩
    ·refine evA ?_
     refine ap ?_;(conv=>whnf);refine Go.AM.finC ?_;rfl
    ·refine evA ?_
     refine ap ?_;(conv=>whnf);refine Go.AM.finC ?_;rfl
   ·rcases hz with ⟨z1,z2⟩|⟨z1,z2⟩
    ·refine evA ?_
     refine ap ?_;(conv=>whnf);refine Go.AM.finC ?_;rfl
    ·refine evA ?_
     refine ap ?_;(conv=>whnf);refine Go.AM.finC ?_;rfl
  ·rw[hcm,cmR] at h3
   dsimp only;rcases k67 with q|q<;>subst q
   ·rcases hz with ⟨z1,z2⟩|⟨z1,z2⟩
    ·rw[show decide (r= [])=true by simp[z1]]
     refine evA ?_;refine ap ?_;(conv=>whnf);refine Go.AM.finC ?_;rfl
    ·rw[show decide (r= [])=false by simp[z1]]
     refine evA ?_;refine ap ?_;(conv=>whnf);refine Go.AM.finC ?_;rfl
   ·rcases hz with ⟨z1,z2⟩|⟨z1,z2⟩
    ·rw[show decide (r= [])=true by simp[z1]]
     refine evA ?_;refine ap ?_;(conv=>whnf);refine Go.AM.finC ?_;rfl
    ·rw[show decide (r= [])=false by simp[z1]]
     refine evA ?_;refine ap ?_;(conv=>whnf);refine Go.AM.finC ?_;rfl
 rw[Aa k67,Aa k8];have k6:k≠6:=λq=>k67 (.inl q)
 have k7:k≠7:=λq=>k67 (.inr q)
 generalize J.fNum 4294967295 t=p at*;obtain ⟨a,e⟩:=p;dsimp only at h1⊢;rcases hz with ⟨z1,z2⟩|⟨z1,z2⟩
 ·by_cases c:e=0
  ·subst c
   rw[show decide (r= []/\(0:Int)=0)=true by simp[z1]]
   refine evA ?_;refine ap ?_;(conv=>whnf);refine Go.AM.finC ?_;rfl
  ·rw[show decide (r= []/\e=0)=false by simp[c]]
   refine evA ?_;refine ap ?_;(conv=>whnf);refine Go.AM.finC ?_;rfl
 ·rw[show decide (r= []/\e=0)=false by simp[z1]]
  refine evA ?_;refine ap ?_;(conv=>whnf);refine Go.AM.finC ?_;rfl
theorem yn (w t:B5)(ht:t.length<2^30)(r:CF)(hr:r.length<2^30)(hu: ∀u∈r,u.length<2^30): ∀(rest done:CF)(k:Int)(T:TV)(H:az)(c g g2 g3:Nat)(i:Int)(e:jx=done++rest)(hi:i=done.length)(h0:0<=k)(h8:k<=8),
  Ev G ⟨Dv,⟨(21,.int .i64 i)::(4,.ref 68 g 0)::(0,.sl 1 ([.str w]::[.str t]::r.map ah))::(19,.vs 83 g3 8)::(2,.ref 66 g2 0)::(20,.int .i64 8)::T,(68,some (g,.cells [.int .i64 k,.int .i64 0,.int .i64 0,.int .u32 0,.int .u32 0]))::(66,some (g2,.cells [.int .i64 0,.int .i64 0,.int .i64 0,.int .u32 0,.int .u32 0]))::(83,some (g3,.vec 1 (jx.map ah)))::H,c⟩,[.cell 2 (some 5),.t 3],0⟩ (xQ (aRt (kOf w rest i k) t r))
 | [],done,k,T,H,c,g,g2,g3,i,e,hi,h0,h8=>by
  have hl:(8:Int)=i:=by rw[hi];have:=congrArg List.length e;simp[jx] at this;omega
  subst hl;exact TH w t ht r hr hu k h0 h8 T H c g g2 g3
 |x::rest,done,k,T,H,c,g,g2,g3,i,e,hi,h0,h8=>by
  have hl:done.length+(rest.length+1)=8:=by have:=congrArg List.length e;simp[jx] at this;omega
  have hx:(jx.map ah)[i.toNat]? =some [.str x]:=by rw[e,hi];simp[ah]
  have hm:(jx.map ah).length=8:=rfl;have hp:ab (jx.map ah)=true:=by simp
  have m1:=ml r ah;have p1:ab (r.map ah)=true:=by simp
  have ih:=yn w t ht r hr hu rest (done++[x]);have m2:([AV.str w]::[AV.str t]::r.map ah).length=r.length+2:=by simp
  rw[kOf];generalize r.map ah=rr at*;generalize hws:jx.map ah=ws at hx hm hp ih⊢
  by_cases h:w=x
  ·subst h
   rw[Ac rfl];refine evA ?_;refine au [21,4,0,19,2,20] [68,66,83] ?_;exact ih (i+1) _ _ _ _ _ _ (i+1) (by simp[e]) (by simp[hi]) (by omega) (by omega)
  ·rw[Aa h]
   have z: ∀{kv:AV->Prop},kv (.bool false)-> ∃v,bm .eql (.str w) (.str x)=some v/\kv v:=λq=>⟨.bool false,by show some (AV.bool (w==x))=_;simp[h],q⟩
   refine evl ?_
   repeat' ((conv=>whnf);first|refine z ?_|refine aq ?_|apply ae<;>intro h)
   refine au [21,4,0,19,2,20] [68,66,83] ?_;exact ih k _ _ _ _ _ _ (i+1) (by simp[e]) (by simp[hi]) h0 h8
def iO (l:CF):Actn×Bool:=match l with
 |w::t::r=>aRt (kOf w jx 0 0) t r
 |_=>(⟨0,0,0,0,0⟩,false)
theorem qH (l:CF)(hl:l.length<2^30)(hs: ∀w∈l,w.length<2^30):ag G 635 [.sl 1 (l.map ah)] [] (xQ (iO l)):=by
 rcases l with _|⟨w,_|⟨t,r⟩⟩
 ·refine gvB (F:=BA) ?_
  refine ap ?_;(conv=>whnf);refine Go.AM.finC ?_;rfl
 ·simp only[An,A6,ah]
  refine gvB (F:=BA) ?_;refine ap ?_;(conv=>whnf);refine Go.AM.finC ?_;rfl
 ·have ht:=hs t (by simp)
  have hu: ∀u∈r,u.length<2^30:=λu q=>hs u (by simp[q])
  have h:=yn w t ht r (by simp at hl;omega) hu jx [] 0
  simp only[An];rw[show ah w= [AV.str w] from rfl,show ah t= [AV.str t] from rfl]
  have m1:=ml r ah;have p1:ab (r.map ah)=true:=by simp
  simp only[Ar] at hl;rw[iO];generalize r.map ah=rr at*;have m2:([AV.str w]::[AV.str t]::rr).length=rr.length+2:=by simp
  refine gvB (F:=BA) ?_;refine au [21,4,0,19,2,20] [68,66,83] ?_;exact h _ _ _ _ _ _ 0 rfl rfl (by decide) (by decide)
def rdc (n1 n2 n3 n4:Nat)(mo gr:Int):B7:=[.vs 1 0 n1,.vs 2 0 n2,.vs 3 0 n3,.vs 4 0 n4,.int .i64 mo,.int .i64 gr]
section
variable (mo gr:Int)(e1 e2 e3 e4:B6)
def rdA:C5:=[.cells (rdc e1.length e2.length e3.length e4.length mo gr),.vec 2 e1,.vec 2 e2,.vec 2 e3,.vec 3 e4]
def roA:Co:=mkR [(true,.cells (rdc e1.length e2.length e3.length e4.length mo gr)),(true,.vec 2 e1),(true,.vec 2 e2),(true,.vec 2 e3),(true,.vec 3 e4)]
def WN (t:B5):Co:=mkR [(true,.cells (rdc (e1.length+1) e2.length e3.length e4.length 1 1)),(false,.vec 2 (e1++[[.str t,.con (.slice none 0 0)]])),(true,.vec 2 e2),(true,.vec 2 e3),(true,.vec 3 e4)]
def WM (t:B5):Co:=mkR [(true,.cells (rdc e1.length (e2.length+1) e3.length e4.length 2 2)),(true,.vec 2 e1),(false,.vec 2 (e2++[[.str t,.con (.slice none 0 0)]])),(true,.vec 2 e3),(true,.vec 3 e4)]
end
section
variable (e1 e2 e3 e4:B6)(nm:B5)(n:Nat)(f:Bool)(rl:B6)
def WL (t:B5):Co:=mkR [(true,.cells (rdc e1.length e2.length (e3.length+1) e4.length 3 3)),(true,.vec 2 e1),(true,.vec 2 e2),(false,.vec 2 (e3++[[.str t,.con (.slice none 0 0)]])),(true,.vec 3 e4)]
def WH (t:B5):Co:=mkR [(true,.cells (rdc e1.length e2.length e3.length (e4.length+1) 4 4)),(true,.vec 2 e1),(true,.vec 2 e2),(true,.vec 2 e3),(false,.vec 3 (e4++[[.str t,.con (.slice none 0 0),.int .i64 0]]))]
def j3:C5:=[.cells (rdc (e1.length+1) e2.length e3.length e4.length 1 1),.vec 2 (e1++[[.str nm,.vs 5 0 rl.length]]),.vec 2 e2,.vec 2 e3,.vec 3 e4,.vec 5 rl]
def nT:Co:=mkR [(true,.cells (rdc (e1.length+1) e2.length e3.length e4.length 1 1)),(true,.nest 2 e1 [[.str nm,.vs 5 0 n]]),(true,.vec 2 e2),(true,.vec 2 e3),(true,.vec 3 e4),(f,.vec 5 rl)]
def jZ:C5:=[.cells (rdc e1.length (e2.length+1) e3.length e4.length 2 2),.vec 2 e1,.vec 2 (e2++[[.str nm,.vs 5 0 rl.length]]),.vec 2 e3,.vec 3 e4,.vec 2 rl]
def nR:Co:=mkR [(true,.cells (rdc e1.length (e2.length+1) e3.length e4.length 2 2)),(true,.vec 2 e1),(true,.nest 2 e2 [[.str nm,.vs 5 0 n]]),(true,.vec 2 e3),(true,.vec 3 e4),(f,.vec 2 rl)]
def ju:C5:=[.cells (rdc e1.length e2.length (e3.length+1) e4.length 3 3),.vec 2 e1,.vec 2 e2,.vec 2 (e3++[[.str nm,.vs 5 0 rl.length]]),.vec 3 e4,.vec 3 rl]
def mC:Co:=mkR [(true,.cells (rdc e1.length e2.length (e3.length+1) e4.length 3 3)),(true,.vec 2 e1),(true,.vec 2 e2),(true,.nest 2 e3 [[.str nm,.vs 5 0 n]]),(true,.vec 3 e4),(f,.vec 3 rl)]
end
section
variable (mo:Int)(e1 e2 e3 e4:B6)(nm:B5)(ts:B6)(tn:B5)(n6 n7:Nat)(v:Int)(f6 f7:Bool)(ms acs:B6)
def rdC:C5:=[.cells (rdc e1.length e2.length e3.length (e4.length+1) 4 4),.vec 2 e1,.vec 2 e2,.vec 2 e3,.vec 3 (e4++[[.str nm,.vs 5 0 ts.length,.int .i64 0]]),.vec 4 ts]
def roC (n:Nat)(v:Int)(f:Bool)(ts:B6):Co:=mkR [(true,.cells (rdc e1.length e2.length e3.length (e4.length+1) mo 4)),(true,.vec 2 e1),(true,.vec 2 e2),(true,.vec 2 e3),(true,.nest 3 e4 [[.str nm,.vs 5 0 n,.int .i64 v]]),(f,.vec 4 ts)]
def rdD:C5:=[.cells (rdc e1.length e2.length e3.length (e4.length+1) mo 4),.vec 2 e1,.vec 2 e2,.vec 2 e3,.vec 3 (e4++[[.str nm,.vs 5 0 (ts.length+1),.int .i64 0]]),.vec 4 (ts++[[.str tn,.vs 6 0 ms.length,.vs 7 0 acs.length,.int .i64 0]]),.vec 6 ms,.vec 5 acs]
def roD:Co:=mkR [(true,.cells (rdc e1.length e2.length e3.length (e4.length+1) mo 4)),(true,.vec 2 e1),(true,.vec 2 e2),(true,.vec 2 e3),(true,.nest 3 e4 [[.str nm,.vs 5 0 (ts.length+1),.int .i64 0]]),(true,.nest 4 ts [[.str tn,.vs 6 0 n6,.vs 7 0 n7,.int .i64 v]]),(f6,.vec 6 ms),(f7,.vec 5 acs)]
end
abbrev shA {g0 g1 g2 g3 g4 s1 s2 s3 s4:Nat}{cs:B7}{v1 v2 v3 v4:B6}:Pzs:=[(0,g0,.cells cs),(1,g1,.vec s1 v1),(2,g2,.vec s2 v2),(3,g3,.vec s3 v3),(4,g4,.vec s4 v4)]
section
variable {g0 g1 g2 g3 g4 g5 s1 s2 s3 s4 s5:Nat}{cs:B7}
abbrev mz {p1 r1 v2 v3 v4 v5:B6}:Pzs:=[(0,g0,.cells cs),(1,g1,.nest s1 p1 r1),(2,g2,.vec s2 v2),(3,g3,.vec s3 v3),(4,g4,.vec s4 v4),(5,g5,.vec s5 v5)]
abbrev my {v1 p2 r2 v3 v4 v5:B6}:Pzs:=[(0,g0,.cells cs),(1,g1,.vec s1 v1),(2,g2,.nest s2 p2 r2),(3,g3,.vec s3 v3),(4,g4,.vec s4 v4),(5,g5,.vec s5 v5)]
abbrev jb {v1 v2 p3 r3 v4 v5:B6}:Pzs:=[(0,g0,.cells cs),(1,g1,.vec s1 v1),(2,g2,.vec s2 v2),(3,g3,.nest s3 p3 r3),(4,g4,.vec s4 v4),(5,g5,.vec s5 v5)]
abbrev shC {v1 v2 v3 p4 r4 v5:B6}:Pzs:=[(0,g0,.cells cs),(1,g1,.vec s1 v1),(2,g2,.vec s2 v2),(3,g3,.vec s3 v3),(4,g4,.nest s4 p4 r4),(5,g5,.vec s5 v5)]
end
abbrev shD {g0 g1 g2 g3 g4 g5 g6 g7 s1 s2 s3 s4 s5 s6 s7:Nat}{cs:B7}{v1 v2 v3 p4 r4 p5 r5 v6 v7:B6}:Pzs:=[(0,g0,.cells cs),(1,g1,.vec s1 v1),(2,g2,.vec s2 v2),(3,g3,.vec s3 v3),(4,g4,.nest s4 p4 r4),(5,g5,.nest s5 p5 r5),(6,g6,.vec s6 v6),(7,g7,.vec s7 v7)]
abbrev shM {g0 g1 g2 g3 g4 g5 g6 s0 s1 s2 s3 s4 s5 s6:Nat}{v0 v1 v2 p3 r3 p4 r4 v5 v6:B6}:Pzs:=[(0,g0,.vec s0 v0),(1,g1,.vec s1 v1),(2,g2,.vec s2 v2),(3,g3,.nest s3 p3 r3),(4,g4,.nest s4 p4 r4),(5,g5,.vec s5 v5),(6,g6,.vec s6 v6)]
abbrev t5:Dg:=[true,true,true,true,true]
abbrev t6:Dg:=[true,true,true,true,true,true]
abbrev t7:Dg:=[true,true,true,true,true,true,true]
abbrev t8:Dg:=ttt8
section
variable {G:Nat->Fun} {tm:Cf} {hp:az} {rs:CT} {ctr m:Nat} {k:C1} {t:Ret}
theorem bi {b1 b2 b3:Prop}(Ez:Pzs)(fl:Dg){td:C1}(hm:0<m:=by exact Nat.succ_pos _)(hA:AtOk hp (zP (Ez++[])):=by repeat' (first|exact trivial|refine ⟨rfl,?_⟩))(hE:Ez.map (·.1)=List.range m:=by rfl)(hbok:j9 (zP (Ez++[])) [] (Ez++[]):=by repeat' (first|exact trivial|rfl|assumption|refine And.intro ?_ ?_|(simp[PB.okX,PB.okS,PB.renS,aM,ab,AV.pure,Blk.renS,Blk.okS,Blk.okX,AV.okS,AV.okX, *];done)|omega|fail))(hfl:FlP Ez fl:=by repeat' (first|exact trivial|refine ⟨(by first|rfl|exact (Al (by omega)).symm|exact flg (by omega)),?_⟩))(h:jC tm hp (fQ rs) (je λa=>si (Ez++[]) m a=([]:Pzs).map (·.1)/\a.okX (zP (Ez++[])) []/\Ret.mk (a.renX (zP (Ez++[])) []) (mkR (flP (zP (Ez++[])) (Ez++[]) fl))=t)=(b1/\b2/\b3):=by exact rfl)(h1:b1:=by kernel_rfl)(h2:b2:=by repeat' (first|exact trivial|rfl|assumption|refine And.intro ?_ ?_|(simp[PB.okX,PB.okS,PB.renS,aM,ab,AV.pure,Blk.renS,Blk.okS,Blk.okX,AV.okS,AV.okX, *];done)|omega|fail))(e:b3:=by first|rfl|exact ⟨by repeat' (first|exact trivial|rfl|assumption|refine And.intro ?_ ?_|(simp[AV.okX,AV.okS,aM,ab,AV.pure, *];done)),rfl⟩)(htd:td= []∨ ∃k,td= .code .ret::k:=by first|exact .inl rfl|exact .inr ⟨_,rfl⟩):Ev G ⟨td,⟨tm,hp,ctr⟩,rs,m⟩ t:=by
 rcases htd with rfl|⟨k,rfl⟩
 ·exact db Ez [] fl e hm hA hE hbok hfl h h1 h2
 ·exact da Ez [] fl e hm hA hE hbok hfl h h1 h2
end
section
variable {kv:AV->Prop}
theorem ft {q:IntKind}{a b:Int}(h: ¬a=b)(k:kv (.bool true)): ∃v,bm .neq (.int q a) (.int q b)=some v/\kv v:=⟨.bool true,by simp[bm,h],k⟩
theorem cK {q:IntKind}{a b:Int}(h:a=b)(k:kv (.bool false)): ∃v,bm .neq (.int q a) (.int q b)=some v/\kv v:=⟨.bool false,by simp[bm,h],k⟩
theorem wN {a b:B5}(n:a=b)(h:kv (.bool false)): ∃v,bm .neq (.str a) (.str b)=some v/\kv v:=⟨.bool false,by show some (AV.bool (!(a==b)))=_;simp[n],h⟩
theorem PD {a b:B5}(n: ¬a=b)(h:kv (.bool true)): ∃v,bm .neq (.str a) (.str b)=some v/\kv v:=⟨.bool true,by show some (AV.bool (!(a==b)))=_;simp[n],h⟩
end
section
variable {l:B6}{y:B7}{n:Nat}
theorem hxL (h:l.length+1=n)(y:B7):(l++[y])[((n:Int)-1).toNat]? =some y:=by rw[<-h];simp
theorem hsL (h:l.length+1=n)(y x:B7):(l++[y]).set ((n:Int)-1).toNat x=l++[x]:=by rw[<-h];simp
theorem cy {k:B7->Prop}(hn:l.length+1=n)(h:k y): ∃z,(l++[y])[((n:Int)-1).toNat]? =some z/\k z:=⟨_,hxL hn y,h⟩
theorem ia {y x:B7}{n:Nat}{k:B7->Prop}(hn:l.length+1=n)(h:k x): ∃z,((l++[y]).set ((n:Int)-1).toNat x)[((n:Int)-1).toNat]? =some z/\k z:=⟨_,by rw[hsL hn,hxL hn],h⟩
end
theorem gvH {G:Nat->Fun}{f:Nat}{F:AFunc}{args:B7}{bs:C5}{t:Ret}{q:Prop}(h:q)(hf:G f= .code F:=by rfl)(hl:args.length=F.np:=by rfl)(k:Hold q->Ev G ⟨[.code F.body],⟨tms 0 args,jM 0 bs,1⟩,F.results,bs.length⟩ t:=by
 intro K;refine wk3 ?_
 repeat ((conv=>whnf);first|refine bj ?_|refine aG (by first|assumption|decide) ?_|refine ft (by assumption) ?_|refine cK (by first|assumption|rfl) ?_|refine en (by first|assumption|rfl) ?_|refine fu (by assumption) ?_|refine wN (by first|assumption|rfl) ?_|refine PD (by assumption) ?_|refine cy (by assumption) ?_|refine ia (by assumption) ?_|refine aq ?_)
 exact K.get):ag G f args bs t:=lZ hf hl (k ⟨h⟩)
theorem evH {p q:Prop}(h:q)(k:Hold q->p:=by
 intro K;refine evl ?_
 repeat ((conv=>whnf);first|refine bj ?_|refine aG (by first|assumption|decide) ?_|refine ft (by assumption) ?_|refine cK (by first|assumption|rfl) ?_|refine en (by first|assumption|rfl) ?_|refine fu (by assumption) ?_|refine wN (by first|assumption|rfl) ?_|refine PD (by assumption) ?_|refine cy (by assumption) ?_|refine ia (by assumption) ?_|refine aq ?_)
 exact K.get):p:=k ⟨h⟩
end Go.AM.IR
