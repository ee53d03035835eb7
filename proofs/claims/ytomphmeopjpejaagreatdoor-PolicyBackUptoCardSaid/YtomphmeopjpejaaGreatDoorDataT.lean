/- What functions of this program give. -/
import Derived.Test.YtomphmeopjpejaaGreatDoorDataQ
import Derived.Test.YtomphmeopjpejaaGreatDoorDataS
set_option linter.unusedSectionVars false
set_option linter.unusedVariables false
set_option linter.unusedSimpArgs false
set_option maxHeartbeats 4000000
set_option maxRecDepth 20000
namespace Go.AM.IR
deriving instance DecidableEq for RuleP,PathR,ComR,Mat,Actn,PList,PathL,ComL,Trm,Pol,PSet
section
variable {k:Eff->Prop} {kv:AV->Prop} {x y:Opd} {g key:Nat} {hg:Nat->C0}
theorem F9 {ks:D4}{neg v:Bool}{a b:CL}(he:eqL ks a b=some v)(h:k {res:=.bool (xor neg v)}): ∃e,aX (.eqs ks neg x y) g key [.agg a,.agg b] hg=some e/\k e:=⟨_,by show (eqL ks a b).map _=_;rw[he];rfl,h⟩
theorem xf {a b:CF}(n:a=b)(h:kv (.bool false)): ∃v,bp .neq (.str a) (.str b)=some v/\kv v:=⟨.bool false,by show some (AV.bool (!(a==b)))=_;simp[n],h⟩
end
theorem Wz (x y:RuleP):eqL [.bool,.int,.int,.int,.int] x.enc y.enc=some (decide (x=y)):=by
 rcases x with ⟨a,⟨p,q⟩,c,d⟩;rcases y with ⟨a',⟨p',q'⟩,c',d'⟩
 simp only[RuleP.enc,eqL,od,if_true,Option.some.injEq];rw[Bool.eq_iff_iff];simp[and_assoc]
theorem WA (x y:PathR):eqL [.bool,.str] x.enc y.enc=some (decide (x=y)):=by
 rcases x with ⟨a,b⟩;rcases y with ⟨a',b'⟩
 simp only[PathR.enc,eqL,od,if_true,Option.some.injEq];rw[Bool.eq_iff_iff];simp[and_assoc]
theorem aa6 (x y:ComR):eqL [.bool,.int,.int] x.enc y.enc=some (decide (x=y)):=by
 rcases x with ⟨a,b,c⟩;rcases y with ⟨a',b',c'⟩
 simp only[ComR.enc,eqL,od,if_true,Option.some.injEq];rw[Bool.eq_iff_iff];simp[and_assoc]
theorem adE (x y:Mat):eqL [.int,.str,.int,.int,.int,.bool] x.enc y.enc=some (decide (x=y)):=by
 rcases x with ⟨a,b,c,⟨p,q⟩,d⟩;rcases y with ⟨a',b',c',⟨p',q'⟩,d'⟩
 simp only[Mat.enc,eqL,od,if_true,Option.some.injEq];rw[Bool.eq_iff_iff];simp[and_assoc]
theorem aa7 (x y:Actn):eqL [.int,.int,.int,.int,.int] x.enc y.enc=some (decide (x=y)):=by
 rcases x with ⟨a,b,c,d,e⟩;rcases y with ⟨a',b',c',d',e'⟩
 simp only[Actn.enc,eqL,od,if_true,Option.some.injEq];rw[Bool.eq_iff_iff];simp[and_assoc]
def Trm.fits (t:Trm):Prop:=t.mats.length<2^40/\t.acts.length<2^40
def Pol.fits (p:Pol):Prop:=p.terms.length<2^40/\ ∀t∈p.terms,t.fits
structure PSet.fits (s:PSet):Prop where
 a:s.prefixes.length<2^40
 b:s.paths.length<2^40
 c:s.comms.length<2^40
 d:s.pols.length<2^40
 a1: ∀x∈s.prefixes,x.rules.length<2^40
 b1: ∀x∈s.paths,x.rules.length<2^40
 c1: ∀x∈s.comms,x.rules.length<2^40
 d1: ∀x∈s.pols,x.fits
theorem abV (l:C3)(hl:l.length<2^40)(i:Int)(s:PList)(h0:0<=i)(hs:(l.map PList.enc)[i.toNat]? =some s.enc)(hi:i<l.length)(hsl:s.rules.length<2^40)(R:Bool)(go: ∀T H c,Ev G ⟨Db,⟨(14,.int .i64 (i+1))::(1,.sl 2 (l.map PList.enc))::(0,.sl 2 (l.map PList.enc))::(13,.int .i64 l.length)::T,H,c⟩,[.t 4],0⟩ ⟨.bool R,[]⟩): ∀(r d:DF)(T:TV)(H:aq)(c:Nat)(n:Int)(e:s.rules=d++r)(hn:n=d.length),
  Ev G ⟨Vx,⟨(49,.int .i64 n)::(5,.int .i64 i)::(1,.sl 2 (l.map PList.enc))::(0,.sl 2 (l.map PList.enc))::(13,.int .i64 l.length)::(14,.int .i64 i)::(48,.int .i64 s.rules.length)::T,H,c⟩,[.t 4],0⟩ ⟨.bool R,[]⟩
 | [],d,T,H,c,n,e,hn=>by
  have hd:=md0 e;refine evA ?_;refine ag [14,1,0,13] [] ?_;exact go _ _ _
 |x::r,d,T,H,c,n,e,hn=>by
  have hd:=md e;have hla:=ml l PList.enc;have hl1:=ml s.rules RuleP.enc;have hx:=mx RuleP.enc e hn;have he:=Wz x x;rw[Al rfl] at he;refine evl ?_
  repeat' ((conv=>whnf);first|refine F9 he ?_|refine ay ?_|apply ae<;>intro h)
  refine ag [49,5,1,0,13,14,48] [] ?_;exact abV l hl i s h0 hs hi hsl R go r (d++[x]) _ _ _ (n+1) (by simp[e]) (by simp[hn])
theorem abQ (l:C3)(hl:l.length<2^40)(hs: ∀x∈l,x.rules.length<2^40): ∀(r d:C3)(T:TV)(H:aq)(c:Nat)(n:Int)(e:l=d++r)(hn:n=d.length),
  Ev G ⟨Db,⟨(14,.int .i64 n)::(1,.sl 2 (l.map PList.enc))::(0,.sl 2 (l.map PList.enc))::(13,.int .i64 l.length)::T,H,c⟩,[.t 4],0⟩ ⟨.bool true,[]⟩
 | [],d,T,H,c,n,e,hn=>by
  have hd:=md0 e;refine evA ?_;refine au ?_;rfl
 |x::r,d,T,H,c,n,e,hn=>by
  have hd:=md e;have hla:=ml l PList.enc;have hx:=mx PList.enc e hn;have m1:=ml x.rules RuleP.enc;refine evl ?_
  repeat' ((conv=>whnf);first|refine xf rfl ?_|refine ay ?_|apply ae<;>intro h)
  refine ag [49,5,1,0,13,14,48] [] ?_;rw[m1];exact abV l hl n x (by omega) hx (by omega) (hs x (by simp[e])) _ (λT H c=>abQ l hl hs r (d++[x]) T H c (n+1) (by simp[e]) (by simp[hn])) x.rules [] _ _ _ 0 rfl rfl
theorem Nq (l:C3)(h1:l.length<2^40)(hs: ∀x∈l,x.rules.length<2^40):ab G 554 [.sl 2 (l.map PList.enc),.sl 2 (l.map PList.enc)] [] ⟨.bool true,[]⟩:=by
 have l1:=ml l PList.enc;refine gvB (F:=JT) ?_;refine ag [14,1,0,13] [] ?_;rw[l1];exact abQ l h1 hs l [] _ _ _ 0 rfl rfl
theorem abU (l:C4)(hl:l.length<2^40)(i:Int)(s:PathL)(h0:0<=i)(hs:(l.map PathL.enc)[i.toNat]? =some s.enc)(hi:i<l.length)(hsl:s.rules.length<2^40)(R:Bool)(go: ∀T H c,Ev G ⟨CZ,⟨(14,.int .i64 (i+1))::(1,.sl 2 (l.map PathL.enc))::(0,.sl 2 (l.map PathL.enc))::(13,.int .i64 l.length)::T,H,c⟩,[.t 4],0⟩ ⟨.bool R,[]⟩): ∀(r d:DG)(T:TV)(H:aq)(c:Nat)(n:Int)(e:s.rules=d++r)(hn:n=d.length),
  Ev G ⟨Vu,⟨(49,.int .i64 n)::(5,.int .i64 i)::(1,.sl 2 (l.map PathL.enc))::(0,.sl 2 (l.map PathL.enc))::(13,.int .i64 l.length)::(14,.int .i64 i)::(48,.int .i64 s.rules.length)::T,H,c⟩,[.t 4],0⟩ ⟨.bool R,[]⟩
 | [],d,T,H,c,n,e,hn=>by
  have hd:=md0 e;refine evA ?_;refine ag [14,1,0,13] [] ?_;exact go _ _ _
 |x::r,d,T,H,c,n,e,hn=>by
  have hd:=md e;have hla:=ml l PathL.enc;have hl1:=ml s.rules PathR.enc;have hx:=mx PathR.enc e hn;have he:=WA x x;rw[Al rfl] at he;refine evl ?_
  repeat' ((conv=>whnf);first|refine F9 he ?_|refine ay ?_|apply ae<;>intro h)
  refine ag [49,5,1,0,13,14,48] [] ?_;exact abU l hl i s h0 hs hi hsl R go r (d++[x]) _ _ _ (n+1) (by simp[e]) (by simp[hn])
theorem abP (l:C4)(hl:l.length<2^40)(hs: ∀x∈l,x.rules.length<2^40): ∀(r d:C4)(T:TV)(H:aq)(c:Nat)(n:Int)(e:l=d++r)(hn:n=d.length),
  Ev G ⟨CZ,⟨(14,.int .i64 n)::(1,.sl 2 (l.map PathL.enc))::(0,.sl 2 (l.map PathL.enc))::(13,.int .i64 l.length)::T,H,c⟩,[.t 4],0⟩ ⟨.bool true,[]⟩
 | [],d,T,H,c,n,e,hn=>by
  have hd:=md0 e;refine evA ?_;refine au ?_;rfl
 |x::r,d,T,H,c,n,e,hn=>by
  have hd:=md e;have hla:=ml l PathL.enc;have hx:=mx PathL.enc e hn;have m1:=ml x.rules PathR.enc;refine evl ?_
  repeat' ((conv=>whnf);first|refine xf rfl ?_|refine ay ?_|apply ae<;>intro h)
  refine ag [49,5,1,0,13,14,48] [] ?_;rw[m1];exact abU l hl n x (by omega) hx (by omega) (hs x (by simp[e])) _ (λT H c=>abP l hl hs r (d++[x]) T H c (n+1) (by simp[e]) (by simp[hn])) x.rules [] _ _ _ 0 rfl rfl
theorem Nl (l:C4)(h1:l.length<2^40)(hs: ∀x∈l,x.rules.length<2^40):ab G 555 [.sl 2 (l.map PathL.enc),.sl 2 (l.map PathL.enc)] [] ⟨.bool true,[]⟩:=by
 have l1:=ml l PathL.enc;refine gvB (F:=JS) ?_;refine ag [14,1,0,13] [] ?_;rw[l1];exact abP l h1 hs l [] _ _ _ 0 rfl rfl
theorem abT (l:C6)(hl:l.length<2^40)(i:Int)(s:ComL)(h0:0<=i)(hs:(l.map ComL.enc)[i.toNat]? =some s.enc)(hi:i<l.length)(hsl:s.rules.length<2^40)(R:Bool)(go: ∀T H c,Ev G ⟨CY,⟨(14,.int .i64 (i+1))::(1,.sl 2 (l.map ComL.enc))::(0,.sl 2 (l.map ComL.enc))::(13,.int .i64 l.length)::T,H,c⟩,[.t 4],0⟩ ⟨.bool R,[]⟩): ∀(r d:DR)(T:TV)(H:aq)(c:Nat)(n:Int)(e:s.rules=d++r)(hn:n=d.length),
  Ev G ⟨Vt,⟨(49,.int .i64 n)::(5,.int .i64 i)::(1,.sl 2 (l.map ComL.enc))::(0,.sl 2 (l.map ComL.enc))::(13,.int .i64 l.length)::(14,.int .i64 i)::(48,.int .i64 s.rules.length)::T,H,c⟩,[.t 4],0⟩ ⟨.bool R,[]⟩
 | [],d,T,H,c,n,e,hn=>by
  have hd:=md0 e;refine evA ?_;refine ag [14,1,0,13] [] ?_;exact go _ _ _
 |x::r,d,T,H,c,n,e,hn=>by
  have hd:=md e;have hla:=ml l ComL.enc;have hl1:=ml s.rules ComR.enc;have hx:=mx ComR.enc e hn;have he:=aa6 x x;rw[Al rfl] at he;refine evl ?_
  repeat' ((conv=>whnf);first|refine F9 he ?_|refine ay ?_|apply ae<;>intro h)
  refine ag [49,5,1,0,13,14,48] [] ?_;exact abT l hl i s h0 hs hi hsl R go r (d++[x]) _ _ _ (n+1) (by simp[e]) (by simp[hn])
theorem abO (l:C6)(hl:l.length<2^40)(hs: ∀x∈l,x.rules.length<2^40): ∀(r d:C6)(T:TV)(H:aq)(c:Nat)(n:Int)(e:l=d++r)(hn:n=d.length),
  Ev G ⟨CY,⟨(14,.int .i64 n)::(1,.sl 2 (l.map ComL.enc))::(0,.sl 2 (l.map ComL.enc))::(13,.int .i64 l.length)::T,H,c⟩,[.t 4],0⟩ ⟨.bool true,[]⟩
 | [],d,T,H,c,n,e,hn=>by
  have hd:=md0 e;refine evA ?_;refine au ?_;rfl
 |x::r,d,T,H,c,n,e,hn=>by
  have hd:=md e;have hla:=ml l ComL.enc;have hx:=mx ComL.enc e hn;have m1:=ml x.rules ComR.enc;refine evl ?_
  repeat' ((conv=>whnf);first|refine xf rfl ?_|refine ay ?_|apply ae<;>intro h)
  refine ag [49,5,1,0,13,14,48] [] ?_;rw[m1];exact abT l hl n x (by omega) hx (by omega) (hs x (by simp[e])) _ (λT H c=>abO l hl hs r (d++[x]) T H c (n+1) (by simp[e]) (by simp[hn])) x.rules [] _ _ _ 0 rfl rfl
theorem Nk (l:C6)(h1:l.length<2^40)(hs: ∀x∈l,x.rules.length<2^40):ab G 556 [.sl 2 (l.map ComL.enc),.sl 2 (l.map ComL.enc)] [] ⟨.bool true,[]⟩:=by
 have l1:=ml l ComL.enc;refine gvB (F:=JQ) ?_;refine ag [14,1,0,13] [] ?_;rw[l1];exact abO l h1 hs l [] _ _ _ 0 rfl rfl
theorem tl16 (s:Trm)(hsl:s.acts.length<2^40)(g1 g2:Nat): ∀(r d:Dr)(T:TV)(H:aq)(c:Nat)(n:Int)(e:s.acts=d++r)(hn:n=d.length),
  Ev G ⟨Vr,⟨(58,.int .i64 n)::(3,.ref 67 g2 0)::(2,.ref 66 g1 0)::(57,.int .i64 s.acts.length)::T,(66,some (g1,.cells s.enc))::(67,some (g2,.cells s.enc))::H,c⟩,[.t 4],0⟩ ⟨.bool true,[]⟩
 | [],d,T,H,c,n,e,hn=>by
  have hd:=md0 e;refine evA ?_;refine au ?_;rfl
 |x::r,d,T,H,c,n,e,hn=>by
  have hd:=md e;have hl1:=ml s.acts Actn.enc;have hx:=mx Actn.enc e hn;have he:=aa7 x x;rw[Al rfl] at he;refine evl ?_
  repeat' ((conv=>whnf);first|refine F9 he ?_|refine ay ?_|apply ae<;>intro h)
  refine ag [58,3,2,57] [66,67] ?_;exact tl16 s hsl  g1 g2 r (d++[x]) _ _ _ (n+1) (by simp[e]) (by simp[hn])
theorem tl9 (s:Trm)(hsl:s.mats.length<2^40)(hal:s.acts.length<2^40)(g1 g2:Nat): ∀(r d:Ds)(T:TV)(H:aq)(c:Nat)(n:Int)(e:s.mats=d++r)(hn:n=d.length),
  Ev G ⟨aaB,⟨(40,.int .i64 n)::(3,.ref 67 g2 0)::(2,.ref 66 g1 0)::(39,.int .i64 s.mats.length)::T,(66,some (g1,.cells s.enc))::(67,some (g2,.cells s.enc))::H,c⟩,[.t 4],0⟩ ⟨.bool true,[]⟩
 | [],d,T,H,c,n,e,hn=>by
  have hd:=md0 e;have m1:=ml s.acts Actn.enc;refine evA ?_;refine ag [58,3,2,57] [66,67] ?_;rw[m1];exact tl16 s hal g1 g2 s.acts [] _ _ _ 0 rfl rfl
 |x::r,d,T,H,c,n,e,hn=>by
  have hd:=md e;have hl1:=ml s.mats Mat.enc;have hx:=mx Mat.enc e hn;have he:=adE x x;rw[Al rfl] at he;refine evl ?_
  repeat' ((conv=>whnf);first|refine F9 he ?_|refine ay ?_|apply ae<;>intro h)
  refine ag [40,3,2,39] [66,67] ?_;exact tl9 s hsl hal g1 g2 r (d++[x]) _ _ _ (n+1) (by simp[e]) (by simp[hn])
theorem Mi (s:Trm)(hs:s.fits):ab G 557 [.agg s.enc,.agg s.enc] [] ⟨.bool true,[]⟩:=by
 have m1:=ml s.mats Mat.enc;have m3:=ml s.acts Actn.enc;obtain ⟨q1,q2⟩:=hs;refine gvC (F:=JP) ?_
 repeat' ((conv=>whnf);first|refine xf rfl ?_|refine ay ?_|apply ae<;>intro h)
 refine ag [40,3,2,39] [66,67] ?_;rw[m1];exact tl9 s q1 q2 _ _ s.mats [] _ _ _ 0 rfl rfl
theorem sl15 (s:PSet)(hl:s.pols.length<2^40)(i:Int)(p:Pol)(h0:0<=i)(hi:i<s.pols.length)(hp:p.fits)(g1 g2:Nat)(go: ∀T H c,Ev G ⟨Dl,⟨(43,.int .i64 (i+1))::(3,.ref 67 2 0)::(2,.ref 66 1 0)::(42,.int .i64 s.pols.length)::T,(66,some (1,.cells s.enc))::(67,some (2,.cells s.enc))::H,c⟩,[.t 4],0⟩ ⟨.bool true,[]⟩): ∀(r d:Da)(T:TV)(H:aq)(c:Nat)(n:Int)(e:p.terms=d++r)(hn:n=d.length),
  Ev G ⟨VP,⟨(80,.int .i64 n)::(7,.ref 71 g2 0)::(6,.ref 70 g1 0)::(3,.ref 67 2 0)::(2,.ref 66 1 0)::(42,.int .i64 s.pols.length)::(43,.int .i64 i)::(79,.int .i64 p.terms.length)::T,(66,some (1,.cells s.enc))::(67,some (2,.cells s.enc))::(70,some (g1,.cells p.enc))::(71,some (g2,.cells p.enc))::H,c⟩,[.t 4],0⟩ ⟨.bool true,[]⟩
 | [],d,T,H,c,n,e,hn=>by
  have hd:=md0 e;refine evA ?_;refine ag [43,3,2,42] [66,67] ?_;exact go _ _ _
 |x::r,d,T,H,c,n,e,hn=>by
  have hq1:=hp.1;have hd:=md e;have hl1:=ml p.terms Trm.enc;have hx:=mx Trm.enc e hn;have he:=Mi x (hp.2 x (by simp[e]))
  refine evA ?_;refine ag [80,7,6,3,2,42,43,79] [66,67,70,71] ?_;exact sl15 s hl i p h0 hi hp g1 g2 go r (d++[x]) _ _ _ (n+1) (by simp[e]) (by simp[hn])
theorem sl17 (s:PSet)(hl:s.pols.length<2^40)(hs: ∀x∈s.pols,x.fits): ∀(r d:C9)(T:TV)(H:aq)(c:Nat)(n:Int)(e:s.pols=d++r)(hn:n=d.length),
  Ev G ⟨Dl,⟨(43,.int .i64 n)::(3,.ref 67 2 0)::(2,.ref 66 1 0)::(42,.int .i64 s.pols.length)::T,(66,some (1,.cells s.enc))::(67,some (2,.cells s.enc))::H,c⟩,[.t 4],0⟩ ⟨.bool true,[]⟩
 | [],d,T,H,c,n,e,hn=>by
  have hd:=md0 e;refine evA ?_;refine au ?_;rfl
 |x::r,d,T,H,c,n,e,hn=>by
  have hd:=md e;have hla:=ml s.pols Pol.enc;have hx:=mx Pol.enc e hn;have m1:=ml x.terms Trm.enc;refine evl ?_
  repeat' ((conv=>whnf);first|refine xf rfl ?_|refine ay ?_|apply ae<;>intro h)
  refine ag [80,7,6,3,2,42,43,79] [66,67,70,71] ?_;rw[m1];exact sl15 s hl n x (by omega) (by omega) (hs x (by simp[e])) _ _ (λT H c=>sl17 s hl hs r (d++[x]) T H c (n+1) (by simp[e]) (by simp[hn])) x.terms [] _ _ _ 0 rfl rfl
theorem Qu (s:PSet)(hs:s.fits):ab G 479 [.agg s.enc,.agg s.enc] [] ⟨.bool true,[]⟩:=by
 have h1:=Nq s.prefixes hs.a hs.a1;have h2:=Nl s.paths hs.b hs.b1;have h3:=Nk s.comms hs.c hs.c1;have m1:=ml s.pols Pol.enc;have hq1:=hs.d;refine gvB (F:=JV) ?_;refine ag [43,3,2,42] [66,67] ?_;rw[m1];exact sl17 s hs.d hs.d1 s.pols [] _ _ _ 0 rfl rfl
def IX:CL->Dn->Df
 | [.str s],[]=>if s.length<2^30 then some (gx (vZ s)) else none
 |_,_=>none
theorem acV {args:CL}{bs:Dn}{t:Ret}(h:IX args bs=some t):ab GR 418 args bs t:=by
 unfold IX at h;split at h
 ·split at h
  ·rename_i hs;cases h;exact IA _ hs
  ·cases h
 ·cases h
noncomputable def GA (f:Nat):Fun:=bif Nat.beq f 418 then .prim false IX else G f
open Classical in
noncomputable def pBy (P:CL->Ret->Prop)(args:CL)(bs:Dn):Df:=if h:bs= []/\ ∃t,P args t then some (Classical.choose h.2) else none
section
variable {P:CL->Ret->Prop}{args:CL}{bs:Dn}{t:Ret}
theorem sy (h:P args t)(hu: ∀t',P args t'->t'=t):pBy P args []=some t:=by
 have hx:([]:Dn)= []/\ ∃t,P args t:=⟨rfl,t,h⟩
 unfold pBy;rw[dif_pos hx,hu _ (Classical.choose_spec hx.2)]
theorem sx (h:pBy P args bs=some t):bs= []/\P args t:=by
 unfold pBy at h;split at h
 ·rename_i hx
  cases h;exact ⟨hx.1,Classical.choose_spec hx.2⟩
 ·cases h
end
theorem PSet.enc_i: ∀a b:PSet,a.enc=b.enc->a=b:=by
 rintro ⟨a1,a2,a3,a4⟩ ⟨b1,b2,b3,b4⟩ h
 simpa[PSet.enc,PList.mapE,PathL.mapE,ComL.mapE,Pol.mapE] using h
structure PSet.sml (s:PSet):Prop where
 ok:s.ok
 bk:bkL s.enc<=1048576
section
variable (args:CL)(t:Ret)
def TJ:Prop:= ∃s:PSet,args= [.agg s.enc]/\s.sml/\t=om s
def TH:Prop:= ∃s:PSet,args= [.agg s.enc]/\s.sml/\t=om s
def TG:Prop:= ∃s:PSet,args= [.agg s.enc,.agg s.enc]/\s.sml/\t=⟨.bool true,[]⟩
def TF:Prop:= ∃s:PSet,args= [.agg s.enc]/\s.sml/\t=⟨.bool (decide (400<jz s)),[]⟩
def ab8:Prop:=args= []/\t=⟨.bool true,[]⟩
end
theorem Tv {a b:CL}(h: [AV.agg a]= [AV.agg b]):a=b:=by simpa using h
section
variable {s:PSet}(h:s.sml)
include h
theorem ac1:pBy TJ [.agg s.enc] []=some (om s):=sy ⟨s,rfl,h,rfl⟩ λt' ⟨u,e,_,e2⟩=>by rw[e2,PSet.enc_i _ _ (Tv e)]
theorem ac0:pBy TH [.agg s.enc] []=some (om s):=sy ⟨s,rfl,h,rfl⟩ λt' ⟨u,e,_,e2⟩=>by rw[e2,PSet.enc_i _ _ (Tv e)]
theorem acX:pBy TF [.agg s.enc] []=some ⟨.bool (decide (400<jz s)),[]⟩:=sy ⟨s,rfl,h,rfl⟩ λt' ⟨u,e,_,e2⟩=>by rw[e2,PSet.enc_i _ _ (Tv e)]
theorem acY:pBy TG [.agg s.enc,.agg s.enc] []=some ⟨.bool true,[]⟩:=sy ⟨s,rfl,h,rfl⟩ λt' ⟨_,_,_,e⟩=>e
end
theorem acW:pBy ab8 [] []=some ⟨.bool true,[]⟩:=sy ⟨rfl,rfl⟩ λt' ⟨_,e⟩=>e
noncomputable def GL (f:Nat):Fun:=
 bif Nat.beq f 418 then .prim false IX else bif Nat.beq f 405 then .prim false (pBy TJ) else bif Nat.beq f 414 then .prim false (pBy TH) else
 bif Nat.beq f 479 then .prim false (pBy TG) else bif Nat.beq f 668 then .prim false (pBy TF) else bif Nat.beq f 669 then .prim false (pBy ab8) else G f
theorem XT {s:PSet}(h:s.sml):s.fits:=by
 obtain ⟨ok,hb⟩:=h;have gd:=tg s hb ok;exact ⟨gd.a,gd.b,gd.c,gd.d,λx hx=>(gd.pre x hx).2.1,λx hx=>(gd.pat x hx).2.1,λx hx=>(gd.com x hx).2.1,λx hx=>⟨(gd.pol x hx).2.1,λt ht=>⟨((gd.pol x hx).2.2 t ht).ms,((gd.pol x hx).2.2 t ht).acz⟩⟩⟩
section
variable {args:CL}{t:Ret}
theorem acw (h:TJ args t):ab G 405 args [] t:=by
 obtain ⟨s,rfl,h,rfl⟩:=h;exact Iz s h.bk h.ok
theorem acv (h:TH args t):ab G 414 args [] t:=by
 obtain ⟨s,rfl,h,rfl⟩:=h;exact Iy s h.bk h.ok
theorem acu (h:TG args t):ab G 479 args [] t:=by
 obtain ⟨s,rfl,h,rfl⟩:=h;exact Qu s (XT h)
theorem Ax (s:PSet)(hs:jz s<2^40):ab G 668 [.agg s.enc] [] ⟨.bool (decide (400<jz s)),[]⟩:=by
 have h:=D9 s hs;generalize jz s=n at*;refine gvB (F:=aah) ?_;refine au ?_;simp;omega
theorem act (h:TF args t):ab G 668 args [] t:=by
 obtain ⟨s,rfl,h,rfl⟩:=h;have hz:=PG s;have hb:=h.bk;exact Ax s (by omega)
end
theorem Jw (s:PSet)(sm:s.sml):ab GL 663 [.agg s.enc] [] ⟨.bool true,[]⟩:=by
 have ha:ab GL 669 [] [] ⟨.bool true,[]⟩:=acW;have hl:ab GL 668 [.agg s.enc] [] ⟨.bool (decide (400<jz s)),[]⟩:=acX sm;have h1:ab GL 405 [.agg s.enc] [] (om s):=ac1 sm;have h2:ab GL 414 [.agg s.enc] [] (om s):=ac0 sm;generalize decide (400<jz s)=b at*;cases b
 ·unfold om at h1 h2
  by_cases c0:iA s=0
  ·rw[Ad c0] at h1 h2
   by_cases c1:65536<(lu s).length
   ·rw[Ad c1] at h1 h2
    exact gvA (F:=AH)
   ·rw[Ac c1] at h1 h2
    have h3:ab GL 418 [.str (lu s)] [] (gx (vZ (lu s))):=Ad (by omega)
    rw[UH s sm.ok c0 (by omega)] at h3
    have h4:ab GL 479 [.agg s.enc,.agg s.enc] [] ⟨.bool true,[]⟩:=acY sm;have h3:ab GL 418 [.str (lu s)] [] ⟨.tup [.agg s.enc,.int .i64 0,.int .i64 0],[]⟩:=h3;generalize lu s=a at*;exact gvA (F:=AH)
  ·rw[Ac c0] at h1 h2
   generalize iA s=e at*;refine gvC (F:=AH) ?_
   repeat' ((conv=>whnf);first|refine zNeI1 c0 ?_|refine ay ?_|apply ae<;>intro h)
   refine au ?_;rfl
 ·exact gvA (F:=AH)
theorem law663_all (ass:CS)(h:rG [xq] ass)(hb:eO ass<=1048576):ab GL 663 (nQ [xq] ass) [] ⟨.bool true,[]⟩:=by
 obtain ⟨x0,s0,rfl,h0,h⟩:=Tk h;obtain rfl:=W6 h;obtain ⟨s,rfl,hs⟩:=af8 h0;simp only[eO] at hb;exact Jw s ⟨hs,by omega⟩
end Go.AM.IR
