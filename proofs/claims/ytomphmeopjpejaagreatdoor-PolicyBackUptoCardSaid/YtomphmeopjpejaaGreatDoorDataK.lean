/- What functions of this program give. -/
import Derived.Test.YtomphmeopjpejaaGreatDoorDataJ
set_option linter.unusedVariables false
set_option linter.unusedSimpArgs false
set_option maxHeartbeats 4000000
set_option maxRecDepth 20000
namespace Go.AM.IR
theorem qg (a:Actn):ab G 596 [.agg a.enc] [] ⟨.int .i64 (gQ a),[]⟩:=by
 have w (n lo hi:Int):=jB n lo hi;obtain ⟨kind,n,asn,com,addr⟩:=a;rw[gQ];dsimp only
 by_cases k1:kind=1
 ·subst k1
  rw[Ad rfl,rA];dsimp only;have h0:=w n 0 4294967295;generalize q0:(decide (0<=n)&&decide (n<=4294967295))=B0 at*;cases B0
  ·simp only[Bool.and_eq_false_iff,AR] at q0
   refine gvC (F:=jw) ?_
   repeat' (first|refine aQ ?_|apply ae<;>intro h)
   all_goals try (exfalso;first|omega|(simp_all;done))
   all_goals
    refine au ?_
    (repeat' split)<;>first|rfl|(exfalso;(try simp only[ne_eq,AF] at*);omega)
  ·simp only[Av,AO] at q0
   refine gvC (F:=jw) ?_
   repeat' (first|refine aQ ?_|apply ae<;>intro h)
   all_goals try (exfalso;first|omega|(simp_all;done))
   all_goals
    refine au ?_
    (repeat' split)<;>first|rfl|(exfalso;(try simp only[ne_eq,AF] at*);omega)
 rw[Ac k1]
 by_cases k2:kind=2
 ·subst k2
  rw[Ad rfl,rA];dsimp only;have h0:=w n 0 4294967295;generalize q0:(decide (0<=n)&&decide (n<=4294967295))=B0 at*;cases B0
  ·simp only[Bool.and_eq_false_iff,AR] at q0
   refine gvC (F:=jw) ?_
   repeat' (first|refine aQ ?_|apply ae<;>intro h)
   all_goals try (exfalso;first|omega|(simp_all;done))
   all_goals
    refine au ?_
    (repeat' split)<;>first|rfl|(exfalso;(try simp only[ne_eq,AF] at*);omega)
  ·simp only[Av,AO] at q0
   refine gvC (F:=jw) ?_
   repeat' (first|refine aQ ?_|apply ae<;>intro h)
   all_goals try (exfalso;first|omega|(simp_all;done))
   all_goals
    refine au ?_
    (repeat' split)<;>first|rfl|(exfalso;(try simp only[ne_eq,AF] at*);omega)
 rw[Ac k2]
 by_cases k4:kind=4
 ·subst k4
  rw[Ad rfl,rA];dsimp only;have h0:=w n 0 4294967295;generalize q0:(decide (0<=n)&&decide (n<=4294967295))=B0 at*;cases B0
  ·simp only[Bool.and_eq_false_iff,AR] at q0
   refine gvC (F:=jw) ?_
   repeat' (first|refine aQ ?_|apply ae<;>intro h)
   all_goals try (exfalso;first|omega|(simp_all;done))
   all_goals
    refine au ?_
    (repeat' split)<;>first|rfl|(exfalso;(try simp only[ne_eq,AF] at*);omega)
  ·simp only[Av,AO] at q0
   refine gvC (F:=jw) ?_
   repeat' (first|refine aQ ?_|apply ae<;>intro h)
   all_goals try (exfalso;first|omega|(simp_all;done))
   all_goals
    refine au ?_
    (repeat' split)<;>first|rfl|(exfalso;(try simp only[ne_eq,AF] at*);omega)
 rw[Ac k4]
 by_cases k3:kind=3
 ·subst k3
  rw[Ad rfl,LZ];dsimp only;have h0:=w n 0 16777216;generalize q0:(decide (0<=n)&&decide (n<=16777216))=B0 at*;cases B0
  ·simp only[Bool.and_eq_false_iff,AR] at q0
   refine gvC (F:=jw) ?_
   repeat' (first|refine aQ ?_|apply ae<;>intro h)
   all_goals try (exfalso;first|omega|(simp_all;done))
   all_goals
    refine au ?_
    (repeat' split)<;>first|rfl|(exfalso;(try simp only[ne_eq,AF] at*);omega)
  ·simp only[Av,AO] at q0
   refine gvC (F:=jw) ?_
   repeat' (first|refine aQ ?_|apply ae<;>intro h)
   all_goals try (exfalso;first|omega|(simp_all;done))
   all_goals
    refine au ?_
    (repeat' split)<;>first|rfl|(exfalso;(try simp only[ne_eq,AF] at*);omega)
 rw[Ac k3]
 by_cases k5:kind=5
 ·subst k5
  rw[Ad rfl,Tz];dsimp only;refine gvC (F:=jw) ?_
  repeat' (first|refine aQ ?_|apply ae<;>intro h)
  all_goals try (exfalso;first|omega|(simp_all;done))
  all_goals
   refine au ?_
   (repeat' split)<;>first|rfl|(exfalso;(try simp only[ne_eq,AF] at*);omega)
 rw[Ac k5]
 by_cases k6:kind=6
 ·subst k6
  rw[Ad rfl,xc];dsimp only;refine gvC (F:=jw) ?_
  repeat' (first|refine aQ ?_|apply ae<;>intro h)
  all_goals try (exfalso;first|omega|(simp_all;done))
  all_goals
   refine au ?_
   (repeat' split)<;>first|rfl|(exfalso;(try simp only[ne_eq,AF] at*);omega)
 rw[Ac k6]
 by_cases k7:kind=7
 ·subst k7
  rw[Ad rfl,xc];dsimp only;refine gvC (F:=jw) ?_
  repeat' (first|refine aQ ?_|apply ae<;>intro h)
  all_goals try (exfalso;first|omega|(simp_all;done))
  all_goals
   refine au ?_
   (repeat' split)<;>first|rfl|(exfalso;(try simp only[ne_eq,AF] at*);omega)
 rw[Ac k7]
 by_cases k8:kind=8
 ·subst k8
  rw[Ad rfl,Tw];dsimp only;have h0:=w asn 1 4294967295;generalize q0:(decide (1<=asn)&&decide (asn<=4294967295))=B0 at*;have h1:=w n 1 16;generalize q1:(decide (1<=n)&&decide (n<=16))=B1 at*;cases B0
  ·simp only[Bool.and_eq_false_iff,AR] at q0
   cases B1
   ·simp only[Bool.and_eq_false_iff,AR] at q1
    refine gvC (F:=jw) ?_
    repeat' (first|refine aQ ?_|apply ae<;>intro h)
    all_goals try (exfalso;first|omega|(simp_all;done))
    all_goals
     refine au ?_
     (repeat' split)<;>first|rfl|(exfalso;(try simp only[ne_eq,AF] at*);omega)
   ·simp only[Av,AO] at q1
    refine gvC (F:=jw) ?_
    repeat' (first|refine aQ ?_|apply ae<;>intro h)
    all_goals try (exfalso;first|omega|(simp_all;done))
    all_goals
     refine au ?_
     (repeat' split)<;>first|rfl|(exfalso;(try simp only[ne_eq,AF] at*);omega)
  ·simp only[Av,AO] at q0
   cases B1
   ·simp only[Bool.and_eq_false_iff,AR] at q1
    refine gvC (F:=jw) ?_
    repeat' (first|refine aQ ?_|apply ae<;>intro h)
    all_goals try (exfalso;first|omega|(simp_all;done))
    all_goals
     refine au ?_
     (repeat' split)<;>first|rfl|(exfalso;(try simp only[ne_eq,AF] at*);omega)
   ·simp only[Av,AO] at q1
    refine gvC (F:=jw) ?_
    repeat' (first|refine aQ ?_|apply ae<;>intro h)
    all_goals try (exfalso;first|omega|(simp_all;done))
    all_goals
     refine au ?_
     (repeat' split)<;>first|rfl|(exfalso;(try simp only[ne_eq,AF] at*);omega)
 rw[Ac k8];refine gvC (F:=jw) ?_
 repeat' (first|refine aQ ?_|apply ae<;>intro h)
 all_goals (refine au ?_;rfl)
def vdE (v:Int):Int:=if v≠1/\v≠2/\v≠3 then 15 else 0
section
variable (s:PSet)(before:Da)(t:Trm)
def tE3:Int:=if 64<t.acts.length then 4 else if bg gQ t.acts=0 then vdE t.verdict else bg gQ t.acts
def tE2:Int:=if 64<t.mats.length then 4 else if bg (re s) t.mats=0 then tE3 t else bg (re s) t.mats
def tE1:Int:=if nmB t.name=false then 1 else if before.any (λu=>u.name==t.name) then 7 else tE2 s t
theorem Om (l:Dr)(t:Trm)(g7:Nat)(hl:l.length<2^40)(ln:Int)(hln:ln=l.length): ∀(rest done:Dr)(T:TV)(H:aq)(c:Nat)(n:Int)(e:l=done++rest)(hn:n=done.length),Ev G ⟨Vz,⟨(63,.sl 5 (l.map Actn.enc))::(64,.int .i64 ln)::(65,.int .i64 n)::(7,.ref 71 g7 0)::T,(71,some (g7,.cells t.enc))::H,c⟩,[.t 6],0⟩ (⟨.int .i64 (if bg gQ rest=0 then vdE t.verdict else bg gQ rest),[]⟩)
 | [],done,  T,H,c,n,e,hn=>by
  have hd:=md0 e;have hll:=ml l Actn.enc;rw[bg,Ad rfl,vdE]
  by_cases v1:t.verdict=1
  ·rw[Ac (λq=>q.1 v1)]
   refine evA ?_;refine au ?_;rfl
  by_cases v2:t.verdict=2
  ·rw[Ac (λq=>q.2.1 v2)]
   refine evA ?_;refine au ?_;rfl
  by_cases v3:t.verdict=3
  ·rw[Ac (λq=>q.2.2 v3)]
   refine evA ?_;refine au ?_;rfl
  rw[Ad ⟨v1,v2,v3⟩];refine evA ?_;refine au ?_;rfl
 |x::r,done,  T,H,c,n,e,hn=>by
  have hd:=md e;have hll:=ml l Actn.enc;have hx:=mx Actn.enc e hn;have h1:=LW x;rw[bg];generalize gQ x=E at*
  by_cases h0:E=0
  ·subst h0
   rw[Ad rfl];refine evA ?_;refine ag [63,64,65,7] [71] ?_;exact Om l t g7 hl ln hln r (done++[x])  _ _ _ (n+1) (by simp[e]) (by simp[hn]<;>omega)
  ·rw[Ac h0,Ac h0]
   refine evA ?_;refine au ?_;rfl
theorem Ol (l:Ds)(s:PSet)(hs:s.prefixes.length<2^40/\s.paths.length<2^40/\s.comms.length<2^40)(t:Trm)(g7:Nat)(hk: ∀m∈l,m.pfx.ok)(ha:t.acts.length<2^40)(hl:l.length<2^40)(ln:Int)(hln:ln=l.length): ∀(rest done:Ds)(T:TV)(H:aq)(c:Nat)(n:Int)(e:l=done++rest)(hn:n=done.length),Ev G ⟨VK,⟨(45,.sl 6 (l.map Mat.enc))::(46,.int .i64 ln)::(47,.int .i64 n)::(3,.ref 67 1 0)::(7,.ref 71 g7 0)::T,(67,some (1,.cells s.enc))::(71,some (g7,.cells t.enc))::H,c⟩,[.t 6],0⟩ (⟨.int .i64 (if bg (re s) rest=0 then tE3 t else bg (re s) rest),[]⟩)
 | [],done,  T,H,c,n,e,hn=>by
  have hd:=md0 e;have hll:=ml l Mat.enc;have m1:=ml t.acts Actn.enc;rw[bg,Ad rfl,tE3]
  by_cases c:64<t.acts.length
  ·rw[Ad c]
   have c':(t.acts.length:Int)>64:=by omega
   refine evA ?_;refine au ?_;rfl
  ·rw[Ac c]
   refine evA ?_;refine ag [63,64,65,7] [71] ?_;rw[m1];exact Om t.acts t g7 ha _ rfl t.acts [] _ _ _ 0 rfl rfl
 |x::r,done,  T,H,c,n,e,hn=>by
  have hd:=md e;have hll:=ml l Mat.enc;have hx:=mx Mat.enc e hn;have h1:=Ji s hs x (hk x (by simp[e]))
  rw[bg];generalize re s x=E at*
  by_cases h0:E=0
  ·subst h0
   rw[Ad rfl];refine evA ?_;refine ag [45,46,47,3,7] [67,71] ?_;exact Ol l s hs t g7 hk ha hl ln hln r (done++[x])  _ _ _ (n+1) (by simp[e]) (by simp[hn]<;>omega)
  ·rw[Ac h0,Ac h0]
   refine evA ?_;refine au ?_;rfl
theorem Uk (l:Da)(s:PSet)(hs:s.prefixes.length<2^40/\s.paths.length<2^40/\s.comms.length<2^40)(t:Trm)(g7:Nat)(hk: ∀m∈t.mats,m.pfx.ok)(ha:t.acts.length<2^40)(hm:t.mats.length<2^40)(hl:l.length<2^40)(ln:Int)(hln:ln=l.length): ∀(rest done:Da)(T:TV)(H:aq)(c:Nat)(n:Int)(e:l=done++rest)(hn:n=done.length),Ev G ⟨VL,⟨(28,.sl 4 (l.map Trm.enc))::(29,.int .i64 ln)::(30,.int .i64 n)::(7,.ref 71 g7 0)::(3,.ref 67 1 0)::T,(67,some (1,.cells s.enc))::(71,some (g7,.cells t.enc))::H,c⟩,[.t 6],0⟩ (⟨.int .i64 (if rest.any (λu=>u.name==t.name) then 7 else tE2 s t),[]⟩)
 | [],done,  T,H,c,n,e,hn=>by
  have hd:=md0 e;have hll:=ml l Trm.enc;have m1:=ml t.mats Mat.enc;rw[List.any_nil,Ac (by simp),tE2]
  by_cases c:64<t.mats.length
  ·rw[Ad c]
   have c':(t.mats.length:Int)>64:=by omega
   refine evA ?_;refine au ?_;rfl
  ·rw[Ac c]
   refine evA ?_;refine ag [45,46,47,3,7] [67,71] ?_;rw[m1];exact Ol t.mats s hs t g7 hk ha hm _ rfl t.mats [] _ _ _ 0 rfl rfl
 |x::r,done,  T,H,c,n,e,hn=>by
  have hd:=md e;have hll:=ml l Trm.enc;have hx:=mx Trm.enc e hn;rw[List.any_cons]
  by_cases hn:x.name=t.name
  ·rw[show (x.name==t.name)=true from by simp[hn],Bool.true_or,Ad rfl]
   refine evl ?_
   repeat' (first|refine bz ?_|apply ae<;>intro h)
   refine au ?_;rfl
  ·rw[show (x.name==t.name)=false from by simp[hn],Bool.false_or]
   refine evl ?_
   repeat' (first|refine bz ?_|apply ae<;>intro h)
   refine ag [28,29,30,7,3] [67,71] ?_;exact Uk l s hs t g7 hk ha hm hl ln hln r (done++[x])  _ _ _ (n+1) (by simp[e]) (by simp[hn]<;>omega)
theorem Mg (hs:s.prefixes.length<2^40/\s.paths.length<2^40/\s.comms.length<2^40)(p:Pol)(i:Nat)(t:Trm)(ht:p.terms[i]? =some t)(hp:p.terms.length<2^40)(hk: ∀m∈t.mats,m.pfx.ok)(ha:t.acts.length<2^40)(hm:t.mats.length<2^40)(hn:t.name.length<2^40):ab G 501 [.agg s.enc,.agg p.enc,.int .i64 (i:Int)] [] ⟨.int .i64 (tE1 s (p.terms.take i) t),[]⟩:=by
 have hi:i<p.terms.length:=(AC.1 ht).1;have hx:(p.terms.map Trm.enc)[((i:Nat):Int).toNat]? =some t.enc:=by simp[ht]
 have hll:=ml p.terms Trm.enc;have h1:=vi t.name hn;rw[tE1];cases hb:nmB t.name with
 |false=>
  rw[hb] at h1;rw[Ad rfl];exact gvA (F:=wL)
 |true=>
  rw[hb] at h1;rw[Ac (by simp)]
  refine gvB (F:=wL) ?_;refine ag [28,29,30,7,3] [67,71] ?_;have ht2:((p.terms.take i).map Trm.enc).length=(p.terms.take i).length:=by simp
  have hE:List.take (((i:Nat):Int).toNat-0) (List.drop 0 (p.terms.map Trm.enc))=(p.terms.take i).map Trm.enc:=by simp[List.map_take]
  rw[hE,ht2];exact Uk (p.terms.take i) s hs t _ hk ha hm (by simp;omega) _ rfl (p.terms.take i) [] _ _ _ 0 rfl rfl
end
def jy (s:PSet):Da->Da->Int
 |_,[]=>0
 |d,t::r=>if tE1 s d t=0 then jy s (d++[t]) r else tE1 s d t
def dfE (d:Int):Int:=if d≠1/\d≠2 then 15 else 0
def qU (s:PSet):C9->CF->Bool->Int
 | [],_,_=>0
 |p::r,b,f=>if fX p.name b f p.terms.length=0 then (if jy s [] p.terms=0 then (if dfE p.dflt=0 then qU s r p.name false else dfE p.dflt) else jy s [] p.terms) else fX p.name b f p.terms.length
def iA (s:PSet):Int:=if kh s.prefixes=0 then (if lK s.paths=0 then (if kg s.comms=0 then (if 64<s.pols.length then 4 else qU s s.pols [] true) else kg s.comms) else lK s.paths) else kh s.prefixes
structure Trm.goodT (t:Trm):Prop where
 nm:t.name.length<2^40
 ms:t.mats.length<2^40
 acz:t.acts.length<2^40
 ok: ∀m∈t.mats,m.pfx.ok
structure PSet.good (s:PSet):Prop where
 a:s.prefixes.length<2^40
 b:s.paths.length<2^40
 c:s.comms.length<2^40
 d:s.pols.length<2^40
 pre: ∀x∈s.prefixes,x.name.length<2^40/\x.rules.length<2^40/\ ∀r∈x.rules,r.ok
 pat: ∀x∈s.paths,x.name.length<2^40/\x.rules.length<2^40/\ ∀r∈x.rules,r.pattern.length<2^32
 com: ∀x∈s.comms,x.name.length<2^40/\x.rules.length<2^40/\True
 pol: ∀x∈s.pols,x.name.length<2^40/\x.terms.length<2^40/\ ∀t∈x.terms,t.goodT
theorem DM (s:PSet)(hs:s.good)(p:Pol)(hp:p.name.length<2^40/\p.terms.length<2^40/\ ∀t∈p.terms,t.goodT)(ls:CS)(len i:Int)(hi:0<=i/\i<2^40)(g8:Nat)(R:Ret)(go:jy s [] p.terms=0->dfE p.dflt=0-> ∀(T:TV) (H:aq) (c:Nat),Ev G ⟨Dm,⟨(35,.sl 3 ls)::(36,.int .i64 len)::(37,.int .i64 (i+1))::(1,.ref 65 1 0)::(6,.str p.name)::T,(65,some (1,.cells s.enc))::H,c⟩,[.t 2],0⟩ R)(hR:jy s [] p.terms≠0->R=⟨.int .i64 (jy s [] p.terms),[]⟩)(hD:jy s [] p.terms=0->dfE p.dflt≠0->R=⟨.int .i64 (dfE p.dflt),[]⟩):
  ∀(rest done:Da)(T:TV)(H:aq)(c:Nat)(n:Int)(e:p.terms=done++rest)(hn:n=done.length)(hz:jy s done rest=jy s [] p.terms),
  Ev G ⟨VY,⟨(59,.int .i64 n)::(8,.ref 72 g8 0)::(1,.ref 65 1 0)::(6,.str p.name)::(35,.sl 3 ls)::(36,.int .i64 len)::(37,.int .i64 i)::(58,.int .i64 p.terms.length)::T,(65,some (1,.cells s.enc))::(72,some (g8,.cells p.enc))::H,c⟩,[.t 2],0⟩ R
 | [],done,T,H,c,n,e,hn,hz=>by
  have hd:=md0 e;have hz0:jy s [] p.terms=0:=by rw[<-hz];rfl
  have go:=go hz0;have hD:=hD hz0;rw[dfE] at go hD
  by_cases v1:p.dflt=1
  ·have go:=go (Ac (λq=>q.1 v1))
   refine evA ?_;refine ag [35,36,37,1,6] [65] ?_;exact go _ _ _
  by_cases v2:p.dflt=2
  ·have go:=go (Ac (λq=>q.2 v2))
   refine evA ?_;refine ag [35,36,37,1,6] [65] ?_;exact go _ _ _
  rw[Ad ⟨v1,v2⟩] at hD;rw[hD (by omega)]
  refine evA ?_;refine au ?_;rfl
 |t::r,done,T,H,c,n,e,hn,hz=>by
  obtain ⟨hp1,hp2,hp3⟩:=hp;have hd:=md e;have ht:=hp3 t (by simp[e])
  have h1:=Mg s ⟨hs.a,hs.b,hs.c⟩ p done.length t (by simp[e]) hp2 ht.ok ht.acz ht.ms ht.nm
  rw[show p.terms.take done.length=done from by simp[e],<-hn] at h1
  rw[jy] at hz;generalize tE1 s done t=E at*
  by_cases h0:E=0
  ·subst h0
   rw[Ad rfl] at hz;refine evA ?_;refine ag [59,8,1,6,35,36,37,58] [65,72] ?_;exact DM s hs p ⟨hp1,hp2,hp3⟩ ls len i hi g8 R go hR hD r (done++[t]) _ _ _ (n+1) (by simp[e]) (by simp[hn]) hz
  ·rw[Ac h0] at hz
   rw[hR (by rw[<-hz];exact h0),<-hz]
   refine evA ?_;refine au ?_;rfl
theorem DL (l:C9)(s:PSet)(hs:s.good)(hl1:s.pols=l)(hl:l.length<2^40)(ln:Int)(hln:ln=l.length): ∀(rest done:C9)(bf:CF)(fst:Bool)(T:TV)(H:aq)(c:Nat)(n:Int)(e:l=done++rest)(hn:n=done.length)(hf:(n==0)=fst),Ev G ⟨Dm,⟨(35,.sl 3 (l.map Pol.enc))::(36,.int .i64 ln)::(37,.int .i64 n)::(1,.ref 65 1 0)::(6,.str bf)::T,(65,some (1,.cells s.enc))::H,c⟩,[.t 2],0⟩ (⟨.int .i64 (qU s rest bf fst),[]⟩)
 | [],done,bf,fst,T,H,c,n,e,hn,hf=>by
  have hd:=md0 e;have hll:=ml l Pol.enc;refine evA ?_;refine au ?_;rfl
 |x::r,done,bf,fst,T,H,c,n,e,hn,hf=>by
  have hd:=md e;have hll:=ml l Pol.enc;have hx:=mx Pol.enc e hn;have hp:=hs.pol x (by rw[hl1];simp[e])
  have hp1:=hp.1;have hp2:=hp.2.1;have m1:=ml x.terms Trm.enc;have h1:=kr x.name bf hp1 (n==0) x.terms.length;have hE:fX x.name bf (n==0) x.terms.length=fX x.name bf fst x.terms.length:=by rw[hf]
  rw[hE] at h1;rw[<-m1] at h1;rw[qU,<-m1];generalize fX x.name bf fst (x.terms.map Trm.enc).length=E at*
  by_cases h0:E=0
  ·rw[Ad h0]
   subst h0;refine evA ?_;refine ag [59,8,1,6,35,36,37,58] [65,72] ?_;rw[m1]
   have hn1:(n+1==0)=false:=by
    have: ¬n+1=0:=by omega
    simpa using this
   refine DM s hs x hp _ ln n (by omega) _ _ (λq1 q2 T H c=>?_) (λhq=>by rw[Ac hq]) (λq1 q2=>by rw[Ad q1,Ac q2]) x.terms [] _ _ _ 0 rfl rfl rfl
   rw[Ad q1,Ad q2];exact DL l s hs hl1 hl ln hln r (done++[x]) x.name false T H c (n+1) (by simp[e]) (by simp[hn]<;>omega) hn1
  ·rw[Ac h0]
   refine evA ?_;refine au ?_;rfl
theorem K9 (s:PSet)(hs:s.good):ab G 444 [.agg s.enc] [] ⟨.int .i64 (iA s),[]⟩:=by
 have h1:=Jp s.prefixes hs.a hs.pre;have h2:=Jo s.paths hs.b hs.pat;have h3:=Jn s.comms hs.c hs.com;have m1:=ml s.pols Pol.enc;have hd:=hs.d;rw[iA];generalize kh s.prefixes=A at*;generalize lK s.paths=B at*;generalize kg s.comms=C at*
 by_cases a:A=0
 ·subst a
  rw[Ad rfl]
  by_cases b:B=0
  ·subst b
   rw[Ad rfl]
   by_cases c:C=0
   ·subst c
    rw[Ad rfl]
    by_cases d:64<s.pols.length
    ·rw[Ad d]
     have d':(s.pols.length:Int)>64:=by omega
     exact gvA (F:=rx)
    ·rw[Ac d]
     refine gvB (F:=rx) ?_;refine ag [35,36,37,1,6] [65] ?_;rw[m1];exact DL s.pols s hs rfl hd _ rfl s.pols [] [] true _ _ _ 0 rfl rfl rfl
   ·rw[Ac c]
    exact gvA (F:=rx)
  ·rw[Ac b]
   exact gvA (F:=rx)
 ·rw[Ac a]
  exact gvA (F:=rx)
@[simp] theorem Ij: ∀(n:Nat)(l:CS),aa l=true->aa (l.take n)=true
 |0,l,_=>by simp[aa]
 |n+1,[],_=>by simp[aa]
 |n+1,x::r,h=>by
  simp only[aa,Av] at h;simp only[List.take_succ_cons,aa,h.1,Ij n r h.2,Bool.and_self]
@[simp] theorem Iw: ∀(n:Nat)(l:CS),aa l=true->aa (l.drop n)=true
 |0,l,h=>h
 |n+1,[],_=>by simp[aa]
 |n+1,x::r,h=>by
  simp only[aa,Av] at h;exact Iw n r h.2
section
variable (k:Kn)
def Gh (t:Trm):Int:=if 64<t.mats.length then 4 else if bg (mtE k) t.mats=0 then tE3 t else bg (mtE k) t.mats
def f9 (before:Da)(t:Trm):Int:=if nmB t.name=false then 1 else if before.any (λu=>u.name==t.name) then 7 else Gh k t
theorem Oh (l:Dr)(t:Trm)(g5:Nat)(hl:l.length<2^40)(ln:Int)(hln:ln=l.length): ∀(rest done:Dr)(T:TV)(H:aq)(c:Nat)(n:Int)(e:l=done++rest)(hn:n=done.length),Ev G ⟨Vp,⟨(54,.sl 5 (l.map Actn.enc))::(55,.int .i64 ln)::(56,.int .i64 n)::(5,.ref 69 g5 0)::T,(69,some (g5,.cells t.enc))::H,c⟩,[.t 6],0⟩ (⟨.int .i64 (if bg gQ rest=0 then vdE t.verdict else bg gQ rest),[]⟩)
 | [],done,  T,H,c,n,e,hn=>by
  have hd:=md0 e;have hll:=ml l Actn.enc;have h1:=jB t.verdict 1 3;rw[bg,Ad rfl,vdE];generalize hq:(decide (1<=t.verdict)&&decide (t.verdict<=3))=B at*;cases B
  ·simp only[Bool.and_eq_false_iff,AR] at hq
   rw[Ad (by omega)]
   refine evA ?_;refine au ?_;rfl
  ·simp only[Av,AO] at hq
   rw[Ac (by omega)]
   refine evA ?_;refine au ?_;rfl
 |x::r,done,  T,H,c,n,e,hn=>by
  have hd:=md e;have hll:=ml l Actn.enc;have hx:=mx Actn.enc e hn;have h1:=qg x;rw[bg];generalize gQ x=E at*
  by_cases h0:E=0
  ·subst h0
   rw[Ad rfl];refine evA ?_;refine ag [54,55,56,5] [69] ?_;exact Oh l t g5 hl ln hln r (done++[x])  _ _ _ (n+1) (by simp[e]) (by simp[hn]<;>omega)
  ·rw[Ac h0,Ac h0]
   refine evA ?_;refine au ?_;rfl
theorem Og (l:Ds)(k:Kn)(hf:k.fit)(t:Trm)(g3 g5:Nat)(hk: ∀m∈l,m.pfx.ok)(ha:t.acts.length<2^40)(hl:l.length<2^40)(ln:Int)(hln:ln=l.length): ∀(rest done:Ds)(T:TV)(H:aq)(c:Nat)(n:Int)(e:l=done++rest)(hn:n=done.length),Ev G ⟨Vq,⟨(36,.sl 6 (l.map Mat.enc))::(37,.int .i64 ln)::(38,.int .i64 n)::(3,.ref 67 g3 0)::(5,.ref 69 g5 0)::T,(67,some (g3,.cells k.enc))::(69,some (g5,.cells t.enc))::H,c⟩,[.t 6],0⟩ (⟨.int .i64 (if bg (mtE k) rest=0 then tE3 t else bg (mtE k) rest),[]⟩)
 | [],done,  T,H,c,n,e,hn=>by
  have hd:=md0 e;have hll:=ml l Mat.enc;have m1:=ml t.acts Actn.enc;rw[bg,Ad rfl,tE3]
  by_cases c:64<t.acts.length
  ·rw[Ad c]
   have c':(t.acts.length:Int)>64:=by omega
   refine evA ?_;refine au ?_;rfl
  ·rw[Ac c]
   refine evA ?_;refine ag [54,55,56,5] [69] ?_;rw[m1];exact Oh t.acts t _ ha _ rfl t.acts [] _ _ _ 0 rfl rfl
 |x::r,done,  T,H,c,n,e,hn=>by
  have hd:=md e;have hll:=ml l Mat.enc;have hx:=mx Mat.enc e hn;have h1:=p7 k hf x (hk x (by simp[e]))
  rw[bg];generalize mtE k x=E at*
  by_cases h0:E=0
  ·subst h0
   rw[Ad rfl];refine evA ?_;refine ag [36,37,38,3,5] [67,69] ?_;exact Og l k hf t g3 g5 hk ha hl ln hln r (done++[x])  _ _ _ (n+1) (by simp[e]) (by simp[hn]<;>omega)
  ·rw[Ac h0,Ac h0]
   refine evA ?_;refine au ?_;rfl
theorem Ui (l:Da)(k:Kn)(hf:k.fit)(t:Trm)(g3 g5:Nat)(hk: ∀m∈t.mats,m.pfx.ok)(ha:t.acts.length<2^40)(hm:t.mats.length<2^40)(hl:l.length<2^40)(ln:Int)(hln:ln=l.length): ∀(rest done:Da)(T:TV)(H:aq)(c:Nat)(n:Int)(e:l=done++rest)(hn:n=done.length),Ev G ⟨aaw,⟨(19,.sl 4 (l.map Trm.enc))::(20,.int .i64 ln)::(21,.int .i64 n)::(3,.ref 67 g3 0)::(5,.ref 69 g5 0)::T,(67,some (g3,.cells k.enc))::(69,some (g5,.cells t.enc))::H,c⟩,[.t 6],0⟩ (⟨.int .i64 (if rest.any (λu=>u.name==t.name) then 7 else Gh k t),[]⟩)
 | [],done,  T,H,c,n,e,hn=>by
  have hd:=md0 e;have hll:=ml l Trm.enc;have m1:=ml t.mats Mat.enc;rw[List.any_nil,Ac (by simp),Gh]
  by_cases c:64<t.mats.length
  ·rw[Ad c]
   have c':(t.mats.length:Int)>64:=by omega
   refine evA ?_;refine au ?_;rfl
  ·rw[Ac c]
   refine evA ?_;refine ag [36,37,38,3,5] [67,69] ?_;rw[m1];exact Og t.mats k hf t _ _ hk ha hm _ rfl t.mats [] _ _ _ 0 rfl rfl
 |x::r,done,  T,H,c,n,e,hn=>by
  have hd:=md e;have hll:=ml l Trm.enc;have hx:=mx Trm.enc e hn;rw[List.any_cons]
  by_cases hn:x.name=t.name
  ·rw[show (x.name==t.name)=true from by simp[hn],Bool.true_or,Ad rfl]
   refine evl ?_
   repeat' ((conv=>whnf);first|refine Qw hn ?_|refine ay ?_|apply ae<;>intro h)
   refine au ?_;rfl
  ·rw[show (x.name==t.name)=false from by simp[hn],Bool.false_or]
   refine evl ?_
   repeat' ((conv=>whnf);first|refine Qx hn ?_|refine ay ?_|apply ae<;>intro h)
   refine ag [19,20,21,3,5] [67,69] ?_;exact Ui l k hf t g3 g5 hk ha hm hl ln hln r (done++[x])  _ _ _ (n+1) (by simp[e]) (by simp[hn]<;>omega)
theorem pQ (hf:k.fit)(d:Da)(hd:d.length<2^40)(t:Trm)(g:t.goodT):ab G 582 [.agg k.enc,.sl 4 (d.map Trm.enc),.agg t.enc] [] ⟨.int .i64 (f9 k d t),[]⟩:=by
 have m1:=ml d Trm.enc;have h1:=vh t.name g.nm;rw[f9];cases hb:nmB t.name with
 |false=>
  rw[hb] at h1;rw[Ad rfl];exact gvA (F:=wC)
 |true=>
  rw[hb] at h1;rw[Ac (by simp)]
  refine gvB (F:=wC) ?_;refine ag [19,20,21,3,5] [67,69] ?_;rw[m1];exact Ui d k hf t _ _ g.ok g.acz g.ms hd _ rfl d [] _ _ _ 0 rfl rfl
def ic (k:Kn):Da->Da->Int
 |_,[]=>0
 |d,t::r=>if f9 k d t=0 then ic k (d++[t]) r else f9 k d t
def plE (p:Pol):Int:=if ic k [] p.terms=0 then dfE p.dflt else ic k [] p.terms
theorem xU (l:Da)(k:Kn)(hf:k.fit)(p:Pol)(g2 g3:Nat)(hp:p.terms=l)(hk: ∀t∈l,t.goodT)(hl:l.length<2^40)(ln:Int)(hln:ln=l.length): ∀(rest done:Da)(T:TV)(H:aq)(c:Nat)(n:Int)(e:l=done++rest)(hn:n=done.length),Ev G ⟨aaI,⟨(9,.sl 4 (l.map Trm.enc))::(10,.int .i64 ln)::(11,.int .i64 n)::(2,.ref 66 g2 0)::(3,.ref 67 g3 0)::T,(66,some (g2,.cells k.enc))::(67,some (g3,.cells p.enc))::H,c⟩,[.t 4],0⟩ (⟨.int .i64 (if ic k done rest=0 then dfE p.dflt else ic k done rest),[]⟩)
 | [],done,  T,H,c,n,e,hn=>by
  have hd:=md0 e;have hll:=ml l Trm.enc;rw[ic,Ad rfl,dfE]
  by_cases c1:p.dflt=1
  ·rw[Ac (λq=>q.1 c1)]
   refine evA ?_;refine au ?_;rfl
  by_cases c2:p.dflt=2
  ·rw[Ac (λq=>q.2 c2)]
   refine evA ?_;refine au ?_;rfl
  rw[Ad ⟨c1,c2⟩];refine evA ?_;refine au ?_;rfl
 |x::r,done,  T,H,c,n,e,hn=>by
  have hd:=md e;have hll:=ml l Trm.enc;have hx:=mx Trm.enc e hn;have m1:=ml p.terms Trm.enc;have hlen:p.terms.length=l.length:=by rw[hp]
  have h1:ab G 582 [.agg k.enc,.sl 4 ((List.take (n.toNat-0) (List.drop 0 (p.terms.map Trm.enc)))),.agg x.enc] [] ⟨.int .i64 (f9 k done x),[]⟩:=by
   have h:=pQ k hf done (by omega) x (hk x (by simp[e]))
   have q:List.take (n.toNat-0) (List.drop 0 (p.terms.map Trm.enc))=done.map Trm.enc:=by
    rw[hp,e,hn];simp
   rw[q];exact h
  rw[ic];generalize f9 k done x=E at*
  by_cases h0:E=0
  ·subst h0
   rw[Ad rfl];refine evA ?_;refine ag [9,10,11,2,3] [66,67] ?_;exact xU l k hf p g2 g3 hp hk hl ln hln r (done++[x])  _ _ _ (n+1) (by simp[e]) (by simp[hn]<;>omega)
  ·rw[Ac h0,Ac h0]
   refine evA ?_;refine au ?_;rfl
theorem Nh (hf:k.fit)(p:Pol)(hl:p.terms.length<2^40)(hk: ∀t∈p.terms,t.goodT):ab G 523 [.agg k.enc,.agg p.enc] [] ⟨.int .i64 (plE k p),[]⟩:=by
 have m1:=ml p.terms Trm.enc;unfold plE;refine gvB (F:=SD) ?_;refine ag [9,10,11,2,3] [66,67] ?_;rw[m1];exact xU p.terms k hf p _ _ rfl hk hl _ rfl p.terms [] _ _ _ 0 rfl rfl
end
end Go.AM.IR
