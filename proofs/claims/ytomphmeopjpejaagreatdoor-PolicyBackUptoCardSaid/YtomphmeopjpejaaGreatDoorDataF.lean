/- What functions of this program give. -/
import Derived.Test.YtomphmeopjpejaaGreatDoorDataE
set_option linter.unusedVariables false
set_option linter.unusedSimpArgs false
set_option maxHeartbeats 4000000
set_option maxRecDepth 20000
namespace Go.AM.IR
abbrev pzA {g0 g1 g2 g3 g4 g5 g6 g7 g8 s1 s2 s3 s4 s5 s6 s7 s8:Nat}{x:CL}{e1 e2 e3 e4 e5 e6 e7 e8:CS}:Pzs:=[(0,g0,.cells x),(1,g1,.vec s1 e1),(2,g2,.vec s2 e2),(3,g3,.vec s3 e3),(4,g4,.vec s4 e4),(5,g5,.vec s5 e5),(6,g6,.vec s6 e6),(7,g7,.vec s7 e7),(8,g8,.vec s8 e8)]
abbrev pzD {g0 g1 g2 g3 g4 g5 g6 g7 g8 g9 g10 g11 s1 s2 s3 s4 s5 s6 s7 s8 s9 s10 s11:Nat}{x:CL}{e1 e2 e3 e4 r4 e5 e6 e7 e8 e9 r9 e10 e11:CS}:Pzs:=[(0,g0,.cells x),(1,g1,.vec s1 e1),(2,g2,.vec s2 e2),(3,g3,.vec s3 e3),(4,g4,.nest s4 e4 r4),(5,g5,.vec s5 e5),(6,g6,.vec s6 e6),(7,g7,.vec s7 e7),(8,g8,.vec s8 e8),(9,g9,.nest s9 e9 r9),(10,g10,.vec s10 e10),(11,g11,.vec s11 e11)]
section
variable {g0 g1 g2 g3 g4 g5 g6 g7 g8 g9 s1 s2 s3 s4 s5 s6 s7 s8 s9:Nat}{x:CL}
abbrev pzC {e1 e2 e3 e4 r4 e5 e6 e7 e8 e9:CS}:Pzs:=[(0,g0,.cells x),(1,g1,.vec s1 e1),(2,g2,.vec s2 e2),(3,g3,.vec s3 e3),(4,g4,.nest s4 e4 r4),(5,g5,.vec s5 e5),(6,g6,.vec s6 e6),(7,g7,.vec s7 e7),(8,g8,.vec s8 e8),(9,g9,.vec s9 e9)]
abbrev jG {e1 e2 e3 r3 e4 e5 e6 e7 e8 e9:CS}:Pzs:=[(0,g0,.cells x),(1,g1,.vec s1 e1),(2,g2,.vec s2 e2),(3,g3,.nest s3 e3 r3),(4,g4,.vec s4 e4),(5,g5,.vec s5 e5),(6,g6,.vec s6 e6),(7,g7,.vec s7 e7),(8,g8,.vec s8 e8),(9,g9,.vec s9 e9)]
abbrev j3 {e1 e2 r2 e3 e4 e5 e6 e7 e8 e9:CS}:Pzs:=[(0,g0,.cells x),(1,g1,.vec s1 e1),(2,g2,.nest s2 e2 r2),(3,g3,.vec s3 e3),(4,g4,.vec s4 e4),(5,g5,.vec s5 e5),(6,g6,.vec s6 e6),(7,g7,.vec s7 e7),(8,g8,.vec s8 e8),(9,g9,.vec s9 e9)]
abbrev lC {e1 r1 e2 e3 e4 e5 e6 e7 e8 e9:CS}:Pzs:=[(0,g0,.cells x),(1,g1,.nest s1 e1 r1),(2,g2,.vec s2 e2),(3,g3,.vec s3 e3),(4,g4,.vec s4 e4),(5,g5,.vec s5 e5),(6,g6,.vec s6 e6),(7,g7,.vec s7 e7),(8,g8,.vec s8 e8),(9,g9,.vec s9 e9)]
end
def pF (e:Int):Ret:=⟨pnV (.ifc 138 (.agg [.int .i64 e])),[]⟩
theorem aM (b:Bool):ab G 586 [.bool b] [] (if b then ⟨.tup [],[]⟩ else pF 2):=by
 cases b
 ·refine gvB (F:=Sx) ?_
  refine jO ?_;rfl
 ·exact gvA (F:=Sx)
theorem bw (e:Int):ab G 590 [.int .i64 e] [] (if e=0 then ⟨.tup [],[]⟩ else pF e):=by
 by_cases h:e=0
 ·rw[Ad h]
  exact gvA (F:=Sv)
 ·rw[Ac h]
  refine gvB (F:=Sv) ?_;refine jO ?_;rfl
theorem b9 (n:Int):ab G 587 [.int .i64 n] [] (if n<64 then ⟨.tup [],[]⟩ else pF 4):=by
 by_cases h:n<64
 ·rw[Ad h]
  exact gvA (F:=Sw)
 ·rw[Ac h]
  have h4:=λ(_:True)=>bw 4
  refine gvB (F:=Sw) ?_
  (conv=>whnf)
  refine CallG.stop ?_;refine aE 590 (h4 trivial) (λQ hr hg=>?_)
  refine kV hg ?_;rfl
def ax:CF->CF×CF
 | []=>([],[])
 |c::r=>if c=32 then ([],r) else (c::(ax r).1,(ax r).2)
theorem wT {d:CF}(h: ∀c∈d,c≠32)(r:CF):ax (d++r)=(d++(ax r).1,(ax r).2):=by
 induction d with
 |nil=>rfl
 |cons c d ih=>
  have hc:c≠32:=h c (by simp)
  simp only[B4,ax,Ac hc,ih λx hx=>h x (by simp[hx])]
theorem vn (s:CF)(hs:s.length<2^40): ∀(rest done:CF)(T:TV)(H:aq)(c:Nat)(n:Int)(e:s=done++rest)(hn:n=done.length)(hd: ∀c∈done,c≠32),
  Ev G ⟨aau,⟨(0,.str s)::(6,.int .i64 (s.length:Int))::(7,.int .i64 n)::T,H,c⟩,[.t 2,.t 3],0⟩ ⟨.tup [.str (ax s).1,.str (ax s).2],[]⟩
 | [],done,T,H,c,n,e,hn,hd=>by
  have hsl:=md0 e;have h1:ax s=(s,[]):=by rw[e,wT hd];simp[ax]
  rw[h1];refine evA ?_;refine au ?_;rfl
 |x::rest,done,T,H,c,n,e,hn,hd=>by
  have hsl:=md e;have hb:s[n.toNat]? =some x:=by rw[e,hn];simp
  have hx:=x.toNat_lt
  by_cases h:x=32
  ·subst h
   have h1:ax s=(done,rest):=by rw[e,wT hd];simp[ax]
   have t1:List.take (n.toNat-0) (List.drop 0 s)=done:=by rw[e,hn];simp
   have t2:List.take (s.length- (n+1).toNat) (List.drop (n+1).toNat s)=rest:=by
    rw[hn,show ((done.length:Int)+1).toNat=done.length+1 from by omega,e,show done++32::rest=(done++[32])++rest from by simp]
    rw[show done.length+1=(done++[32]).length from by simp,List.drop_left,List.take_of_length_le (by simp;omega)]
   rw[h1];refine evl ?_
   repeat' (first|refine bz ?_|apply ae<;>intro h)
   refine au ?_;rw[t1,t2]
  ·have hne: ¬(x.toNat:Int)=32:=λq=>h (A9.1 (by simpa using (by omega:x.toNat=32)))
   have ih:=λT H c=>vn s hs rest (done++[x]) T H c (n+1) (by simp[e]) (by simp[hn]) (by
    intro y hy;rcases B5.1 hy with hy|hy
    ·exact hd y hy
    ·rw[B6.1 hy];exact h)
   refine evl ?_
   repeat' (first|refine bz ?_|apply ae<;>intro h)
   refine ag [0,6,7] [] ?_;exact ih _ _ _
theorem az (s:CF)(hs:s.length<2^40):ab G 592 [.str s] [] ⟨.tup [.str (ax s).1,.str (ax s).2],[]⟩:=by
 refine gvB (F:=Ss) ?_;refine ag [0,6,7] [] ?_;exact vn s hs s [] _ _ _ 0 rfl rfl (by simp)
section
variable {kv:AV->Prop}
theorem nv {q:IntKind}{a b:Int}(h:a=b)(k:kv (.bool true)): ∃v,bp .eql (.int q a) (.int q b)=some v/\kv v:=⟨.bool true,by simp[bp,h],k⟩
theorem jf {q:IntKind}{a b:Int}(h: ¬a=b)(k:kv (.bool false)): ∃v,bp .eql (.int q a) (.int q b)=some v/\kv v:=⟨.bool false,by simp[bp,h],k⟩
end
section
variable {kv:AV->Prop}
theorem bl {a:CF}(h:kv (.bool true)): ∃v,bp .eql (.str a) (.str a)=some v/\kv v:=⟨.bool true,by show some (AV.bool (a==a))=_;simp,h⟩
theorem aU {a b:CF}(n:a≠b)(h:kv (.bool false)): ∃v,bp .eql (.str a) (.str b)=some v/\kv v:=⟨.bool false,by show some (AV.bool (a==b))=_;simp[n],h⟩
end
section
variable (s:CF)
def bv:Bool:=decide (s≠ [])&&(decide ((10:UInt8)∉s)&&decide ((32:UInt8)∉s))
theorem Uq {s:CF}(h:(32:UInt8)∉s):Lib.split s [32]= [s]:=J.split_none 32 s h
theorem Uo {s:CF}(h:(32:UInt8)∈s):(Lib.split s [32]).length≠1:=by
 rcases J.sep_cases 32 s with q|⟨a,r,q,rfl⟩
 ·exact absurd h q
 ·rw[J.split_hit 32 a r q]
  have:=J.split_ne 32 r;cases h2:Lib.split r [32] with
  |nil=>exact absurd h2 this
  |cons x y=>simp
theorem aZ (hs:s.length<4294967281):ab G 597 [.str s] [] (if bv s=true then ⟨.str s,[]⟩ else pF 2):=by
 have hw:=J.words_gives339 s hs;have h2:=λ(_:True)=>aM false
 have h3:=aM true;rw[Ad rfl] at h3;unfold J.wrR J.wordsS at hw
 by_cases c0:s= []
 ·subst c0
  rw[Ac (by decide)]
  rw[Ad rfl] at hw;dsimp only at hw;rw[Ad rfl] at hw;refine gvB (F:=wB) ?_
  (conv=>whnf)
  refine CallG.stop ?_;refine aE 586 (h2 trivial) (λQ hr hg=>?_)
  refine kV hg ?_;rfl
 rw[Ac c0] at hw
 by_cases c1:(10:UInt8)∈s
 ·rw[Ac (by simp[bv,c1])]
  rw[Ad c1] at hw;dsimp only at hw;refine gvB (F:=wB) ?_
  (conv=>whnf)
  refine CallG.stop ?_;refine aE 586 (h2 trivial) (λQ hr hg=>?_)
  refine kV hg ?_;rfl
 rw[Ac c1] at hw
 by_cases c2:(32:UInt8)∈s
 ·rw[Ac (by simp[bv,c2])]
  have hl:(Lib.split s [32]).length≠1:=Uo c2
  by_cases c3: []∈Lib.split s [32]
  ·rw[Ad c3] at hw
   dsimp only at hw;refine gvB (F:=wB) ?_
   (conv=>whnf)
   refine CallG.stop ?_;refine aE 586 (h2 trivial) (λQ hr hg=>?_)
   refine kV hg ?_;rfl
  ·rw[Ac c3] at hw
   dsimp only at hw;rw[Ac c0] at hw;have hp:aa ((Lib.split s [32]).map J.encS)=true:=by simp
   have hm: ¬(((Lib.split s [32]).map J.encS).length:Int)=1:=by simp;omega
   refine gvC (F:=wB) ?_
   repeat' ((conv=>whnf);first|refine jf hm ?_|refine ay ?_|apply ae<;>intro h)
   (conv=>whnf)
   refine CallG.stop ?_;refine aE 586 (h2 trivial) (λQ hr hg=>?_)
   refine kV hg ?_;rfl
 ·rw[Ad (by simp[bv,c0,c1,c2])]
  rw[Uq c2,Ac (by simpa using Ne.symm c0)] at hw
  dsimp only at hw;rw[Ac c0] at hw;exact gvA (F:=wB)
def n32:D3:=if (J.fNum 4294967295 s).2=0 then some (J.fNum 4294967295 s).1 else none
def vF:D3->Ret
 |some n=>⟨.int .i64 n,[]⟩
 |none=>pF 2
theorem bM (hs:s.length<2^40):ab G 629 [.str s] [] (vF (n32 s)):=by
 have hw:=J.num_gives346 s hs 4294967295;have h2:=λ(_:True)=>aM false
 have h3:=aM true;rw[Ad rfl] at h3;unfold J.nfR at hw;unfold n32;generalize J.fNum 4294967295 s=p at*;obtain ⟨a,b⟩:=p;dsimp only at*
 by_cases h:b=0
 ·subst h
  rw[Ad rfl];unfold vF;exact gvA (F:=Sb)
 ·rw[Ac h]
  unfold vF;refine gvC (F:=Sb) ?_
  repeat' ((conv=>whnf);first|refine jf h ?_|refine ay ?_|apply ae<;>intro h)
  (conv=>whnf)
  refine CallG.stop ?_;refine aE 586 (h2 trivial) (λQ hr hg=>?_)
  refine kV hg ?_;rfl
def ko:D3:=if s= [42] then some (-1) else n32 s
theorem rJ (hs:s.length<2^40):ab G 589 [.str s] [] (vF (ko s)):=by
 have h1:=bM s hs;unfold ko
 by_cases c:s= [42]
 ·subst c
  rw[Ad rfl];clear h1;refine gvC (F:=JN) ?_
  repeat' ((conv=>whnf);first|refine bl ?_|refine ay ?_|apply ae<;>intro h)
  refine au ?_;rfl
 ·rw[Ac c]
  generalize n32 s=o at*;cases o with
  |some n=>
   unfold vF at*;refine gvC (F:=JN) ?_
   repeat' ((conv=>whnf);first|refine aU c ?_|refine ay ?_|apply ae<;>intro h)
   refine au ?_;rfl
  |none=>
   replace h1:=λ(_:True)=>h1
   unfold vF at*;refine gvC (F:=JN) ?_
   repeat' ((conv=>whnf);first|refine aU c ?_|refine ay ?_|apply ae<;>intro h)
   (conv=>whnf)
   refine CallG.stop ?_;refine aE 629 (h1 trivial) (λQ hr hg=>?_)
   refine kV hg ?_;rfl
def jC:CF:=[112,101,114,109,105,116]
def oa:CF:=[100,101,110,121]
theorem ET (hs:s.length<2^40):ab G 588 [.str s] [] (if (ax s).1=jC then ⟨.tup [.bool true,.str (ax s).2],[]⟩ else if (ax s).1=oa then ⟨.tup [.bool false,.str (ax s).2],[]⟩ else pF 2):=by
 have h1:=az s hs;have h2:=λ(_:True)=>aM false
 have h3:=aM true;rw[Ad rfl] at h3;generalize ax s=p at*;obtain ⟨a,b⟩:=p;dsimp only at*
 by_cases c:a=jC
 ·subst c
  rw[Ad rfl];unfold jC at*;refine gvC (F:=JO) ?_
  repeat' ((conv=>whnf);first|refine bl ?_|refine ay ?_|apply ae<;>intro h)
  refine au ?_;rfl
 ·rw[Ac c]
  by_cases d:a=oa
  ·subst d
   rw[Ad rfl];unfold oa jC at*;refine gvC (F:=JO) ?_
   repeat' ((conv=>whnf);first|refine bl ?_|refine aU c ?_|refine ay ?_|apply ae<;>intro h)
   refine au ?_;rfl
  ·rw[Ac d]
   unfold oa jC at*;refine gvC (F:=JO) ?_
   repeat' ((conv=>whnf);first|refine aU c ?_|refine aU d ?_|refine ay ?_|apply ae<;>intro h)
   (conv=>whnf)
   refine CallG.stop ?_;refine aE 586 (h2 trivial) (λQ hr hg=>?_)
   refine kV hg ?_;rfl
end
section
variable {k:Eff->Prop} {x y:Opd} {g key:Nat} {hg:Nat->C0}
end
theorem idx_at {s done rest:CF}{x:UInt8}{n:Int}(e:s=done++x::rest)(hn:n=done.length):s[n.toNat]? =some x:=by
 rw[e,hn];simp
def dx {α:Type}(f:α->Nat):List α->Nat
 | []=>0
 |x::r=>f x+dx f r
def vJ (t:Trm):Nat:=t.mats.length+t.acts.length
def qV (p:Pol):Nat:=p.terms.length+dx vJ p.terms
section
variable (s:PSet)
def jz:Nat:=s.prefixes.length+s.paths.length+s.comms.length+s.pols.length+dx (λp=>p.rules.length) s.prefixes+dx (λp=>p.rules.length) s.paths+dx (λp=>p.rules.length) s.comms+dx qV s.pols
theorem B9 (l:Da)(P:CS)(j ln2:Int)(tot:Int)(htot:tot<2^40)(hj:0<=j/\j<2^50)(R:Ret)(go: ∀(T:TV) (H:aq) (c:Nat),Ev G ⟨Dp,⟨(69,.sl 3 P)::(70,.int .i64 ln2)::(71,.int .i64 (j+1))::(3,.int .i64 tot)::T,H,c⟩,[.t 2],0⟩ R)(hl:l.length<2^40)(ln:Int)(hln:ln=l.length): ∀(rest done:Da)(a:Int)(T:TV)(H:aq)(c:Nat)(n:Int)(e:l=done++rest)(hn:n=done.length)(ha:a+((dx vJ rest:Nat):Int)=tot)(h0:0<=a),Ev G ⟨VZ,⟨(81,.sl 4 (l.map Trm.enc))::(82,.int .i64 ln)::(83,.int .i64 n)::(3,.int .i64 a)::(69,.sl 3 P)::(70,.int .i64 ln2)::(71,.int .i64 j)::T,H,c⟩,[.t 2],0⟩ R
 | [],done,a,T,H,c,n,e,hn,ha,h0=>by
  have hd:=md0 e;have hll:=ml l Trm.enc;obtain rfl:a=tot:=by simp only[dx] at ha;omega
  refine evA ?_;refine ag [69,70,71,3] [] ?_;exact go _ _ _
 |x::r,done,a,T,H,c,n,e,hn,ha,h0=>by
  have hd:=md e;have hll:=ml l Trm.enc;have hx:=mx Trm.enc e hn;have m1:=ml x.mats Mat.enc;have m2:=ml x.acts Actn.enc;simp only[dx,vJ] at ha;refine evA ?_;refine ag [81,82,83,3,69,70,71] [] ?_;exact B9 l P j ln2 tot htot hj R go hl ln hln r (done++[x]) (a+(((x.mats.map Mat.enc).length:Int)+((x.acts.map Actn.enc).length:Int))) _ _ _ (n+1) (by simp[e]) (by simp[hn]<;>omega) (by rw[<-ha,m1,m2];omega) (by omega)
theorem B8 (l:C9)(tot:Int)(htot:tot<2^40)(hl:l.length<2^40)(ln:Int)(hln:ln=l.length): ∀(rest done:C9)(a:Int)(T:TV)(H:aq)(c:Nat)(n:Int)(e:l=done++rest)(hn:n=done.length)(ha:a+((dx qV rest:Nat):Int)=tot)(h0:0<=a),Ev G ⟨Dp,⟨(69,.sl 3 (l.map Pol.enc))::(70,.int .i64 ln)::(71,.int .i64 n)::(3,.int .i64 a)::T,H,c⟩,[.t 2],0⟩ (⟨.int .i64 tot,[]⟩)
 | [],done,a,T,H,c,n,e,hn,ha,h0=>by
  have hd:=md0 e;have hll:=ml l Pol.enc;obtain rfl:a=tot:=by simp only[dx] at ha;omega
  refine evA ?_;refine au ?_;rfl
 |x::r,done,a,T,H,c,n,e,hn,ha,h0=>by
  have hd:=md e;have hll:=ml l Pol.enc;have hx:=mx Pol.enc e hn;have m1:=ml x.terms Trm.enc;simp only[dx,qV] at ha;refine evA ?_;refine ag [81,82,83,3,69,70,71] [] ?_;rw[m1];exact B9 x.terms (l.map Pol.enc) n ln (a+x.terms.length+((dx vJ x.terms:Nat):Int)) (by omega) (by omega) _ (λT H c=>B8 l tot htot hl ln hln r (done++[x]) (a+x.terms.length+((dx vJ x.terms:Nat):Int)) T H c (n+1) (by simp[e]) (by simp[hn]<;>omega) (by omega) (by omega)) (by omega) _ rfl x.terms [] (a+x.terms.length) _ _ _ 0 rfl rfl rfl (by omega)
theorem xu (l:C6)(s:PSet)(hl1:s.comms=l)(tot:Int)(htot:tot<2^40)(hsz:s.pols.length<2^40/\s.comms.length<2^40/\s.paths.length<2^40)(hl:l.length<2^40)(ln:Int)(hln:ln=l.length): ∀(rest done:C6)(a:Int)(T:TV)(H:aq)(c:Nat)(n:Int)(e:l=done++rest)(hn:n=done.length)(ha:a+((dx (λp=>p.rules.length) rest+(dx qV s.pols):Nat):Int)=tot)(h0:0<=a),Ev G ⟨V6,⟨(56,.sl 2 (l.map ComL.enc))::(57,.int .i64 ln)::(58,.int .i64 n)::(3,.int .i64 a)::(1,.ref 65 1 0)::T,(65,some (1,.cells s.enc))::H,c⟩,[.t 2],0⟩ (⟨.int .i64 tot,[]⟩)
 | [],done,a,T,H,c,n,e,hn,ha,h0=>by
  have hd:=md0 e;have hll:=ml l ComL.enc;have m1:=ml s.pols Pol.enc;refine evA ?_;refine ag [69,70,71,3] [] ?_;rw[m1];exact B8 s.pols tot htot (by omega) _ rfl s.pols [] a _ _ _ 0 rfl rfl (by simp only[dx] at ha;omega) h0
 |x::r,done,a,T,H,c,n,e,hn,ha,h0=>by
  have hd:=md e;have hll:=ml l ComL.enc;have hx:=mx ComL.enc e hn;have m1:=ml x.rules ComR.enc;simp only[dx] at ha;refine evA ?_;refine ag [56,57,58,3,1] [65] ?_;exact xu l s hl1 tot htot hsz hl ln hln r (done++[x]) (a+((x.rules.map ComR.enc).length:Int)) _ _ _ (n+1) (by simp[e]) (by simp[hn]<;>omega) (by rw[<-ha,m1];omega) (by omega)
theorem xv (l:C4)(s:PSet)(hl1:s.paths=l)(tot:Int)(htot:tot<2^40)(hsz:s.pols.length<2^40/\s.comms.length<2^40/\s.paths.length<2^40)(hl:l.length<2^40)(ln:Int)(hln:ln=l.length): ∀(rest done:C4)(a:Int)(T:TV)(H:aq)(c:Nat)(n:Int)(e:l=done++rest)(hn:n=done.length)(ha:a+((dx (λp=>p.rules.length) rest+(dx (λp=>p.rules.length) s.comms+dx qV s.pols):Nat):Int)=tot)(h0:0<=a),Ev G ⟨V7,⟨(43,.sl 2 (l.map PathL.enc))::(44,.int .i64 ln)::(45,.int .i64 n)::(3,.int .i64 a)::(1,.ref 65 1 0)::T,(65,some (1,.cells s.enc))::H,c⟩,[.t 2],0⟩ (⟨.int .i64 tot,[]⟩)
 | [],done,a,T,H,c,n,e,hn,ha,h0=>by
  have hd:=md0 e;have hll:=ml l PathL.enc;have m1:=ml s.comms ComL.enc;refine evA ?_;refine ag [56,57,58,3,1] [65] ?_;rw[m1];exact xu s.comms s rfl tot htot hsz (by omega) _ rfl s.comms [] a _ _ _ 0 rfl rfl (by simp only[dx] at ha;omega) h0
 |x::r,done,a,T,H,c,n,e,hn,ha,h0=>by
  have hd:=md e;have hll:=ml l PathL.enc;have hx:=mx PathL.enc e hn;have m1:=ml x.rules PathR.enc;simp only[dx] at ha;refine evA ?_;refine ag [43,44,45,3,1] [65] ?_;exact xv l s hl1 tot htot hsz hl ln hln r (done++[x]) (a+((x.rules.map PathR.enc).length:Int)) _ _ _ (n+1) (by simp[e]) (by simp[hn]<;>omega) (by rw[<-ha,m1];omega) (by omega)
theorem BZ (l:C3)(s:PSet)(hl1:s.prefixes=l)(tot:Int)(htot:tot<2^40)(hsz:s.pols.length<2^40/\s.comms.length<2^40/\s.paths.length<2^40)(hl:l.length<2^40)(ln:Int)(hln:ln=l.length): ∀(rest done:C3)(a:Int)(T:TV)(H:aq)(c:Nat)(n:Int)(e:l=done++rest)(hn:n=done.length)(ha:a+((dx (λp=>p.rules.length) rest+(dx (λp=>p.rules.length) s.paths+(dx (λp=>p.rules.length) s.comms+dx qV s.pols)):Nat):Int)=tot)(h0:0<=a),Ev G ⟨aaW,⟨(30,.sl 2 (l.map PList.enc))::(31,.int .i64 ln)::(32,.int .i64 n)::(3,.int .i64 a)::(1,.ref 65 1 0)::T,(65,some (1,.cells s.enc))::H,c⟩,[.t 2],0⟩ (⟨.int .i64 tot,[]⟩)
 | [],done,a,T,H,c,n,e,hn,ha,h0=>by
  have hd:=md0 e;have hll:=ml l PList.enc;have m1:=ml s.paths PathL.enc;refine evA ?_;refine ag [43,44,45,3,1] [65] ?_;rw[m1];exact xv s.paths s rfl tot htot hsz (by omega) _ rfl s.paths [] a _ _ _ 0 rfl rfl (by simp only[dx] at ha;omega) h0
 |x::r,done,a,T,H,c,n,e,hn,ha,h0=>by
  have hd:=md e;have hll:=ml l PList.enc;have hx:=mx PList.enc e hn;have m1:=ml x.rules RuleP.enc;simp only[dx] at ha;refine evA ?_;refine ag [30,31,32,3,1] [65] ?_;exact BZ l s hl1 tot htot hsz hl ln hln r (done++[x]) (a+((x.rules.map RuleP.enc).length:Int)) _ _ _ (n+1) (by simp[e]) (by simp[hn]<;>omega) (by rw[<-ha,m1];omega) (by omega)
theorem D9 (hs:jz s<2^40):ab G 435 [.agg s.enc] [] ⟨.int .i64 (jz s:Nat),[]⟩:=by
 have m1:=ml s.prefixes PList.enc;have m2:=ml s.paths PathL.enc;have m3:=ml s.comms ComL.enc;have m4:=ml s.pols Pol.enc;have hz:jz s=s.prefixes.length+s.paths.length+s.comms.length+s.pols.length+dx (λp=>p.rules.length) s.prefixes+dx (λp=>p.rules.length) s.paths+dx (λp=>p.rules.length) s.comms+dx qV s.pols:=rfl
 refine gvB (F:=tu) ?_;refine ag [30,31,32,3,1] [65] ?_;rw[m1,m2,m3,m4];exact BZ s.prefixes s rfl (jz s:Nat) (by omega) (by omega) (by omega) _ rfl s.prefixes [] _ _ _ _ 0 rfl rfl (by rw[hz];omega) (by omega)
def oo:C3->CF->Option PList
 | [],_=>none
 |x::r,k=>if x.name=k then some x else oo r k
def Yj:Option PList->Ret
 |none=>⟨.tup [.agg [.str [],.con (.slice none 0 0)],.bool false],[]⟩
 |some x=>⟨.tup [.agg x.enc,.bool true],[]⟩
theorem u6 (l:C3)(k:CF)(g:Nat)(hl:l.length<2^40)(ln:Int)(hln:ln=l.length): ∀(rest done:C3)(T:TV)(H:aq)(c:Nat)(n:Int)(e:l=done++rest)(hn:n=done.length),Ev G ⟨aar,⟨(9,.sl 2 (l.map PList.enc))::(10,.int .i64 ln)::(11,.int .i64 n)::(4,.ref 68 g 0)::(1,.str k)::T,(68,some (g,.cells [.str [],.con (.slice none 0 0)]))::H,c⟩,[.cell 4 (some 2),.t 5],0⟩ (Yj (oo rest k))
 | [],done,  T,H,c,n,e,hn=>by
  have hd:=md0 e;have hll:=ml l PList.enc;refine evA ?_;refine au ?_;(conv=>whnf);refine Go.AM.finC ?_;rfl
 |x::r,done,  T,H,c,n,e,hn=>by
  have hd:=md e;have hll:=ml l PList.enc;have hx:=mx PList.enc e hn
  by_cases hk:x.name=k
  ·rw[oo,Ad hk]
   refine evl ?_
   repeat' (first|refine bz ?_|apply ae<;>intro h)
   refine au ?_;(conv=>whnf);refine Go.AM.finC ?_;rfl
  ·rw[oo,Ac hk]
   refine evl ?_
   repeat' (first|refine bz ?_|apply ae<;>intro h)
   refine ag [9,10,11,4,1] [68] ?_;exact u6 l k g hl ln hln r (done++[x])  _ _ _ (n+1) (by simp[e]) (by simp[hn]<;>omega)
theorem II (hs:s.prefixes.length<2^40)(k:CF):ab G 620 [.agg s.enc,.str k] [] (Yj (oo s.prefixes k)):=by
 have hll:=ml s.prefixes PList.enc;refine gvB (F:=Si) ?_;refine ag [9,10,11,4,1] [68] ?_;rw[hll];exact u6 s.prefixes k _ hs _ rfl s.prefixes [] _ _ _ 0 rfl rfl
def ot:C4->CF->Option PathL
 | [],_=>none
 |x::r,k=>if x.name=k then some x else ot r k
def Yp:Option PathL->Ret
 |none=>⟨.tup [.agg [.str [],.con (.slice none 0 0)],.bool false],[]⟩
 |some x=>⟨.tup [.agg x.enc,.bool true],[]⟩
theorem u9 (l:C4)(k:CF)(g:Nat)(hl:l.length<2^40)(ln:Int)(hln:ln=l.length): ∀(rest done:C4)(T:TV)(H:aq)(c:Nat)(n:Int)(e:l=done++rest)(hn:n=done.length),Ev G ⟨aaq,⟨(9,.sl 2 (l.map PathL.enc))::(10,.int .i64 ln)::(11,.int .i64 n)::(4,.ref 68 g 0)::(1,.str k)::T,(68,some (g,.cells [.str [],.con (.slice none 0 0)]))::H,c⟩,[.cell 4 (some 2),.t 5],0⟩ (Yp (ot rest k))
 | [],done,  T,H,c,n,e,hn=>by
  have hd:=md0 e;have hll:=ml l PathL.enc;refine evA ?_;refine au ?_;(conv=>whnf);refine Go.AM.finC ?_;rfl
 |x::r,done,  T,H,c,n,e,hn=>by
  have hd:=md e;have hll:=ml l PathL.enc;have hx:=mx PathL.enc e hn
  by_cases hk:x.name=k
  ·rw[ot,Ad hk]
   refine evl ?_
   repeat' (first|refine bz ?_|apply ae<;>intro h)
   refine au ?_;(conv=>whnf);refine Go.AM.finC ?_;rfl
  ·rw[ot,Ac hk]
   refine evl ?_
   repeat' (first|refine bz ?_|apply ae<;>intro h)
   refine ag [9,10,11,4,1] [68] ?_;exact u9 l k g hl ln hln r (done++[x])  _ _ _ (n+1) (by simp[e]) (by simp[hn]<;>omega)
theorem IQ (hs:s.paths.length<2^40)(k:CF):ab G 621 [.agg s.enc,.str k] [] (Yp (ot s.paths k)):=by
 have hll:=ml s.paths PathL.enc;refine gvB (F:=Sg) ?_;refine ag [9,10,11,4,1] [68] ?_;rw[hll];exact u9 s.paths k _ hs _ rfl s.paths [] _ _ _ 0 rfl rfl
def oV:C6->CF->Option ComL
 | [],_=>none
 |x::r,k=>if x.name=k then some x else oV r k
def abk:Option ComL->Ret
 |none=>⟨.tup [.agg [.str [],.con (.slice none 0 0)],.bool false],[]⟩
 |some x=>⟨.tup [.agg x.enc,.bool true],[]⟩
theorem vq (l:C6)(k:CF)(g:Nat)(hl:l.length<2^40)(ln:Int)(hln:ln=l.length): ∀(rest done:C6)(T:TV)(H:aq)(c:Nat)(n:Int)(e:l=done++rest)(hn:n=done.length),Ev G ⟨aap,⟨(9,.sl 2 (l.map ComL.enc))::(10,.int .i64 ln)::(11,.int .i64 n)::(4,.ref 68 g 0)::(1,.str k)::T,(68,some (g,.cells [.str [],.con (.slice none 0 0)]))::H,c⟩,[.cell 4 (some 2),.t 5],0⟩ (abk (oV rest k))
 | [],done,  T,H,c,n,e,hn=>by
  have hd:=md0 e;have hll:=ml l ComL.enc;refine evA ?_;refine au ?_;(conv=>whnf);refine Go.AM.finC ?_;rfl
 |x::r,done,  T,H,c,n,e,hn=>by
  have hd:=md e;have hll:=ml l ComL.enc;have hx:=mx ComL.enc e hn
  by_cases hk:x.name=k
  ·rw[oV,Ad hk]
   refine evl ?_
   repeat' (first|refine bz ?_|apply ae<;>intro h)
   refine au ?_;(conv=>whnf);refine Go.AM.finC ?_;rfl
  ·rw[oV,Ac hk]
   refine evl ?_
   repeat' (first|refine bz ?_|apply ae<;>intro h)
   refine ag [9,10,11,4,1] [68] ?_;exact vq l k g hl ln hln r (done++[x])  _ _ _ (n+1) (by simp[e]) (by simp[hn]<;>omega)
theorem KM (hs:s.comms.length<2^40)(k:CF):ab G 622 [.agg s.enc,.str k] [] (abk (oV s.comms k)):=by
 have hll:=ml s.comms ComL.enc;refine gvB (F:=Se) ?_;refine ag [9,10,11,4,1] [68] ?_;rw[hll];exact vq s.comms k _ hs _ rfl s.comms [] _ _ _ 0 rfl rfl
end
def fy (k:Int):Ret:=
 if k=4 then ⟨.tup [.int .i64 1,.int .i64 7,.bool true],[]⟩ else if k=5 then ⟨.tup [.int .i64 0,.int .i64 4294967295,.bool true],[]⟩ else
 if k=6 then ⟨.tup [.int .i64 0,.int .i64 16777216,.bool true],[]⟩ else if k=8 then ⟨.tup [.int .i64 0,.int .i64 2000,.bool true],[]⟩ else ⟨.tup [.int .i64 0,.int .i64 0,.bool false],[]⟩
theorem ft (k:Int):ab G 619 [.int .i64 k] [] (fy k):=by
 by_cases h4:k=4
 ·subst h4
  exact gvA (F:=wA)
 by_cases h5:k=5
 ·subst h5
  exact gvA (F:=wA)
 by_cases h6:k=6
 ·subst h6
  exact gvA (F:=wA)
 by_cases h8:k=8
 ·subst h8
  exact gvA (F:=wA)
 rw[fy,Ac h4,Ac h5,Ac h6,Ac h8];exact gvA (F:=wA)
def nmC (b:UInt8):Bool:=b.toNat==45||(decide (48<=b.toNat)&&decide (b.toNat<=57))||(decide (65<=b.toNat)&&decide (b.toNat<=90))||(decide (97<=b.toNat)&&decide (b.toNat<=122))
def nmB (s:CF):Bool:=s.all nmC&&(decide (1<=s.length)&&decide ((s.length:Int)<=32))
theorem lI (s:CF)(hs:s.length<2^40): ∀(rest done:CF)(T:TV)(H:aq)(c:Nat)(n:Int)(e:s=done++rest)(hn:n=done.length),
  Ev G ⟨aaz,⟨(3,.int .i64 n)::(0,.str s)::T,H,c⟩,[.t 2],0⟩ ⟨.bool (rest.all nmC&&(decide (1<=s.length)&&decide ((s.length:Int)<=32))),[]⟩
 | [],done,T,H,c,n,e,hn=>by
  have hd:=md0 e
  by_cases h1:1<=s.length
  ·rw[Al h1]
   refine evA ?_;refine au ?_;rfl
  ·rw[An h1]
   refine evA ?_;refine au ?_;rfl
 |x::rest,done,T,H,c,n,e,hn=>by
  have hd:=md e;have hb:=idx_at e hn;rw[Cc]
  by_cases h0:x.toNat<45
  ·have hc:nmC x=false:=by unfold nmC;simp;omega
   rw[hc,BS,BS];refine evl ?_
   repeat' (first|refine bz ?_|apply ae<;>intro h)
   refine au ?_;rfl
  by_cases h1:x.toNat=45
  ·have hc:nmC x=true:=by unfold nmC;simp;omega
   rw[hc,BY];refine evl ?_
   repeat' (first|refine bz ?_|apply ae<;>intro h)
   refine ag [3,0] [] ?_;exact lI s hs rest (done++[x]) _ _ _ (n+1) (by simp[e]) (by simp[hn])
  by_cases h2:x.toNat<48
  ·have hc:nmC x=false:=by unfold nmC;simp;omega
   rw[hc,BS,BS];refine evl ?_
   repeat' (first|refine bz ?_|apply ae<;>intro h)
   refine au ?_;rfl
  by_cases h3:x.toNat<=57
  ·have hc:nmC x=true:=by unfold nmC;simp;omega
   rw[hc,BY];refine evl ?_
   repeat' (first|refine bz ?_|apply ae<;>intro h)
   refine ag [3,0] [] ?_;exact lI s hs rest (done++[x]) _ _ _ (n+1) (by simp[e]) (by simp[hn])
  by_cases h4:x.toNat<65
  ·have hc:nmC x=false:=by unfold nmC;simp;omega
   rw[hc,BS,BS];refine evl ?_
   repeat' (first|refine bz ?_|apply ae<;>intro h)
   refine au ?_;rfl
  by_cases h5:x.toNat<=90
  ·have hc:nmC x=true:=by unfold nmC;simp;omega
   rw[hc,BY];refine evl ?_
   repeat' (first|refine bz ?_|apply ae<;>intro h)
   refine ag [3,0] [] ?_;exact lI s hs rest (done++[x]) _ _ _ (n+1) (by simp[e]) (by simp[hn])
  by_cases h6:x.toNat<97
  ·have hc:nmC x=false:=by unfold nmC;simp;omega
   rw[hc,BS,BS];refine evl ?_
   repeat' (first|refine bz ?_|apply ae<;>intro h)
   refine au ?_;rfl
  by_cases h7:x.toNat<=122
  ·have hc:nmC x=true:=by unfold nmC;simp;omega
   rw[hc,BY];refine evl ?_
   repeat' (first|refine bz ?_|apply ae<;>intro h)
   refine ag [3,0] [] ?_;exact lI s hs rest (done++[x]) _ _ _ (n+1) (by simp[e]) (by simp[hn])
  have hc:nmC x=false:=by unfold nmC;simp;omega
  rw[hc,BS,BS];refine evl ?_
  repeat' (first|refine bz ?_|apply ae<;>intro h)
  refine au ?_;rfl
theorem vi (s:CF)(hs:s.length<2^40):ab G 573 [.str s] [] ⟨.bool (nmB s),[]⟩:=by
 refine gvB (F:=SC) ?_;refine ag [3,0] [] ?_;exact lI s hs s [] _ _ _ 0 rfl rfl
def bW (r:ComR):Int:=if r.high< -1 then 5 else if 65535<r.high then 5 else if r.low< -1 then 5 else if 65535<r.low then 5 else 0
theorem KL (r:ComR):ab G 572 [.agg r.enc] [] ⟨.int .i64 (bW r),[]⟩:=by
 by_cases c0:r.high< -1
 ·rw[bW,Ad c0]
  exact gvA (F:=wD)
 by_cases c1:65535<r.high
 ·rw[bW,Ac c0,Ad c1]
  exact gvA (F:=wD)
 by_cases c2:r.low< -1
 ·rw[bW,Ac c0,Ac c1,Ad c2]
  exact gvA (F:=wD)
 by_cases c3:65535<r.low
 ·rw[bW,Ac c0,Ac c1,Ac c2,Ad c3]
  exact gvA (F:=wD)
 rw[bW,Ac c0,Ac c1,Ac c2,Ac c3];exact gvA (F:=wD)
section
variable {kv:AV->Prop}
theorem zNeY {a b:CF}(n:a=b)(h:kv (.bool false)): ∃v,bp .neq (.str a) (.str b)=some v/\kv v:=⟨.bool false,by show some (AV.bool (!(a==b)))=_;simp[n],h⟩
theorem zNeN {a b:CF}(n: ¬a=b)(h:kv (.bool true)): ∃v,bp .neq (.str a) (.str b)=some v/\kv v:=⟨.bool true,by show some (AV.bool (!(a==b)))=_;simp[n],h⟩
theorem Xc {a b:CF}{v:Bool}(hv:(Op.bytesLess a b||a==b)=v)(h:kv (.bool v)): ∃w,bp .leq (.str a) (.str b)=some w/\kv w:=⟨_,by show some (AV.bool (Op.bytesLess a b||a==b))=_;rw[hv],h⟩
end
theorem gvD {G:Nat->Fun}{f:Nat}{F:AFunc}{args:CL}{bs:Dn}{t:Ret}(hf:G f= .code F:=by rfl)(hl:args.length=F.np:=by rfl)(h:Ev G ⟨[.code F.body],⟨tms 0 args,j8 0 bs,1⟩,F.results,bs.length⟩ t:=by
 refine wk3 ?_
 repeat' ((conv=>whnf);first|refine zNeY (by assumption) ?_|refine zNeN (by assumption) ?_|refine Xc (by assumption) ?_|refine ay ?_|apply ae<;>intro h)
 all_goals exact dnA):ab G f args bs t:=lQ hf hl h
def fX (name before:CF)(any:Bool)(n:Int):Int:=if nmB name=false then 1 else if any=false/\(Op.bytesLess name before||name==before)=true then 16 else if 64<n then 4 else 0
theorem kr (name before:CF)(hn:name.length<2^40)(any:Bool)(n:Int):ab G 500 [.str name,.str before,.bool any,.int .i64 n] [] ⟨.int .i64 (fX name before any n),[]⟩:=by
 have h1:=vi name hn;unfold fX;rcases hb:nmB name with _|_<;>cases any<;>rcases hl:(Op.bytesLess name before||name==before) with _|_<;>rw[hb] at h1<;>exact gvD (F:=aaV)
section
variable (a:Actn)
def rA:Int:=if a.asn≠0 then 1 else if a.com≠0 then 1 else if a.addr≠0 then 1 else if a.n<0 then 5 else if 4294967295<a.n then 5 else 0
def LZ:Int:=if a.asn≠0 then 1 else if a.com≠0 then 1 else if a.addr≠0 then 1 else if a.n<0 then 5 else if 16777216<a.n then 5 else 0
def Tz:Int:=if a.n≠0 then 1 else if a.asn≠0 then 1 else if a.com≠0 then 1 else if a.addr=0 then 5 else 0
def xc:Int:=if a.n≠0 then 1 else if a.asn≠0 then 1 else if a.addr≠0 then 1 else 0
def Tw:Int:=if a.com≠0 then 1 else if a.addr≠0 then 1 else if a.n<0 then 5 else if 16<a.n then 5 else if a.n<1 then 5 else if a.asn<1 then 5 else if 4294967295<a.asn then 5 else 0
def gQ:Int:=if a.kind=1 then rA a else if a.kind=2 then rA a else if a.kind=4 then rA a else if a.kind=3 then LZ a else if a.kind=5 then Tz a else if a.kind=6 then xc a else if a.kind=7 then xc a else if a.kind=8 then Tw a else 15
theorem LW:ab G 575 [.agg a.enc] [] ⟨.int .i64 (gQ a),[]⟩:=by
 unfold gQ rA LZ Tz xc Tw;exact gvD (F:=aay)
end
end Go.AM.IR
