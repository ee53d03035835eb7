/- What functions of this program give. -/
import Derived.Test.YtomphmeopjpejaaGreatDoorDataS
set_option linter.unusedSectionVars false
set_option linter.unusedVariables false
set_option linter.unusedSimpArgs false
set_option maxHeartbeats 4000000
set_option maxRecDepth 20000
namespace Go.AM.IR
def hdX (n:Nat)(t b:B5):Int:=if 64<=n then 4 else yQ t b (decide (n=0)) 0
def cj:CF:=[cH,cG,cz,gv]
theorem gM (w t:B5)(m:Nat)(H:az)(R:Ret): ∀(rest done:CF)(k:Int)(T:TV)(c:Nat)(i:Int)(e:cj=done++rest)(hi:i=done.length)(h0:0<=k)(h4:k<=4)
  (go: ∀(T:TV)(c:Nat),Ev G ⟨Dx,⟨(30,.int .i64 4)::(1,.sl 1 [[.str w],[.str t]])::(28,.sl 1 (cj.map ah))::(0,.ref 0 0 0)::(6,.int .i64 (kOf w rest i k))::(29,.int .i64 4)::T,H,c⟩,[.t 4,.t 5],m⟩ R),
  Ev G ⟨Dx,⟨(30,.int .i64 i)::(1,.sl 1 [[.str w],[.str t]])::(28,.sl 1 (cj.map ah))::(0,.ref 0 0 0)::(6,.int .i64 k)::(29,.int .i64 4)::T,H,c⟩,[.t 4,.t 5],m⟩ R
 | [],done,k,T,c,i,e,hi,h0,h4,go=>by
  have hl:i=4:=by rw[hi];have:=congrArg List.length e;simp[cj] at this;omega
  subst hl;exact go T c
 |x::rest,done,k,T,c,i,e,hi,h0,h4,go=>by
  have hl:done.length+(rest.length+1)=4:=by have:=congrArg List.length e;simp[cj] at this;omega
  have hx:(cj.map ah)[i.toNat]? =some [.str x]:=by rw[e,hi];simp[ah]
  have hm:(cj.map ah).length=4:=rfl;have hp:ab (cj.map ah)=true:=by simp
  have ih:=gM w t m H R rest (done++[x]);rw[kOf] at go;generalize hws:cj.map ah=ws at hx hm hp ih go⊢
  by_cases h:w=x
  ·subst h
   rw[Ac rfl] at go;refine evl ?_
   repeat' ((conv=>whnf);first|refine bj ?_|refine aq ?_|apply ae<;>intro h)
   refine au [30,1,28,0,6,29] [] ?_;exact ih _ _ _ (i+1) (by simp[e]) (by simp[hi]) (by omega) (by omega) go
  ·rw[Aa h] at go
   refine evl ?_
   repeat' ((conv=>whnf);first|refine aG h ?_|refine aq ?_|apply ae<;>intro h)
   refine au [30,1,28,0,6,29] [] ?_;exact ih _ _ _ (i+1) (by simp[e]) (by simp[hi]) h0 h4 go
section
variable {e1 e2 e3 e4:B6}(p1:ab e1=true)(p2:ab e2=true)(p3:ab e3=true)(p4:ab e4=true)(l1:e1.length<2^30)(l2:e2.length<2^30)(l3:e3.length<2^30)(l4:e4.length<2^30){mo gr:Int}(t:B5)(h0:t≠ [])(ht:t.length<2^30)(hm:mo<4)
include p1 p2 p3 p4 l1 l2 l3 l4 h0 ht hm
theorem hdk1 (hg:gr<=1)(b:B5)(hb:(e1.length=0/\b= [])∨(0<e1.length/\ ∃a,e1[((e1.length:Int)-1).toNat]? =some (.str b::a))):ag G 599 [.ref 0 0 0,.sl 1 [[.str [112,114,101,102,105,120,45,108,105,115,116]],[.str t]]] (rdA mo gr e1 e2 e3 e4) ⟨.tup [.bool true,.int .i64 (hdX e1.length t b)],WN e1 e2 e3 e4 t⟩:=by
 unfold rdA rdc;have hgr: ¬1<gr:=by omega
 refine gvH (F:=gf) ?_
 (conv=>whnf)
 refine dC [(92,_,.vec 1 (cj.map ah))] [30,1,28,0,6,29] (@shA 0 0 0 0 0 2 2 2 3 (rdc e1.length e2.length e3.length e4.length mo gr) e1 e2 e3 e4) ⟨rfl,rfl,trivial⟩ ?_
 iterate 24 (try ((conv=>whnf);first|refine ⟨rfl,?_⟩|refine ⟨(by first|assumption|(simp;done)|(simp[ab];done)),?_⟩))
 intro T H;refine gM [112,114,101,102,105,120,45,108,105,115,116] t _ _ _ cj [] 0 _ _ 0 rfl rfl (by decide) (by decide) (λT c=>?_)
 rw[show kOf [112,114,101,102,105,120,45,108,105,115,116] cj 0 0=1 from by decide,hdX]
 rcases hb with ⟨n0,rfl⟩|⟨n0,a,hb⟩
 ·have h1:=fm t [] (by omega) true 0
  have hz:(e1.length:Int)=0:=by omega
  rw[Aa (by omega),Ak n0]
  refine evH ?_;exact bi shA [true,false,true,true,true]
 have hz: ¬(e1.length:Int)=0:=by omega
 by_cases c:64<=e1.length
 ·rw[Ac c]
  refine evH ?_;exact bi shA [true,false,true,true,true]
 ·rw[Aa c,Al (by omega)]
  have h1:=fm t b (by omega) false 0
  refine evH ?_;exact bi shA [true,false,true,true,true]
theorem hdk2 (hg:gr<=2)(b:B5)(hb:(e2.length=0/\b= [])∨(0<e2.length/\ ∃a,e2[((e2.length:Int)-1).toNat]? =some (.str b::a))):ag G 599 [.ref 0 0 0,.sl 1 [[.str [112,97,116,104,45,108,105,115,116]],[.str t]]] (rdA mo gr e1 e2 e3 e4) ⟨.tup [.bool true,.int .i64 (hdX e2.length t b)],WM e1 e2 e3 e4 t⟩:=by
 unfold rdA rdc;have hgr: ¬2<gr:=by omega
 refine gvH (F:=gf) ?_
 (conv=>whnf)
 refine dC [(92,_,.vec 1 (cj.map ah))] [30,1,28,0,6,29] (@shA 0 0 0 0 0 2 2 2 3 (rdc e1.length e2.length e3.length e4.length mo gr) e1 e2 e3 e4) ⟨rfl,rfl,trivial⟩ ?_
 iterate 24 (try ((conv=>whnf);first|refine ⟨rfl,?_⟩|refine ⟨(by first|assumption|(simp;done)|(simp[ab];done)),?_⟩))
 intro T H;refine gM [112,97,116,104,45,108,105,115,116] t _ _ _ cj [] 0 _ _ 0 rfl rfl (by decide) (by decide) (λT c=>?_)
 rw[show kOf [112,97,116,104,45,108,105,115,116] cj 0 0=2 from by decide,hdX]
 rcases hb with ⟨n0,rfl⟩|⟨n0,a,hb⟩
 ·have h1:=fm t [] (by omega) true 0
  have hz:(e2.length:Int)=0:=by omega
  rw[Aa (by omega),Ak n0]
  refine evH ?_;exact bi shA [true,true,false,true,true]
 have hz: ¬(e2.length:Int)=0:=by omega
 by_cases c:64<=e2.length
 ·rw[Ac c]
  refine evH ?_;exact bi shA [true,true,false,true,true]
 ·rw[Aa c,Al (by omega)]
  have h1:=fm t b (by omega) false 0
  refine evH ?_;exact bi shA [true,true,false,true,true]
theorem hdk3 (hg:gr<=3)(b:B5)(hb:(e3.length=0/\b= [])∨(0<e3.length/\ ∃a,e3[((e3.length:Int)-1).toNat]? =some (.str b::a))):ag G 599 [.ref 0 0 0,.sl 1 [[.str [99,111,109,109,117,110,105,116,121,45,108,105,115,116]],[.str t]]] (rdA mo gr e1 e2 e3 e4) ⟨.tup [.bool true,.int .i64 (hdX e3.length t b)],WL e1 e2 e3 e4 t⟩:=by
 unfold rdA rdc;have hgr: ¬3<gr:=by omega
 refine gvH (F:=gf) ?_
 (conv=>whnf)
 refine dC [(92,_,.vec 1 (cj.map ah))] [30,1,28,0,6,29] (@shA 0 0 0 0 0 2 2 2 3 (rdc e1.length e2.length e3.length e4.length mo gr) e1 e2 e3 e4) ⟨rfl,rfl,trivial⟩ ?_
 iterate 24 (try ((conv=>whnf);first|refine ⟨rfl,?_⟩|refine ⟨(by first|assumption|(simp;done)|(simp[ab];done)),?_⟩))
 intro T H;refine gM [99,111,109,109,117,110,105,116,121,45,108,105,115,116] t _ _ _ cj [] 0 _ _ 0 rfl rfl (by decide) (by decide) (λT c=>?_)
 rw[show kOf [99,111,109,109,117,110,105,116,121,45,108,105,115,116] cj 0 0=3 from by decide,hdX]
 rcases hb with ⟨n0,rfl⟩|⟨n0,a,hb⟩
 ·have h1:=fm t [] (by omega) true 0
  have hz:(e3.length:Int)=0:=by omega
  rw[Aa (by omega),Ak n0]
  refine evH ?_;exact bi shA [true,true,true,false,true]
 have hz: ¬(e3.length:Int)=0:=by omega
 by_cases c:64<=e3.length
 ·rw[Ac c]
  refine evH ?_;exact bi shA [true,true,true,false,true]
 ·rw[Aa c,Al (by omega)]
  have h1:=fm t b (by omega) false 0
  refine evH ?_;exact bi shA [true,true,true,false,true]
theorem hdk4 (hg:gr<=4)(b:B5)(hb:(e4.length=0/\b= [])∨(0<e4.length/\ ∃a,e4[((e4.length:Int)-1).toNat]? =some (.str b::a))):ag G 599 [.ref 0 0 0,.sl 1 [[.str [112,111,108,105,99,121]],[.str t]]] (rdA mo gr e1 e2 e3 e4) ⟨.tup [.bool true,.int .i64 (hdX e4.length t b)],WH e1 e2 e3 e4 t⟩:=by
 unfold rdA rdc;have hgr: ¬4<gr:=by omega
 refine gvH (F:=gf) ?_
 (conv=>whnf)
 refine dC [(92,_,.vec 1 (cj.map ah))] [30,1,28,0,6,29] (@shA 0 0 0 0 0 2 2 2 3 (rdc e1.length e2.length e3.length e4.length mo gr) e1 e2 e3 e4) ⟨rfl,rfl,trivial⟩ ?_
 iterate 24 (try ((conv=>whnf);first|refine ⟨rfl,?_⟩|refine ⟨(by first|assumption|(simp;done)|(simp[ab];done)),?_⟩))
 intro T H;refine gM [112,111,108,105,99,121] t _ _ _ cj [] 0 _ _ 0 rfl rfl (by decide) (by decide) (λT c=>?_)
 rw[show kOf [112,111,108,105,99,121] cj 0 0=4 from by decide,hdX]
 rcases hb with ⟨n0,rfl⟩|⟨n0,a,hb⟩
 ·have h1:=fm t [] (by omega) true 0
  have hz:(e4.length:Int)=0:=by omega
  rw[Aa (by omega),Ak n0]
  refine evH ?_;exact bi shA [true,true,true,true,false]
 have hz: ¬(e4.length:Int)=0:=by omega
 by_cases c:64<=e4.length
 ·rw[Ac c]
  refine evH ?_;exact bi shA [true,true,true,true,false]
 ·rw[Aa c,Al (by omega)]
  have h1:=fm t b (by omega) false 0
  refine evH ?_;exact bi shA [true,true,true,true,false]
end
def hNo (mo gr:Int)(l:CF):Prop:=l.length≠2∨ ∃w t,l= [w,t]/\(t= []∨4<=mo∨kOf w cj 0 0=0∨kOf w cj 0 0<gr)
theorem yL (w:B5):0<=kOf w cj 0 0/\kOf w cj 0 0<=4:=by
 unfold cj kOf kOf kOf kOf kOf
 (repeat' split)<;>decide
theorem oV {α:Type}{l:List α}(h:l.length=2): ∃w t,l= [w,t]:=by
 rcases l with _|⟨w,_|⟨t,_|⟨x,r⟩⟩⟩
 ·cases h
 ·cases h
 ·exact ⟨w,t,rfl⟩
 ·simp at h
section
variable {e1 e2 e3 e4:B6}(p1:ab e1=true)(p2:ab e2=true)(p3:ab e3=true)(p4:ab e4=true)(l1:e1.length<2^30)(l2:e2.length<2^30)(l3:e3.length<2^30)(l4:e4.length<2^30){nm:B5}{rl:B6}
include p1 p2 p3 p4 l1 l2 l3 l4
theorem hnA {mo gr:Int}(l:CF)(hl:l.length<2^30)(hno:hNo mo gr l):ag G 599 [.ref 0 0 0,.sl 1 (l.map ah)] (rdA mo gr e1 e2 e3 e4) ⟨.tup [.bool false,.int .i64 0],roA mo gr e1 e2 e3 e4⟩:=by
 unfold rdA rdc
 by_cases h2:l.length=2
 ·obtain ⟨w,t,rfl⟩:=oV h2
  simp only[An,A6,ah]
  by_cases t0:t= []
  ·subst t0
   refine gvH (F:=gf) ?_;exact bi shA t5
  by_cases m4:4<=mo
  ·refine gvH (F:=gf) ?_
   exact bi shA t5
  have hk:=yL w
  have h:kOf w cj 0 0=0∨kOf w cj 0 0<gr:=by
   rcases hno with h|⟨w',t',e,h⟩
   ·exact absurd h2 h
   ·cases e
    rcases h with h|h|h
    ·exact absurd h t0
    ·omega
    ·exact h
  refine gvH (F:=gf) ?_;refine dC [(92,_,.vec 1 (cj.map ah))] [30,1,28,0,6,29] (@shA 0 0 0 0 0 2 2 2 3 (rdc e1.length e2.length e3.length e4.length mo gr) e1 e2 e3 e4) ⟨rfl,rfl,trivial⟩ ?_
  iterate 24 (try ((conv=>whnf);first|refine ⟨rfl,?_⟩|refine ⟨(by first|assumption|(simp;done)|(simp[ab];done)),?_⟩))
  intro T H;refine gM w t _ _ _ cj [] 0 _ _ 0 rfl rfl (by decide) (by decide) (λT c=>?_)
  generalize kOf w cj 0 0=k at*
  by_cases k0:k=0
  ·refine evH ?_
   exact bi shA t5
  ·have hg:k<gr:=h.resolve_left k0
   refine evH ?_;exact bi shA t5
 ·have m1:=ml l ah
  have q1:ab (l.map ah)=true:=by simp
  generalize l.map ah=ll at*;have hz: ¬(ll.length:Int)=2:=by omega
  refine gvH (F:=gf) ?_;exact bi shA t5
section
variable (pr:ab rl=true)(lr:rl.length<2^30)(l:CF)(hl:l.length<2^30)
include pr lr hl
theorem hnB1 (hno:hNo 1 1 l):ag G 599 [.ref 0 0 0,.sl 1 (l.map ah)] (j3 e1 e2 e3 e4 nm rl) ⟨.tup [.bool false,.int .i64 0],nT e1 e2 e3 e4 nm rl.length true rl⟩:=by
 unfold j3 rdc
 by_cases h2:l.length=2
 ·obtain ⟨w,t,rfl⟩:=oV h2
  simp only[An,A6,ah]
  by_cases t0:t= []
  ·subst t0
   refine gvH (F:=gf) ?_;exact bi mz t6
  have hk:=yL w
  have h:kOf w cj 0 0=0∨kOf w cj 0 0<1:=by
   rcases hno with h|⟨w',t',e,h⟩
   ·exact absurd h2 h
   ·cases e
    rcases h with h|h|h
    ·exact absurd h t0
    ·omega
    ·exact h
  refine gvH (F:=gf) ?_;refine dC [(92,_,.vec 1 (cj.map ah))] [30,1,28,0,6,29] (@mz 0 0 0 0 0 0 2 2 2 3 5 (rdc (e1.length+1) e2.length e3.length e4.length 1 1) e1 [[.str nm,.vs 5 0 rl.length]] e2 e3 e4 rl) ⟨rfl,rfl,trivial⟩ ?_
  iterate 24 (try ((conv=>whnf);first|refine ⟨rfl,?_⟩|refine ⟨(by first|assumption|(simp;done)|(simp[ab];done)),?_⟩))
  intro T H;refine gM w t _ _ _ cj [] 0 _ _ 0 rfl rfl (by decide) (by decide) (λT c=>?_)
  generalize kOf w cj 0 0=k at*
  by_cases k0:k=0
  ·refine evH ?_
   exact bi mz t6
  ·have hg:k<1:=h.resolve_left k0
   refine evH ?_;exact bi mz t6
 ·have m1:=ml l ah
  have q1:ab (l.map ah)=true:=by simp
  generalize l.map ah=ll at*;have hz: ¬(ll.length:Int)=2:=by omega
  refine gvH (F:=gf) ?_;exact bi mz t6
theorem hnB2 (hno:hNo 2 2 l):ag G 599 [.ref 0 0 0,.sl 1 (l.map ah)] (jZ e1 e2 e3 e4 nm rl) ⟨.tup [.bool false,.int .i64 0],nR e1 e2 e3 e4 nm rl.length true rl⟩:=by
 unfold jZ rdc
 by_cases h2:l.length=2
 ·obtain ⟨w,t,rfl⟩:=oV h2
  simp only[An,A6,ah]
  by_cases t0:t= []
  ·subst t0
   refine gvH (F:=gf) ?_;exact bi my t6
  have hk:=yL w
  have h:kOf w cj 0 0=0∨kOf w cj 0 0<2:=by
   rcases hno with h|⟨w',t',e,h⟩
   ·exact absurd h2 h
   ·cases e
    rcases h with h|h|h
    ·exact absurd h t0
    ·omega
    ·exact h
  refine gvH (F:=gf) ?_;refine dC [(92,_,.vec 1 (cj.map ah))] [30,1,28,0,6,29] (@my 0 0 0 0 0 0 2 2 2 3 2 (rdc e1.length (e2.length+1) e3.length e4.length 2 2) e1 e2 [[.str nm,.vs 5 0 rl.length]] e3 e4 rl) ⟨rfl,rfl,trivial⟩ ?_
  iterate 24 (try ((conv=>whnf);first|refine ⟨rfl,?_⟩|refine ⟨(by first|assumption|(simp;done)|(simp[ab];done)),?_⟩))
  intro T H;refine gM w t _ _ _ cj [] 0 _ _ 0 rfl rfl (by decide) (by decide) (λT c=>?_)
  generalize kOf w cj 0 0=k at*
  by_cases k0:k=0
  ·refine evH ?_
   exact bi my t6
  ·have hg:k<2:=h.resolve_left k0
   refine evH ?_;exact bi my t6
 ·have m1:=ml l ah
  have q1:ab (l.map ah)=true:=by simp
  generalize l.map ah=ll at*;have hz: ¬(ll.length:Int)=2:=by omega
  refine gvH (F:=gf) ?_;exact bi my t6
theorem hnB3 (hno:hNo 3 3 l):ag G 599 [.ref 0 0 0,.sl 1 (l.map ah)] (ju e1 e2 e3 e4 nm rl) ⟨.tup [.bool false,.int .i64 0],mC e1 e2 e3 e4 nm rl.length true rl⟩:=by
 unfold ju rdc
 by_cases h2:l.length=2
 ·obtain ⟨w,t,rfl⟩:=oV h2
  simp only[An,A6,ah]
  by_cases t0:t= []
  ·subst t0
   refine gvH (F:=gf) ?_;exact bi jb t6
  have hk:=yL w
  have h:kOf w cj 0 0=0∨kOf w cj 0 0<3:=by
   rcases hno with h|⟨w',t',e,h⟩
   ·exact absurd h2 h
   ·cases e
    rcases h with h|h|h
    ·exact absurd h t0
    ·omega
    ·exact h
  refine gvH (F:=gf) ?_;refine dC [(92,_,.vec 1 (cj.map ah))] [30,1,28,0,6,29] (@jb 0 0 0 0 0 0 2 2 2 3 3 (rdc e1.length e2.length (e3.length+1) e4.length 3 3) e1 e2 e3 [[.str nm,.vs 5 0 rl.length]] e4 rl) ⟨rfl,rfl,trivial⟩ ?_
  iterate 24 (try ((conv=>whnf);first|refine ⟨rfl,?_⟩|refine ⟨(by first|assumption|(simp;done)|(simp[ab];done)),?_⟩))
  intro T H;refine gM w t _ _ _ cj [] 0 _ _ 0 rfl rfl (by decide) (by decide) (λT c=>?_)
  generalize kOf w cj 0 0=k at*
  by_cases k0:k=0
  ·refine evH ?_
   exact bi jb t6
  ·have hg:k<3:=h.resolve_left k0
   refine evH ?_;exact bi jb t6
 ·have m1:=ml l ah
  have q1:ab (l.map ah)=true:=by simp
  generalize l.map ah=ll at*;have hz: ¬(ll.length:Int)=2:=by omega
  refine gvH (F:=gf) ?_;exact bi jb t6
theorem hnC  :ag G 599 [.ref 0 0 0,.sl 1 (l.map ah)] (rdC e1 e2 e3 e4 nm rl) ⟨.tup [.bool false,.int .i64 0],roC 4 e1 e2 e3 e4 nm rl.length 0 true rl⟩:=by
 unfold rdC rdc
 by_cases h2:l.length=2
 ·obtain ⟨w,t,rfl⟩:=oV h2
  simp only[An,A6,ah]
  by_cases t0:t= []
  ·subst t0
   refine gvH (F:=gf) ?_;exact bi shC t6
  ·refine gvH (F:=gf) ?_
   exact bi shC t6
 ·have m1:=ml l ah
  have q1:ab (l.map ah)=true:=by simp
  generalize l.map ah=ll at*;have hz: ¬(ll.length:Int)=2:=by omega
  refine gvH (F:=gf) ?_;exact bi shC t6
end
theorem hnD {mo:Int}{nm:B5}{rl:B6}(pr:ab rl=true)(lr:rl.length<2^30){tn:B5}{ms acs:B6}(pm:ab ms=true)(pa:ab acs=true)(lm:ms.length<2^30)(la:acs.length<2^30)(l:CF)(hl:l.length<2^30)(m4:4<=mo):ag G 599 [.ref 0 0 0,.sl 1 (l.map ah)] (rdD mo e1 e2 e3 e4 nm rl tn ms acs) ⟨.tup [.bool false,.int .i64 0],roD mo e1 e2 e3 e4 nm rl tn ms.length acs.length 0 true true ms acs⟩:=by
 unfold rdD rdc
 by_cases h2:l.length=2
 ·obtain ⟨w,t,rfl⟩:=oV h2
  simp only[An,A6,ah]
  by_cases t0:t= []
  ·subst t0
   refine gvH (F:=gf) ?_;exact bi shD t8
  ·refine gvH (F:=gf) ?_
   exact bi shD t8
 ·have m1:=ml l ah
  have q1:ab (l.map ah)=true:=by simp
  generalize l.map ah=ll at*;have hz: ¬(ll.length:Int)=2:=by omega
  refine gvH (F:=gf) ?_;exact bi shD t8
end
def cJ (o:Option B5):Ret:=match o with
 |some t=>⟨.tup [.str t,.bool true],[]⟩
 |none=>⟨.tup [.str [],.bool false],[]⟩
theorem nw (s:B5)(hs:s.length<2^40):ag G 636 [.str s,.str [112,101,114,109,105,116,32]] [] (cJ (kc s (jE true))):=qy s (jE true) hs (by decide)
theorem nx (s:B5)(hs:s.length<2^40):ag G 636 [.str s,.str [100,101,110,121,32]] [] (cJ (kc s (jE false))):=qy s (jE false) hs (by decide)
theorem IG {s:B5}(h:pmR s=none):kc s (jE true)=none/\kc s (jE false)=none:=by
 unfold pmR at h;split at h
 ·cases h
 ·rename_i h1
  split at h
  ·cases h
  ·rename_i h2;exact ⟨h1,h2⟩
section
variable {s t:B5}{b:Bool}(h:pmR s=some (b,t))
include h
theorem lj:(b=true/\kc s (jE true)=some t)∨(b=false/\kc s (jE true)=none/\kc s (jE false)=some t):=by
 unfold pmR at h;split at h
 ·rename_i u h1;cases h;exact .inl ⟨rfl,h1⟩
 ·rename_i h1
  split at h
  ·rename_i u h2;cases h;exact .inr ⟨rfl,h1,h2⟩
  ·cases h
theorem rj:t.length<=s.length:=by
 have k: ∀ {p},kc s p=some t->t.length<=s.length:=fun {p} q=>by
  obtain ⟨_,e⟩:=nJ.1 q;rw[e,Ao];omega
 rcases lj h with ⟨_,q⟩|⟨_,_,q⟩<;>exact k q
end
section
variable {e1 e2 e3 e4:B6}(p1:ab e1=true)(p2:ab e2=true)(p3:ab e3=true)(p4:ab e4=true)(l1:e1.length<2^30)(l2:e2.length<2^30)(l3:e3.length<2^30)(l4:e4.length<2^30){nm:B5}{rl:B6}(pr:ab rl=true)(lr:rl.length<2^30)(s t:B5)(b:Bool)
include p1 p2 p3 p4 l1 l2 l3 l4 pr lr
section
variable (s:B5)(hs:s.length<2^30)(h:pmR s=none)
include hs h
theorem aea:ag G 602 [.ref 0 0 0,.str s] (j3 e1 e2 e3 e4 nm rl) ⟨.int .i64 2,nT e1 e2 e3 e4 nm rl.length true rl⟩:=by
 unfold j3 rdc;generalize hn:e1.length+1=n;have b1:=nw s (by omega)
 have b2:=nx s (by omega)
 obtain ⟨q1,q2⟩:=IG h;rw[q1,cJ] at b1;rw[q2,cJ] at b2;refine gvH (F:=iq) ?_;subst hn;exact bi mz t6
theorem ad9:ag G 602 [.ref 0 0 0,.str s] (jZ e1 e2 e3 e4 nm rl) ⟨.int .i64 2,nR e1 e2 e3 e4 nm rl.length true rl⟩:=by
 unfold jZ rdc;generalize hn:e2.length+1=n;have b1:=nw s (by omega)
 have b2:=nx s (by omega)
 obtain ⟨q1,q2⟩:=IG h;rw[q1,cJ] at b1;rw[q2,cJ] at b2;refine gvH (F:=iq) ?_;subst hn;exact bi my t6
theorem ad8:ag G 602 [.ref 0 0 0,.str s] (ju e1 e2 e3 e4 nm rl) ⟨.int .i64 2,mC e1 e2 e3 e4 nm rl.length true rl⟩:=by
 unfold ju rdc;generalize hn:e3.length+1=n;have b1:=nw s (by omega)
 have b2:=nx s (by omega)
 obtain ⟨q1,q2⟩:=IG h;rw[q1,cJ] at b1;rw[q2,cJ] at b2;refine gvH (F:=iq) ?_;subst hn;exact bi jb t6
end
section
variable (hs:s.length<2^30)(h:pmR s=some (b,t))
include hs h
theorem acd (hr:(J.refP s).2≠0):ag G 602 [.ref 0 0 0,.str s] (j3 e1 e2 e3 e4 nm rl) ⟨.int .i64 2,nT e1 e2 e3 e4 nm rl.length true rl⟩:=by
 unfold j3 rdc;generalize hn:e1.length+1=n;have b1:=nw s (by omega)
 have b2:=nx s (by omega)
 have h3:=J.parse_gives349 s (by omega)
 unfold J.prR6 at h3;unfold J.PRule.enc at*;generalize J.refP s=x at*;obtain ⟨⟨v,⟨pa,pl⟩,mn,mx⟩,e⟩:=x;dsimp only at*;rcases lj h with ⟨rfl,q1⟩|⟨rfl,q1,q2⟩
 ·rw[q1,cJ] at b1
  refine gvH (F:=iq) ?_;subst hn;exact bi mz t6
 ·rw[q1,cJ] at b1
  rw[q2,cJ] at b2;refine gvH (F:=iq) ?_;subst hn;exact bi mz t6
theorem acg (hr:(J.refP s).2=0):ag G 602 [.ref 0 0 0,.str s] (j3 e1 e2 e3 e4 nm rl) ⟨.int .i64 (if 64<((rl.length+1:Nat):Int) then 4 else 0),nT e1 e2 e3 e4 nm (rl.length+1) false (rl++[(J.refP s).1.enc])⟩:=by
 unfold j3 rdc;generalize hn:e1.length+1=n;have b1:=nw s (by omega)
 have b2:=nx s (by omega)
 have h3:=J.parse_gives349 s (by omega)
 unfold J.prR6 at h3;unfold J.PRule.enc at*;rw[hr] at h3;have h4:=dq ((rl.length+1:Nat):Int);generalize (if 64<((rl.length+1:Nat):Int) then (4:Int) else 0)=E at*
 generalize (J.refP s).1=x at*;obtain ⟨v,⟨pa,pl⟩,mn,mx⟩:=x;dsimp only at*;rcases lj h with ⟨rfl,q1⟩|⟨rfl,q1,q2⟩
 ·rw[q1,cJ] at b1
  refine gvH (F:=iq) ?_;rw[hsL hn];subst hn;exact bi mz [true,true,true,true,true,false]
 ·rw[q1,cJ] at b1
  rw[q2,cJ] at b2;refine gvH (F:=iq) ?_;rw[hsL hn];subst hn;exact bi mz [true,true,true,true,true,false]
end
end
theorem tH (s:B5)(h:s.length<2^32): ∃(k lo hi:Int)(l:C7),ag G 571 [.str s] [] ⟨.tup [.agg [.int .i64 k,.int .i64 lo,.int .i64 hi,.sl 4 (l.map Rx.enc)],.int .i64 (if (ff s).isSome then 0 else 2)],[]⟩:=by
 have h1:ag G 571 [.str s] [] (rQ (ff s)):=AZ s h;cases hq:ff s with
 |none=>
  rw[hq] at h1;refine ⟨0,0,0,[],?_⟩;have e:=bl 0 0 0 [];have h2:ag G 571 [.str s] [] ⟨.tup [.agg rx0.enc,.int .i64 2],[]⟩:=h1;unfold rx0 at h2;rw[e] at h2;exact h2
 |some x=>
  rw[hq] at h1;obtain ⟨k,lo,hi,l⟩:=x;refine ⟨k,lo,hi,l,?_⟩;have h2:ag G 571 [.str s] [] ⟨.tup [.agg (Rx.mk k lo hi l).enc,.int .i64 0],[]⟩:=h1;rw[bl] at h2;exact h2
section
variable {e1 e2 e3 e4:B6}(p1:ab e1=true)(p2:ab e2=true)(p3:ab e3=true)(p4:ab e4=true)(l1:e1.length<2^30)(l2:e2.length<2^30)(l3:e3.length<2^30)(l4:e4.length<2^30){nm:B5}{rl:B6}(pr:ab rl=true)(lr:rl.length<2^30)(s t:B5)(b:Bool)(hs:s.length<2^30)(h:pmR s=some (b,t))
include p1 p2 p3 p4 l1 l2 l3 l4 pr lr hs h
theorem acb (hr:ff t=none):ag G 602 [.ref 0 0 0,.str s] (jZ e1 e2 e3 e4 nm rl) ⟨.int .i64 2,nR e1 e2 e3 e4 nm rl.length true rl⟩:=by
 unfold jZ rdc;generalize hn:e2.length+1=n;have b1:=nw s (by omega)
 have b2:=nx s (by omega)
 have ht:=rj h;obtain ⟨k,lo,hi,l,h5⟩:=tH t (by omega)
 rw[hr,Aa (by simp)] at h5
 rcases lj h with ⟨rfl,q1⟩|⟨rfl,q1,q2⟩
 ·rw[q1,cJ] at b1
  refine gvH (F:=iq) ?_;subst hn;exact bi my t6
 ·rw[q1,cJ] at b1
  rw[q2,cJ] at b2;refine gvH (F:=iq) ?_;subst hn;exact bi my t6
theorem acf (hr:(ff t).isSome=true):ag G 602 [.ref 0 0 0,.str s] (jZ e1 e2 e3 e4 nm rl) ⟨.int .i64 (if 64<((rl.length+1:Nat):Int) then 4 else 0),nR e1 e2 e3 e4 nm (rl.length+1) false (rl++[[.bool b,.str t]])⟩:=by
 unfold jZ rdc;generalize hn:e2.length+1=n;have b1:=nw s (by omega)
 have b2:=nx s (by omega)
 have ht:=rj h;obtain ⟨k,lo,hi,l,h5⟩:=tH t (by omega)
 rw[hr,Ac rfl] at h5;have h4:=dq ((rl.length+1:Nat):Int);generalize (if 64<((rl.length+1:Nat):Int) then (4:Int) else 0)=E at*
 rcases lj h with ⟨rfl,q1⟩|⟨rfl,q1,q2⟩
 ·rw[q1,cJ] at b1
  refine gvH (F:=iq) ?_;rw[hsL hn];subst hn;exact bi my [true,true,true,true,true,false]
 ·rw[q1,cJ] at b1
  rw[q2,cJ] at b2;refine gvH (F:=iq) ?_;rw[hsL hn];subst hn;exact bi my [true,true,true,true,true,false]
end
theorem gF (t:B5)(b:Bool)(m:Nat)(H:az)(R:Ret): ∀(x done y:B5)(T:TV)(c:Nat)(k:Int)(e:t=done++(x++y))(hk:k=done.length)(hx: ∀a∈x,a≠58)(ht:t.length<2^30)
  (go: ∀(T:TV)(c:Nat),Ev G ⟨Dw,⟨(15,.int .i64 ((done++x).length:Nat))::(0,.ref 0 0 0)::(6,.bool b)::(5,.str t)::T,H,c⟩,[.t 4],m⟩ R),
  Ev G ⟨Dw,⟨(15,.int .i64 k)::(0,.ref 0 0 0)::(6,.bool b)::(5,.str t)::T,H,c⟩,[.t 4],m⟩ R
 | [],done,y,T,c,k,e,hk,hx,ht,go=>by
  subst hk;rw[Bb] at go;exact go T c
 |a::x,done,y,T,c,k,e,hk,hx,ht,go=>by
  have hl:t.length=done.length+(x.length+1+y.length):=by simp[e];omega
  have hb:t[k.toNat]? =some a:=by rw[e,hk];simp
  have hn: ¬(a.toNat:Int)=58:=λq=>hx a (by simp) (A5.1 (by simpa using (by omega:a.toNat=58)))
  have ih:=λT c=>gF t b m H R x (done++[a]) y T c (k+1) (by simp[e]) (by simp[hk]) (λz hz=>hx z (by simp[hz])) ht (by rw[List.append_assoc];exact go)
  have hal:=a.toNat_lt;refine evl ?_
  repeat' ((conv=>whnf);first|refine J.zIstr ?_ hb (by omega)|refine aq ?_|apply ae<;>intro h)
  refine au [15,0,6,5] [] ?_;exact ih _ _
theorem nh: ∀(s:B5){x y:B5},fM s=some (x,y)-> ∀a∈x,a≠58
 | [],_,_,h=>by cases h
 |c::r,x,y,h=>by
  unfold fM at h
  by_cases hc:c=58
  ·rw[Ac hc] at h;cases h;intro a ha;cases ha
  ·rw[Aa hc] at h
   rcases hr:fM r with _|⟨p,q⟩
   ·rw[hr] at h;cases h
   ·rw[hr] at h;cases h
    intro a ha;rcases AI.1 ha with rfl|ha
    ·exact hc
    ·exact nh r hr a ha
theorem uJ: ∀(s:B5),fM s=none-> ∀a∈s,a≠58
 | [],_=>λa ha=>by cases ha
 |c::r,h=>by
  unfold fM at h
  by_cases hc:c=58
  ·rw[Ac hc] at h;cases h
  ·rw[Aa hc] at h
   intro a ha;rcases AI.1 ha with rfl|ha
   ·exact hc
   ·exact uJ r (by simpa using h) a ha
theorem WO {e1 e2 e3 e4:B6}(p1:ab e1=true)(p2:ab e2=true)(p3:ab e3=true)(p4:ab e4=true)(l1:e1.length<2^30)(l2:e2.length<2^30)(l3:e3.length<2^30)(l4:e4.length<2^30){nm:B5}{rl:B6}(pr:ab rl=true)(lr:rl.length<2^30)(s t:B5)(b:Bool)(hs:s.length<2^30)(h:pmR s=some (b,t))(hc:fM t=none):ag G 602 [.ref 0 0 0,.str s] (ju e1 e2 e3 e4 nm rl) ⟨.int .i64 2,mC e1 e2 e3 e4 nm rl.length true rl⟩:=by
 unfold ju rdc;generalize hn:e3.length+1=n;have b1:=nw s (by omega)
 have b2:=nx s (by omega)
 have ht:=rj h;have hm:(([]++t).length:Nat)=t.length:=by simp
 rcases lj h with ⟨rfl,q1⟩|⟨rfl,q1,q2⟩
 ·rw[q1,cJ] at b1
  refine gvH (F:=iq) ?_
  (conv=>whnf)
  refine au [15,0,6,5] [] ?_;refine gF t _ _ _ _ t [] [] _ _ 0 (by simp) rfl (uJ t hc) (by omega) (λT c=>?_)
  rw[hm];refine evH ?_;subst hn;exact bi jb t6
 ·rw[q1,cJ] at b1
  rw[q2,cJ] at b2;refine gvH (F:=iq) ?_
  (conv=>whnf)
  refine au [15,0,6,5] [] ?_;refine gF t _ _ _ _ t [] [] _ _ 0 (by simp) rfl (uJ t hc) (by omega) (λT c=>?_)
  rw[hm];refine evH ?_;subst hn;exact bi jb t6
theorem GF {t x y:B5}(hc:fM t=some (x,y))(ht:t.length<2^30):t=x++58::y/\t.length=x.length+(y.length+1)/\t[((x.length:Nat):Int).toNat]? =some 58/\ag G 637 [.str (List.take ((x.length:Int).toNat-0) (List.drop 0 t))] [] (pkR (eN x))/\ag G 637 [.str (List.take (t.length- ((x.length:Int)+1).toNat) (List.drop ((x.length:Int)+1).toNat t))] [] (pkR (eN y)):=by
 have e:=DW t hc;have hl:t.length=x.length+(y.length+1):=by rw[e];simp
 have ta:List.take ((x.length:Int).toNat-0) (List.drop 0 t)=x:=by rw[e];simp
 have tb:List.take (t.length- ((x.length:Int)+1).toNat) (List.drop ((x.length:Int)+1).toNat t)=y:=by
  rw[show ((x.length:Int)+1).toNat=x.length+1 from by omega,e,show x++58::y=(x++[58])++y from by simp]
  rw[show x.length+1=(x++[58]).length from by simp,List.drop_left,List.take_of_length_le (by simp;omega)]
 exact ⟨e,hl,by rw[e];simp,by rw[ta];exact sM x (by omega),by rw[tb];exact sM y (by omega)⟩
section
variable {e1 e2 e3 e4:B6}(p1:ab e1=true)(p2:ab e2=true)(p3:ab e3=true)(p4:ab e4=true)(l1:e1.length<2^30)(l2:e2.length<2^30)(l3:e3.length<2^30)(l4:e4.length<2^30){nm:B5}{rl:B6}(pr:ab rl=true)(lr:rl.length<2^30)(s t x y:B5)(b:Bool)(hs:s.length<2^30)(h:pmR s=some (b,t))(hc:fM t=some (x,y))
include p1 p2 p3 p4 l1 l2 l3 l4 pr lr hs h hc
theorem GU (hp:eN x=none∨eN y=none):ag G 602 [.ref 0 0 0,.str s] (ju e1 e2 e3 e4 nm rl) ⟨.int .i64 2,mC e1 e2 e3 e4 nm rl.length true rl⟩:=by
 unfold ju rdc;generalize hn:e3.length+1=n;have b1:=nw s (by omega)
 have b2:=nx s (by omega)
 have ht:=rj h;obtain ⟨e,hl,hb58,h6,h7⟩:=GF hc (by omega)
 have hm:(([]++x).length:Nat)=x.length:=by simp
 have h8: ∃v w:Int×Bool,(v.2=false∨w.2=false)/\pkR (eN x)=⟨.tup [.int .i64 v.1,.bool v.2],[]⟩/\pkR (eN y)=⟨.tup [.int .i64 w.1,.bool w.2],[]⟩:=by
  rcases hp with hp|hp
  ·rcases hy:eN y with _|w
   ·exact ⟨(0,false),(0,false),.inl rfl,by rw[hp];rfl,rfl⟩
   ·exact ⟨(0,false),(w,true),.inl rfl,by rw[hp];rfl,rfl⟩
  ·rcases hy:eN x with _|w
   ·exact ⟨(0,false),(0,false),.inl rfl,rfl,by rw[hp];rfl⟩
   ·exact ⟨(w,true),(0,false),.inr rfl,rfl,by rw[hp];rfl⟩
 obtain ⟨⟨v1,v2⟩,⟨w1,w2⟩,hv,e1,e2⟩:=h8;rw[e1] at h6;rw[e2] at h7;dsimp only at hv h6 h7;rcases lj h with ⟨rfl,q1⟩|⟨rfl,q1,q2⟩
 ·rw[q1,cJ] at b1
  refine gvH (F:=iq) ?_
  (conv=>whnf)
  refine au [15,0,6,5] [] ?_;refine gF t _ _ _ _ x [] (58::y) _ _ 0 (by rw[e];rfl) rfl (nh t hc) (by omega) (λT c=>?_)
  rw[hm];rcases v2 with _|_
  ·skip
   refine evl ?_
   repeat' ((conv=>whnf);first|refine J.zIstr ?_ hb58 (by omega)|refine cy hn ?_|refine ia hn ?_|refine aq ?_|apply ae<;>intro h)
   subst hn;exact bi jb t6
  ·obtain rfl:w2=false:=by simpa using hv
   refine evl ?_
   repeat' ((conv=>whnf);first|refine J.zIstr ?_ hb58 (by omega)|refine cy hn ?_|refine ia hn ?_|refine aq ?_|apply ae<;>intro h)
   subst hn;exact bi jb t6
 ·rw[q1,cJ] at b1
  rw[q2,cJ] at b2;refine gvH (F:=iq) ?_
  (conv=>whnf)
  refine au [15,0,6,5] [] ?_;refine gF t _ _ _ _ x [] (58::y) _ _ 0 (by rw[e];rfl) rfl (nh t hc) (by omega) (λT c=>?_)
  rw[hm];rcases v2 with _|_
  ·skip
   refine evl ?_
   repeat' ((conv=>whnf);first|refine J.zIstr ?_ hb58 (by omega)|refine cy hn ?_|refine ia hn ?_|refine aq ?_|apply ae<;>intro h)
   subst hn;exact bi jb t6
  ·obtain rfl:w2=false:=by simpa using hv
   refine evl ?_
   repeat' ((conv=>whnf);first|refine J.zIstr ?_ hb58 (by omega)|refine cy hn ?_|refine ia hn ?_|refine aq ?_|apply ae<;>intro h)
   subst hn;exact bi jb t6
theorem ace (v w:Int)(hv:eN x=some v)(hw:eN y=some w):ag G 602 [.ref 0 0 0,.str s] (ju e1 e2 e3 e4 nm rl) ⟨.int .i64 (if 64<((rl.length+1:Nat):Int) then 4 else jP ⟨b,v,w⟩),mC e1 e2 e3 e4 nm (rl.length+1) false (rl++[[.bool b,.int .i64 v,.int .i64 w]])⟩:=by
 unfold ju rdc;generalize hn:e3.length+1=n;have b1:=nw s (by omega)
 have b2:=nx s (by omega)
 have ht:=rj h;obtain ⟨e,hl,hb58,h6,h7⟩:=GF hc (by omega)
 have hm:(([]++x).length:Nat)=x.length:=by simp
 rw[hv,pkR] at h6;rw[hw,pkR] at h7;have h4:=dq ((rl.length+1:Nat):Int);have h8:=Ku ⟨b,v,w⟩;unfold ComR.enc at h8;dsimp only at h8;rcases lj h with ⟨rfl,q1⟩|⟨rfl,q1,q2⟩
 ·rw[q1,cJ] at b1
  by_cases hk:64<((rl.length+1:Nat):Int)
  ·rw[Ac hk] at h4⊢
   refine gvH (F:=iq) ?_
   (conv=>whnf)
   refine au [15,0,6,5] [] ?_;refine gF t _ _ _ _ x [] (58::y) _ _ 0 (by rw[e];rfl) rfl (nh t hc) (by omega) (λT c=>?_)
   rw[hm];refine evl ?_
   repeat' ((conv=>whnf);first|refine J.zIstr ?_ hb58 (by omega)|refine cy hn ?_|refine ia hn ?_|refine aq ?_|apply ae<;>intro h)
   rw[hsL hn];subst hn;exact bi jb [true,true,true,true,true,false]
  ·rw[Aa hk] at h4⊢
   refine gvH (F:=iq) ?_
   (conv=>whnf)
   refine au [15,0,6,5] [] ?_;refine gF t _ _ _ _ x [] (58::y) _ _ 0 (by rw[e];rfl) rfl (nh t hc) (by omega) (λT c=>?_)
   rw[hm];refine evl ?_
   repeat' ((conv=>whnf);first|refine J.zIstr ?_ hb58 (by omega)|refine cy hn ?_|refine ia hn ?_|refine aq ?_|apply ae<;>intro h)
   rw[hsL hn];subst hn;exact bi jb [true,true,true,true,true,false]
 ·rw[q1,cJ] at b1
  rw[q2,cJ] at b2
  by_cases hk:64<((rl.length+1:Nat):Int)
  ·rw[Ac hk] at h4⊢
   refine gvH (F:=iq) ?_
   (conv=>whnf)
   refine au [15,0,6,5] [] ?_;refine gF t _ _ _ _ x [] (58::y) _ _ 0 (by rw[e];rfl) rfl (nh t hc) (by omega) (λT c=>?_)
   rw[hm];refine evl ?_
   repeat' ((conv=>whnf);first|refine J.zIstr ?_ hb58 (by omega)|refine cy hn ?_|refine ia hn ?_|refine aq ?_|apply ae<;>intro h)
   rw[hsL hn];subst hn;exact bi jb [true,true,true,true,true,false]
  ·rw[Aa hk] at h4⊢
   refine gvH (F:=iq) ?_
   (conv=>whnf)
   refine au [15,0,6,5] [] ?_;refine gF t _ _ _ _ x [] (58::y) _ _ 0 (by rw[e];rfl) rfl (nh t hc) (by omega) (λT c=>?_)
   rw[hm];refine evl ?_
   repeat' ((conv=>whnf);first|refine J.zIstr ?_ hb58 (by omega)|refine cy hn ?_|refine ia hn ?_|refine aq ?_|apply ae<;>intro h)
   rw[hsL hn];subst hn;exact bi jb [true,true,true,true,true,false]
end
end Go.AM.IR
