/- What functions of this program give. -/
import Derived.Test.YtomphmeopjpejaaGreatDoorDataL
import Derived.Test.YtomphmeopjpejaaGreatDoorDataM
set_option linter.unusedSectionVars false
set_option linter.unusedVariables false
set_option linter.unusedSimpArgs false
set_option maxHeartbeats 4000000
set_option maxRecDepth 20000
namespace Go.AM.IR
section
variable {kv:AV->Prop}
theorem yNeT {a b:CF}(n:a=b)(h:kv (.bool false)): ∃v,bp .neq (.str a) (.str b)=some v/\kv v:=⟨.bool false,by show some (AV.bool (!(a==b)))=_;simp[n],h⟩
theorem yNeF {a b:CF}(n: ¬a=b)(h:kv (.bool true)): ∃v,bp .neq (.str a) (.str b)=some v/\kv v:=⟨.bool true,by show some (AV.bool (!(a==b)))=_;simp[n],h⟩
theorem Qt {x:Nat}(hx:x<65536)(h:kv (.int .u32 ((x*65536:Nat):Int))): ∃v,bp .shl (.int .u32 (x:Int)) (.int .u64 16)=some v/\kv v:=by
 refine ⟨_,?_,h⟩;show some (AV.int .u32 (IntKind.wrap .u32 ((x:Int)*2^ (min (16:Int).toNat 32))))=_
 rw[show (x:Int)*2^ (min (16:Int).toNat 32)=((x*65536:Nat):Int) from by simp[show min (16:Int).toNat 32=16 from rfl],ug _ (by omega)]
theorem QU {x n:Nat}(hx:x<65536)(hn:n<65536)(h:kv (.int .u32 ((x*65536+n:Nat):Int))): ∃v,bp .or (.int .u32 ((x*65536:Nat):Int)) (.int .u32 (n:Int))=some v/\kv v:=by
 refine ⟨_,?_,h⟩;show some (AV.int .u32 (intBits .or .u32 _ _))=_
 rw[IZ _ _ (by omega) (by omega)]
 congr 2
 have:=Nat.shiftLeft_add_eq_or_of_lt (i:=16) (b:=n) (by omega) x
 rw[Nat.shiftLeft_eq] at this;rw[show x*65536=x*2^16 from rfl,<-this]
end
def cmN (s:CF):D3:=if s=wC0 then some 4294901760 else if s=wC1 then some 4294967041 else if s=wC2 then some 4294967042 else if s=wC3 then some 4294967043 else none
def cmV (s a b:CF):D3:=if (J.fNum 65535 a).2=0/\(J.fNum 65535 b).2=0/\iO ((J.fNum 65535 a).1.toNat*65536+(J.fNum 65535 b).1.toNat)=s then some (((J.fNum 65535 a).1.toNat*65536+(J.fNum 65535 b).1.toNat:Nat):Int) else none
def cmP (s:CF):D3:=match cmN s with
 |some v=>some v
 |none=>match mz s with
  |none=>none
  |some (a,b)=>cmV s a b
def cmR:D3->Ret
 |some v=>⟨.tup [.int .u32 v,.int .i64 0],[]⟩
 |none=>⟨.tup [.int .u32 0,.int .i64 2],[]⟩
theorem KU:ab G 628 [] [] ⟨.tup [.agg [.int .u32 4294901760,.int .u32 4294967041,.int .u32 4294967042,.int .u32 4294967043],.agg [.str [103,114,97,99,101,102,117,108,45,115,104,117,116,100,111,119,110],.str [110,111,45,101,120,112,111,114,116],.str [110,111,45,97,100,118,101,114,116,105,115,101],.str [110,111,45,101,120,112,111,114,116,45,99,111,110,102,101,100]]],[]⟩:=tj 1000 rfl rfl (by kernel_rfl)
theorem yQ (s:CF)(hs:s.length<2^30)(hN:cmN s=none): ∀(rest done:CF)(T:TV)(H:aq)(c:Nat)(i:Int)(e:s=done++rest)(hi:i=done.length)(hd: ∀x∈done,x≠58),
  Ev G ⟨Vn,⟨(32,.int .i64 i)::(31,.int .i64 (s.length:Int))::(0,.str s)::T,H,c⟩,[.t 2,.t 3],0⟩ (cmR (cmP s))
 | [],done,T,H,c,i,e,hi,hd=>by
  have hl:=md0 e
  have hv:cmP s=none:=by
   unfold cmP;rw[hN,e];dsimp only
   rw[oU hd];rfl
  rw[hv];refine evA ?_;refine au ?_;rfl
 |x::rest,done,T,H,c,i,e,hi,hd=>by
  have hl:=md e;have hb:s[i.toNat]? =some x:=by rw[e,hi];simp
  have hxl:=x.toNat_lt
  by_cases h:x=58
  ·subst h
   have hv:cmP s=cmV s done rest:=by
    unfold cmP;rw[hN];dsimp only
    have:mz s=some (done,rest):=by rw[e,oU hd];simp[mz]
    rw[this]
   rw[hv];have ta:List.take (i.toNat-0) (List.drop 0 s)=done:=by rw[e,hi];simp
   have tb:List.take (s.length- (i+1).toNat) (List.drop (i+1).toNat s)=rest:=by
    rw[hi,show ((done.length:Int)+1).toNat=done.length+1 from by omega,e,show done++58::rest=(done++[58])++rest from by simp]
    rw[show done.length+1=(done++[58]).length from by simp,List.drop_left,List.take_of_length_le (by simp;omega)]
   have h6:ab G 346 [.str (List.take (i.toNat-0) (List.drop 0 s)),.int .i64 65535] [] (J.nfR (J.fNum 65535 done)):=by rw[ta];exact J.num_gives346 done (by omega) 65535
   have h7:ab G 346 [.str (List.take (s.length- (i+1).toNat) (List.drop (i+1).toNat s)),.int .i64 65535] [] (J.nfR (J.fNum 65535 rest)):=by rw[tb];exact J.num_gives346 rest (by omega) 65535
   clear ta tb;have b1:=J.fNum_ok 65535 done (by decide)
   have b2:=J.fNum_ok 65535 rest (by decide)
   unfold J.nfR at h6 h7;unfold cmV;generalize J.fNum 65535 done=p at*;generalize J.fNum 65535 rest=q at*;obtain ⟨p1,p2⟩:=p;obtain ⟨q1,q2⟩:=q;dsimp only at*;obtain ⟨P,rfl⟩: ∃P:Nat,p1=P:=⟨p1.toNat,by omega⟩
   obtain ⟨Q,rfl⟩: ∃Q:Nat,q1=Q:=⟨q1.toNat,by omega⟩
   rw[Int.toNat_natCast,Int.toNat_natCast];have hP:P<65536:=by omega
   have hQ:Q<65536:=by omega
   have h8:=tJ (P*65536+Q) (by omega)
   by_cases c1:p2=0
   case neg=>
    rw[Ac (λz=>c1 z.1)]
    refine evl ?_
    repeat' ((conv=>whnf);first|refine qK hb ?_|refine Qt hP ?_|refine QU hP hQ ?_|refine ay ?_|apply ae<;>intro h)
    refine au ?_;rfl
   subst c1
   by_cases c2:q2=0
   case neg=>
    rw[Ac (λz=>c2 z.2.1)]
    refine evl ?_
    repeat' ((conv=>whnf);first|refine qK hb ?_|refine Qt hP ?_|refine QU hP hQ ?_|refine ay ?_|apply ae<;>intro h)
    refine au ?_;rfl
   subst c2
   by_cases c3:iO (P*65536+Q)=s
   ·rw[Ad ⟨rfl,rfl,c3⟩]
    refine evl ?_
    repeat' ((conv=>whnf);first|refine yNeT c3 ?_|refine qK hb ?_|refine Qt hP ?_|refine QU hP hQ ?_|refine ay ?_|apply ae<;>intro h)
    refine au ?_;rfl
   ·rw[Ac (λz=>c3 z.2.2)]
    refine evl ?_
    repeat' ((conv=>whnf);first|refine yNeF c3 ?_|refine qK hb ?_|refine Qt hP ?_|refine QU hP hQ ?_|refine ay ?_|apply ae<;>intro h)
    refine au ?_;rfl
  ·have hne: ¬(x.toNat:Int)=58:=λq=>h (A9.1 (by simpa using (by omega:x.toNat=58)))
   have ih:=λT H c=>yQ s hs hN rest (done++[x]) T H c (i+1) (by simp[e]) (by simp[hi]) (by
    intro y hy;rcases B5.1 hy with hy|hy
    ·exact hd y hy
    ·rw[B6.1 hy];exact h)
   refine evl ?_
   repeat' ((conv=>whnf);first|refine qK hb ?_|refine ay ?_|apply ae<;>intro h)
   refine ag [32,31,0] [] ?_;exact ih _ _ _
theorem vt (s:CF)(hs:s.length<2^30):ab G 631 [.str s] [] (cmR (cmP s)):=by
 have hn:=KU
 by_cases c0:s=wC0
 ·have hv:cmP s=some 4294901760:=by rw[c0];rfl
  rw[hv,c0];unfold wC0;refine gvB (F:=rt) ?_;refine evl ?_
  repeat' ((conv=>whnf);first|refine bl ?_|refine ay ?_|apply ae<;>intro h)
  refine au ?_;rfl
 by_cases c1:s=wC1
 ·have hv:cmP s=some 4294967041:=by rw[c1];rfl
  rw[hv,c1];unfold wC1;refine gvB (F:=rt) ?_;refine evl ?_
  repeat' ((conv=>whnf);first|refine aU (by decide) ?_|refine bl ?_|refine ay ?_|apply ae<;>intro h)
  refine evl ?_
  repeat' ((conv=>whnf);first|refine aU (by decide) ?_|refine bl ?_|refine ay ?_|apply ae<;>intro h)
  refine au ?_;rfl
 by_cases c2:s=wC2
 ·have hv:cmP s=some 4294967042:=by rw[c2];rfl
  rw[hv,c2];unfold wC2;refine gvB (F:=rt) ?_;refine evl ?_
  repeat' ((conv=>whnf);first|refine aU (by decide) ?_|refine bl ?_|refine ay ?_|apply ae<;>intro h)
  refine evl ?_
  repeat' ((conv=>whnf);first|refine aU (by decide) ?_|refine bl ?_|refine ay ?_|apply ae<;>intro h)
  refine evl ?_
  repeat' ((conv=>whnf);first|refine aU (by decide) ?_|refine bl ?_|refine ay ?_|apply ae<;>intro h)
  refine au ?_;rfl
 by_cases c3:s=wC3
 ·have hv:cmP s=some 4294967043:=by rw[c3];rfl
  rw[hv,c3];unfold wC3;refine gvB (F:=rt) ?_;refine evl ?_
  repeat' ((conv=>whnf);first|refine aU (by decide) ?_|refine bl ?_|refine ay ?_|apply ae<;>intro h)
  refine evl ?_
  repeat' ((conv=>whnf);first|refine aU (by decide) ?_|refine bl ?_|refine ay ?_|apply ae<;>intro h)
  refine evl ?_
  repeat' ((conv=>whnf);first|refine aU (by decide) ?_|refine bl ?_|refine ay ?_|apply ae<;>intro h)
  refine evl ?_
  repeat' ((conv=>whnf);first|refine aU (by decide) ?_|refine bl ?_|refine ay ?_|apply ae<;>intro h)
  refine au ?_;rfl
 have hN:cmN s=none:=by unfold cmN;rw[Ac c0,Ac c1,Ac c2,Ac c3]
 have lp:=λT H c=>yQ s hs hN s [] T H c 0 rfl rfl (by simp)
 unfold wC0 at c0;unfold wC1 at c1;unfold wC2 at c2;unfold wC3 at c3;refine gvB (F:=rt) ?_;refine evl ?_
 repeat' ((conv=>whnf);first|refine aU c0 ?_|refine aU c1 ?_|refine aU c2 ?_|refine aU c3 ?_|refine ay ?_|apply ae<;>intro h)
 refine evl ?_
 repeat' ((conv=>whnf);first|refine aU c0 ?_|refine aU c1 ?_|refine aU c2 ?_|refine aU c3 ?_|refine ay ?_|apply ae<;>intro h)
 refine evl ?_
 repeat' ((conv=>whnf);first|refine aU c0 ?_|refine aU c1 ?_|refine aU c2 ?_|refine aU c3 ?_|refine ay ?_|apply ae<;>intro h)
 refine evl ?_
 repeat' ((conv=>whnf);first|refine aU c0 ?_|refine aU c1 ?_|refine aU c2 ?_|refine aU c3 ?_|refine ay ?_|apply ae<;>intro h)
 refine evl ?_
 repeat' ((conv=>whnf);first|refine aU c0 ?_|refine aU c1 ?_|refine aU c2 ?_|refine aU c3 ?_|refine ay ?_|apply ae<;>intro h)
 refine ag [32,31,0] [] ?_;exact lp _ _ _
def qR:CF:=[112,114,101,102]
def vQ:CF:=[109,101,100]
def mb:CF:=[109,101,116,114,105,99]
def vO:CF:=[116,97,103]
def qT:CF:=[110,101,120,116,45,104,111,112]
def vT:CF:=[97,100,100]
def vR:CF:=[100,101,108,101,116,101]
def vP:CF:=[112,114,101,112,101,110,100]
def nt (k:Int)(o:D3):Option Actn:=match o with
 |some n=>some ⟨k,n,0,0,0⟩
 |none=>none
def uI (k:Int)(o:D3):Option Actn:=match o with
 |some n=>some ⟨k,0,0,n,0⟩
 |none=>none
def abB (a n:D3):Option Actn:=match a with
 |some x=>(match n with
  |some y=>some ⟨8,y,x,0,0⟩
  |none=>none)
 |none=>none
def actK (h t:CF):Option Actn:=
 if h=qR then nt 1 (n32 t) else if h=vQ then nt 2 (n32 t) else if h=mb then nt 3 (n32 t) else if h=vO then nt 4 (n32 t) else
 if h=qT then (if (J.paP t).2=0 then some ⟨5,0,0,0,(J.paP t).1⟩ else none) else if h=vT then uI 6 (cmP t) else if h=vR then uI 7 (cmP t) else
 if h=vP then abB (n32 (ax t).1) (n32 (ax t).2) else none
def gr (s:CF):Option Actn:=actK (ax s).1 (ax s).2
def nu:Option Actn->Ret
 |some a=>⟨.agg a.enc,[]⟩
 |none=>pF 2
section
variable (s:CF)(hs:s.length<2^30)(w t:CF)(hc:ax s=(w,t))
include hs hc
theorem ag9 (hw:w=qR):ab G 595 [.str s] [] (nu (nt 1 (n32 t))):=by
 have h1:=az s (by omega)
 rw[hc] at h1;have hl:t.length<=s.length:=by have:=(ba s).2;rw[hc] at this;exact this
 dsimp only at*;unfold qR at hw;subst hw;have h4:=bM t (by omega)
 cases hq:n32 t with
 |some v=>
  rw[hq] at h4;unfold vF at h4;refine gvC (F:=ja) ?_
  repeat' ((conv=>whnf);first|refine bl ?_|refine ay ?_|apply ae<;>intro h)
  refine au ?_;(conv=>whnf);refine Go.AM.finC ?_;rfl
 |none=>
  rw[hq] at h4;replace h4:=λ(_:True)=>h4
  refine gvC (F:=ja) ?_
  repeat' ((conv=>whnf);first|refine bl ?_|refine ay ?_|apply ae<;>intro h)
  (conv=>whnf)
  refine CallG.stop ?_;refine aE 629 (h4 trivial) (λQ hr hg=>?_)
  refine kV hg ?_;rfl
theorem ag8 (hw:w=vQ):ab G 595 [.str s] [] (nu (nt 2 (n32 t))):=by
 have h1:=az s (by omega)
 rw[hc] at h1;have hl:t.length<=s.length:=by have:=(ba s).2;rw[hc] at this;exact this
 dsimp only at*;unfold vQ at hw;subst hw;have h4:=bM t (by omega)
 cases hq:n32 t with
 |some v=>
  rw[hq] at h4;unfold vF at h4;refine gvC (F:=ja) ?_
  repeat' ((conv=>whnf);first|refine aU (by decide) ?_|refine bl ?_|refine ay ?_|apply ae<;>intro h)
  refine au ?_;(conv=>whnf);refine Go.AM.finC ?_;rfl
 |none=>
  rw[hq] at h4;replace h4:=λ(_:True)=>h4
  refine gvC (F:=ja) ?_
  repeat' ((conv=>whnf);first|refine aU (by decide) ?_|refine bl ?_|refine ay ?_|apply ae<;>intro h)
  (conv=>whnf)
  refine CallG.stop ?_;refine aE 629 (h4 trivial) (λQ hr hg=>?_)
  refine kV hg ?_;rfl
theorem ag7 (hw:w=mb):ab G 595 [.str s] [] (nu (nt 3 (n32 t))):=by
 have h1:=az s (by omega)
 rw[hc] at h1;have hl:t.length<=s.length:=by have:=(ba s).2;rw[hc] at this;exact this
 dsimp only at*;unfold mb at hw;subst hw;have h4:=bM t (by omega)
 cases hq:n32 t with
 |some v=>
  rw[hq] at h4;unfold vF at h4;refine gvC (F:=ja) ?_
  repeat' ((conv=>whnf);first|refine aU (by decide) ?_|refine bl ?_|refine ay ?_|apply ae<;>intro h)
  refine au ?_;(conv=>whnf);refine Go.AM.finC ?_;rfl
 |none=>
  rw[hq] at h4;replace h4:=λ(_:True)=>h4
  refine gvC (F:=ja) ?_
  repeat' ((conv=>whnf);first|refine aU (by decide) ?_|refine bl ?_|refine ay ?_|apply ae<;>intro h)
  (conv=>whnf)
  refine CallG.stop ?_;refine aE 629 (h4 trivial) (λQ hr hg=>?_)
  refine kV hg ?_;rfl
theorem ag6 (hw:w=vO):ab G 595 [.str s] [] (nu (nt 4 (n32 t))):=by
 have h1:=az s (by omega)
 rw[hc] at h1;have hl:t.length<=s.length:=by have:=(ba s).2;rw[hc] at this;exact this
 dsimp only at*;unfold vO at hw;subst hw;have h4:=bM t (by omega)
 cases hq:n32 t with
 |some v=>
  rw[hq] at h4;unfold vF at h4;refine gvC (F:=ja) ?_
  repeat' ((conv=>whnf);first|refine aU (by decide) ?_|refine bl ?_|refine ay ?_|apply ae<;>intro h)
  refine au ?_;(conv=>whnf);refine Go.AM.finC ?_;rfl
 |none=>
  rw[hq] at h4;replace h4:=λ(_:True)=>h4
  refine gvC (F:=ja) ?_
  repeat' ((conv=>whnf);first|refine aU (by decide) ?_|refine bl ?_|refine ay ?_|apply ae<;>intro h)
  (conv=>whnf)
  refine CallG.stop ?_;refine aE 629 (h4 trivial) (λQ hr hg=>?_)
  refine kV hg ?_;rfl
theorem ag5 (hw:w=qT):ab G 595 [.str s] [] (nu (if (J.paP t).2=0 then some ⟨5,0,0,0,(J.paP t).1⟩ else none)):=by
 have h1:=az s (by omega)
 rw[hc] at h1;have hl:t.length<=s.length:=by have:=(ba s).2;rw[hc] at this;exact this
 dsimp only at*;unfold qT at hw;subst hw;have h4:=J.pad_gives231 t (by omega)
 have h5:=aM true;rw[Ad rfl] at h5;unfold J.okA at h4;generalize J.paP t=x at*;obtain ⟨a,e⟩:=x;dsimp only at*
 by_cases he:e=0
 ·subst he
  rw[Ad rfl];refine gvC (F:=ja) ?_
  repeat' ((conv=>whnf);first|refine aU (by decide) ?_|refine bl ?_|refine ay ?_|apply ae<;>intro h)
  refine au ?_;(conv=>whnf);refine Go.AM.finC ?_;rfl
 ·have h6:=λ(_:True)=>aM false
  rw[Ac he];refine gvC (F:=ja) ?_
  repeat' ((conv=>whnf);first|refine jf he ?_|refine aU (by decide) ?_|refine bl ?_|refine ay ?_|apply ae<;>intro h)
  (conv=>whnf)
  refine CallG.stop ?_;refine aE 586 (h6 trivial) (λQ hr hg=>?_)
  refine kV hg ?_;rfl
theorem ag4 (hw:w=vT):ab G 595 [.str s] [] (nu (uI 6 (cmP t))):=by
 have h1:=az s (by omega)
 rw[hc] at h1;have hl:t.length<=s.length:=by have:=(ba s).2;rw[hc] at this;exact this
 dsimp only at*;unfold vT at hw;subst hw;have h4:=vt t (by omega)
 cases hq:cmP t with
 |some v=>
  have h5:=aM true;rw[Ad rfl] at h5;rw[hq] at h4;unfold cmR at h4;refine gvC (F:=ja) ?_
  repeat' ((conv=>whnf);first|refine aU (by decide) ?_|refine bl ?_|refine ay ?_|apply ae<;>intro h)
  refine au ?_;(conv=>whnf);refine Go.AM.finC ?_;rfl
 |none=>
  have h6:=λ(_:True)=>aM false
  rw[hq] at h4;unfold cmR at h4;refine gvC (F:=ja) ?_
  repeat' ((conv=>whnf);first|refine aU (by decide) ?_|refine bl ?_|refine ay ?_|apply ae<;>intro h)
  (conv=>whnf)
  refine CallG.stop ?_;refine aE 586 (h6 trivial) (λQ hr hg=>?_)
  refine kV hg ?_;rfl
theorem ag3 (hw:w=vR):ab G 595 [.str s] [] (nu (uI 7 (cmP t))):=by
 have h1:=az s (by omega)
 rw[hc] at h1;have hl:t.length<=s.length:=by have:=(ba s).2;rw[hc] at this;exact this
 dsimp only at*;unfold vR at hw;subst hw;have h4:=vt t (by omega)
 cases hq:cmP t with
 |some v=>
  have h5:=aM true;rw[Ad rfl] at h5;rw[hq] at h4;unfold cmR at h4;refine gvC (F:=ja) ?_
  repeat' ((conv=>whnf);first|refine aU (by decide) ?_|refine bl ?_|refine ay ?_|apply ae<;>intro h)
  refine au ?_;(conv=>whnf);refine Go.AM.finC ?_;rfl
 |none=>
  have h6:=λ(_:True)=>aM false
  rw[hq] at h4;unfold cmR at h4;refine gvC (F:=ja) ?_
  repeat' ((conv=>whnf);first|refine aU (by decide) ?_|refine bl ?_|refine ay ?_|apply ae<;>intro h)
  (conv=>whnf)
  refine CallG.stop ?_;refine aE 586 (h6 trivial) (λQ hr hg=>?_)
  refine kV hg ?_;rfl
theorem ag2 (hw:w=vP):ab G 595 [.str s] [] (nu (abB (n32 (ax t).1) (n32 (ax t).2))):=by
 have h1:=az s (by omega)
 rw[hc] at h1;have hl:t.length<=s.length:=by have:=(ba s).2;rw[hc] at this;exact this
 dsimp only at*;unfold vP at hw;subst hw;have h5:=aM true;rw[Ad rfl] at h5;have h2:=az t (by omega)
 have l1:=ba t;generalize ax t=p at*;obtain ⟨x,y⟩:=p;dsimp only at*;have h4:=bM x (by omega)
 have h6:=bM y (by omega)
 cases hq:n32 x with
 |none=>
  rw[hq] at h4;replace h4:=λ(_:True)=>h4
  clear h6;refine gvC (F:=ja) ?_
  repeat' ((conv=>whnf);first|refine aU (by decide) ?_|refine bl ?_|refine ay ?_|apply ae<;>intro h)
  (conv=>whnf)
  refine CallG.stop ?_;refine aE 629 (h4 trivial) (λQ hr hg=>?_)
  refine kV hg ?_;rfl
 |some va=>
  rw[hq] at h4;unfold vF at h4;cases hq2:n32 y with
  |none=>
   rw[hq2] at h6;replace h6:=λ(_:True)=>h6
   refine gvC (F:=ja) ?_
   repeat' ((conv=>whnf);first|refine aU (by decide) ?_|refine bl ?_|refine ay ?_|apply ae<;>intro h)
   (conv=>whnf)
   refine CallG.stop ?_;refine aE 629 (h6 trivial) (λQ hr hg=>?_)
   refine kV hg ?_;rfl
  |some vb=>
   rw[hq2] at h6;unfold vF at h6;refine gvC (F:=ja) ?_
   repeat' ((conv=>whnf);first|refine aU (by decide) ?_|refine bl ?_|refine ay ?_|apply ae<;>intro h)
   refine au ?_;(conv=>whnf);refine Go.AM.finC ?_;rfl
theorem aha (n0:w≠qR)(n1:w≠vQ)(n2:w≠mb)(n3:w≠vO)(n4:w≠qT)(n5:w≠vT)(n6:w≠vR)(n7:w≠vP):ab G 595 [.str s] [] (pF 2):=by
 have h1:=az s (by omega)
 rw[hc] at h1;have hl:t.length<=s.length:=by have:=(ba s).2;rw[hc] at this;exact this
 dsimp only at*;unfold qR at n0;unfold vQ at n1;unfold mb at n2;unfold vO at n3;unfold qT at n4;unfold vT at n5;unfold vR at n6;unfold vP at n7;have h5:=λ(_:True)=>aM false
 refine gvC (F:=ja) ?_
 repeat' ((conv=>whnf);first|refine aU n0 ?_|refine aU n1 ?_|refine aU n2 ?_|refine aU n3 ?_|refine aU n4 ?_|refine aU n5 ?_|refine aU n6 ?_|refine aU n7 ?_|refine ay ?_|apply ae<;>intro h)
 (conv=>whnf)
 refine CallG.stop ?_;refine aE 586 (h5 trivial) (λQ hr hg=>?_)
 refine kV hg ?_;rfl
end
theorem l5 (s:CF)(hs:s.length<2^30):ab G 595 [.str s] [] (nu (gr s)):=by
 unfold gr actK;have f:=(rfl:ax s=((ax s).1,(ax s).2))
 by_cases c0:(ax s).1=qR
 ·rw[Ad c0];exact ag9 s hs _ _ f c0
 rw[Ac c0]
 by_cases c1:(ax s).1=vQ
 ·rw[Ad c1];exact ag8 s hs _ _ f c1
 rw[Ac c1]
 by_cases c2:(ax s).1=mb
 ·rw[Ad c2];exact ag7 s hs _ _ f c2
 rw[Ac c2]
 by_cases c3:(ax s).1=vO
 ·rw[Ad c3];exact ag6 s hs _ _ f c3
 rw[Ac c3]
 by_cases c4:(ax s).1=qT
 ·rw[Ad c4];exact ag5 s hs _ _ f c4
 rw[Ac c4]
 by_cases c5:(ax s).1=vT
 ·rw[Ad c5];exact ag4 s hs _ _ f c5
 rw[Ac c5]
 by_cases c6:(ax s).1=vR
 ·rw[Ad c6];exact ag3 s hs _ _ f c6
 rw[Ac c6]
 by_cases c7:(ax s).1=vP
 ·rw[Ad c7];exact ag2 s hs _ _ f c7
 rw[Ac c7];exact aha s hs _ _ f c0 c1 c2 c3 c4 c5 c6 c7
def ez:CF:=[97,99,99,101,112,116]
def ey:CF:=[114,101,106,101,99,116]
def cU:CF:=[110,101,120,116]
def dX:CF:=[109,97,116,99,104]
def iW:CF:=[115,101,116]
section
variable (e1 e2 e3 e4:CS)(p1:aa e1=true)(p2:aa e2=true)(p3:aa e3=true)(p4:aa e4=true)(k1 k2 k3 k4:C5)(so:Int)(trm:Bool)(nm:CF)(df:Int)(n:Nat)(hn:n=e4.length+1)(l4:e4.length<2^30)(ts:Da)(lt:ts.length<2^30)(tn:CF)(ms:Ds)(lm:ms.length<2^30)(acs:Dr)(la:acs.length<2^30)(m:Nat)(hm:m=ts.length+1)
include p1 p2 p3 p4 hn l4 lt lm la hm
theorem agr:ab G 542 [.ref 0 0 0,.str ez] (bP e1.length e2.length e3.length n so true trm e1 e2 e3 (e4++[[AV.str nm,AV.vs 9 0 m,AV.int .i64 df]]) k1 k2 k3 k4 [.vec 4 (ts.map Trm.enc++[[AV.str tn,AV.vs 10 0 ms.length,AV.vs 11 0 acs.length,AV.int .i64 0]]),.vec 6 (ms.map Mat.enc),.vec 5 (acs.map Actn.enc)]) ⟨.tup [],rP e1.length e2.length e3.length n so true false (.vec 2 e1) (.vec 2 e2) (.vec 2 e3) (.nest 3 e4 [[AV.str nm,AV.vs 9 0 m,AV.int .i64 df]]) k1 k2 k3 k4 [(true,.nest 4 (ts.map Trm.enc) [[AV.str tn,AV.vs 10 0 ms.length,AV.vs 11 0 acs.length,AV.int .i64 1]]),(true,.vec 6 (ms.map Mat.enc)),(true,.vec 5 (acs.map Actn.enc))]⟩:=by
 unfold bP rP;have h0:=az ez (by decide)
 have hL:=ch e1 e2 e3 e4 p1 p2 p3 p4 k1 k2 k3 k4 so trm nm df n hn l4 ts lt tn ms lm acs la 0 m hm;have hx: ∀x:CL,(e4++[x])[((n:Int)-1).toNat]? =some x:=λx=>by rw[hn];simp
 have hx9: ∀x:CL,(ts.map Trm.enc++[x])[((m:Int)-1).toNat]? =some x:=λx=>by rw[hm];simp
 have hs9: ∀y x:CL,((ts.map Trm.enc++[y]).set ((m:Int)-1).toNat x)[((m:Int)-1).toNat]? =some x:=λy x=>by rw[hm];simp
 have hset: ∀y x:CL,(ts.map Trm.enc++[y]).set ((m:Int)-1).toNat x=ts.map Trm.enc++[x]:=λy x=>by rw[hm];simp
 have htl:(ax ez).2.length<2^30:=Co (ba ez).2 (by decide)
 unfold ez at*;generalize ax _=ct at*;obtain ⟨w,t⟩:=ct;dsimp only at*;refine gvB (F:=kR) ?_
 (conv=>whnf)
 refine kP pzD [] gu trivial hL ?_
 repeat' ((conv=>whnf);first|refine bl ?_|refine xr (hx _) ?_|refine xr (hx9 _) ?_|refine xr (hs9 _ _) ?_|refine ay ?_|apply ae<;>intro h)
 (conv=>whnf)
 rw[hset]
 (first|refine cY pzD [] io ?_|refine cZ pzD [] io ?_)
 rfl
theorem agq:ab G 542 [.ref 0 0 0,.str ey] (bP e1.length e2.length e3.length n so true trm e1 e2 e3 (e4++[[AV.str nm,AV.vs 9 0 m,AV.int .i64 df]]) k1 k2 k3 k4 [.vec 4 (ts.map Trm.enc++[[AV.str tn,AV.vs 10 0 ms.length,AV.vs 11 0 acs.length,AV.int .i64 0]]),.vec 6 (ms.map Mat.enc),.vec 5 (acs.map Actn.enc)]) ⟨.tup [],rP e1.length e2.length e3.length n so true false (.vec 2 e1) (.vec 2 e2) (.vec 2 e3) (.nest 3 e4 [[AV.str nm,AV.vs 9 0 m,AV.int .i64 df]]) k1 k2 k3 k4 [(true,.nest 4 (ts.map Trm.enc) [[AV.str tn,AV.vs 10 0 ms.length,AV.vs 11 0 acs.length,AV.int .i64 2]]),(true,.vec 6 (ms.map Mat.enc)),(true,.vec 5 (acs.map Actn.enc))]⟩:=by
 unfold bP rP;have h0:=az ey (by decide)
 have hL:=ch e1 e2 e3 e4 p1 p2 p3 p4 k1 k2 k3 k4 so trm nm df n hn l4 ts lt tn ms lm acs la 0 m hm;have hx: ∀x:CL,(e4++[x])[((n:Int)-1).toNat]? =some x:=λx=>by rw[hn];simp
 have hx9: ∀x:CL,(ts.map Trm.enc++[x])[((m:Int)-1).toNat]? =some x:=λx=>by rw[hm];simp
 have hs9: ∀y x:CL,((ts.map Trm.enc++[y]).set ((m:Int)-1).toNat x)[((m:Int)-1).toNat]? =some x:=λy x=>by rw[hm];simp
 have hset: ∀y x:CL,(ts.map Trm.enc++[y]).set ((m:Int)-1).toNat x=ts.map Trm.enc++[x]:=λy x=>by rw[hm];simp
 have htl:(ax ey).2.length<2^30:=Co (ba ey).2 (by decide)
 unfold ey at*;generalize ax _=ct at*;obtain ⟨w,t⟩:=ct;dsimp only at*;refine gvB (F:=kR) ?_
 (conv=>whnf)
 refine kP pzD [] gu trivial hL ?_
 repeat' ((conv=>whnf);first|refine aU (by decide) ?_|refine bl ?_|refine xr (hx _) ?_|refine xr (hx9 _) ?_|refine xr (hs9 _ _) ?_|refine ay ?_|apply ae<;>intro h)
 (conv=>whnf)
 rw[hset]
 (first|refine cY pzD [] io ?_|refine cZ pzD [] io ?_)
 rfl
theorem agp:ab G 542 [.ref 0 0 0,.str cU] (bP e1.length e2.length e3.length n so true trm e1 e2 e3 (e4++[[AV.str nm,AV.vs 9 0 m,AV.int .i64 df]]) k1 k2 k3 k4 [.vec 4 (ts.map Trm.enc++[[AV.str tn,AV.vs 10 0 ms.length,AV.vs 11 0 acs.length,AV.int .i64 0]]),.vec 6 (ms.map Mat.enc),.vec 5 (acs.map Actn.enc)]) ⟨.tup [],rP e1.length e2.length e3.length n so true false (.vec 2 e1) (.vec 2 e2) (.vec 2 e3) (.nest 3 e4 [[AV.str nm,AV.vs 9 0 m,AV.int .i64 df]]) k1 k2 k3 k4 [(true,.nest 4 (ts.map Trm.enc) [[AV.str tn,AV.vs 10 0 ms.length,AV.vs 11 0 acs.length,AV.int .i64 3]]),(true,.vec 6 (ms.map Mat.enc)),(true,.vec 5 (acs.map Actn.enc))]⟩:=by
 unfold bP rP;have h0:=az cU (by decide)
 have hL:=ch e1 e2 e3 e4 p1 p2 p3 p4 k1 k2 k3 k4 so trm nm df n hn l4 ts lt tn ms lm acs la 0 m hm;have hx: ∀x:CL,(e4++[x])[((n:Int)-1).toNat]? =some x:=λx=>by rw[hn];simp
 have hx9: ∀x:CL,(ts.map Trm.enc++[x])[((m:Int)-1).toNat]? =some x:=λx=>by rw[hm];simp
 have hs9: ∀y x:CL,((ts.map Trm.enc++[y]).set ((m:Int)-1).toNat x)[((m:Int)-1).toNat]? =some x:=λy x=>by rw[hm];simp
 have hset: ∀y x:CL,(ts.map Trm.enc++[y]).set ((m:Int)-1).toNat x=ts.map Trm.enc++[x]:=λy x=>by rw[hm];simp
 have htl:(ax cU).2.length<2^30:=Co (ba cU).2 (by decide)
 unfold cU at*;generalize ax _=ct at*;obtain ⟨w,t⟩:=ct;dsimp only at*;refine gvB (F:=kR) ?_
 (conv=>whnf)
 refine kP pzD [] gu trivial hL ?_
 repeat' ((conv=>whnf);first|refine aU (by decide) ?_|refine bl ?_|refine xr (hx _) ?_|refine xr (hx9 _) ?_|refine xr (hs9 _ _) ?_|refine ay ?_|apply ae<;>intro h)
 (conv=>whnf)
 rw[hset]
 (first|refine cY pzD [] io ?_|refine cZ pzD [] io ?_)
 rfl
end
section
variable (e1 e2 e3 e4:CS)(p1:aa e1=true)(p2:aa e2=true)(p3:aa e3=true)(p4:aa e4=true)(k1 k2 k3 k4:C5)(so:Int)(trm:Bool)(nm:CF)(df:Int)(n:Nat)(hn:n=e4.length+1)(l4:e4.length<2^30)(ts:Da)(lt:ts.length<2^30)(tn:CF)(ms:Ds)(lm:ms.length<2^30)(acs:Dr)(la:acs.length<2^30)(m:Nat)(hm:m=ts.length+1)(s:CF)(hs:s.length<2^30)(d1:s≠ez)(d2:s≠ey)(d3:s≠cU)
include p1 p2 p3 p4 hn l4 lt lm la hm hs d1 d2 d3
theorem acd (hw:(ax s).1≠dX)(hw2:(ax s).1≠iW):ab G 542 [.ref 0 0 0,.str s] (bP e1.length e2.length e3.length n so true trm e1 e2 e3 (e4++[[AV.str nm,AV.vs 9 0 m,AV.int .i64 df]]) k1 k2 k3 k4 [.vec 4 (ts.map Trm.enc++[[AV.str tn,AV.vs 10 0 ms.length,AV.vs 11 0 acs.length,AV.int .i64 0]]),.vec 6 (ms.map Mat.enc),.vec 5 (acs.map Actn.enc)]) ⟨pnV (.ifc 138 (.agg [.int .i64 2])),rP e1.length e2.length e3.length n so true trm (.vec 2 e1) (.vec 2 e2) (.vec 2 e3) (.nest 3 e4 [[AV.str nm,AV.vs 9 0 m,AV.int .i64 df]]) k1 k2 k3 k4 [(true,.nest 4 (ts.map Trm.enc) [[AV.str tn,AV.vs 10 0 ms.length,AV.vs 11 0 acs.length,AV.int .i64 0]]),(true,.vec 6 (ms.map Mat.enc)),(true,.vec 5 (acs.map Actn.enc))]⟩:=by
 unfold bP rP;have h0:=az s (by omega)
 have hL:=ch e1 e2 e3 e4 p1 p2 p3 p4 k1 k2 k3 k4 so trm nm df n hn l4 ts lt tn ms lm acs la 0 m hm;have hx: ∀x:CL,(e4++[x])[((n:Int)-1).toNat]? =some x:=λx=>by rw[hn];simp
 have hx9: ∀x:CL,(ts.map Trm.enc++[x])[((m:Int)-1).toNat]? =some x:=λx=>by rw[hm];simp
 have hs9: ∀y x:CL,((ts.map Trm.enc++[y]).set ((m:Int)-1).toNat x)[((m:Int)-1).toNat]? =some x:=λy x=>by rw[hm];simp
 have hset: ∀y x:CL,(ts.map Trm.enc++[y]).set ((m:Int)-1).toNat x=ts.map Trm.enc++[x]:=λy x=>by rw[hm];simp
 have htl:(ax s).2.length<2^30:=Co (ba s).2 hs;unfold ez at d1;unfold ey at d2;unfold cU at d3;generalize ax s=ct at*;obtain ⟨w,t⟩:=ct;dsimp only at*;unfold dX at hw;unfold iW at hw2;have h2:=λ(_:True)=>aM false
 refine gvB (F:=kR) ?_
 (conv=>whnf)
 refine kP pzD [] gu trivial hL ?_
 repeat' ((conv=>whnf);first|refine aU d1 ?_|refine aU d2 ?_|refine aU d3 ?_|refine aU hw ?_|refine aU hw2 ?_|refine xr (hx _) ?_|refine xr (hx9 _) ?_|refine xr (hs9 _ _) ?_|refine ay ?_|apply ae<;>intro h)
 (conv=>whnf)
 refine CallG.stop ?_;refine aE 586 (h2 trivial) (λQ hr hg=>?_)
 refine kV hg ?_;refine bn pzD [] io ?_;rfl
section
variable (hw:(ax s).1=dX)
include hw
theorem acb (ha:acs≠ []):ab G 542 [.ref 0 0 0,.str s] (bP e1.length e2.length e3.length n so true trm e1 e2 e3 (e4++[[AV.str nm,AV.vs 9 0 m,AV.int .i64 df]]) k1 k2 k3 k4 [.vec 4 (ts.map Trm.enc++[[AV.str tn,AV.vs 10 0 ms.length,AV.vs 11 0 acs.length,AV.int .i64 0]]),.vec 6 (ms.map Mat.enc),.vec 5 (acs.map Actn.enc)]) ⟨pnV (.ifc 138 (.agg [.int .i64 2])),rP e1.length e2.length e3.length n so true trm (.vec 2 e1) (.vec 2 e2) (.vec 2 e3) (.nest 3 e4 [[AV.str nm,AV.vs 9 0 m,AV.int .i64 df]]) k1 k2 k3 k4 [(true,.nest 4 (ts.map Trm.enc) [[AV.str tn,AV.vs 10 0 ms.length,AV.vs 11 0 acs.length,AV.int .i64 0]]),(true,.vec 6 (ms.map Mat.enc)),(true,.vec 5 (acs.map Actn.enc))]⟩:=by
 unfold bP rP;have h0:=az s (by omega)
 have hL:=ch e1 e2 e3 e4 p1 p2 p3 p4 k1 k2 k3 k4 so trm nm df n hn l4 ts lt tn ms lm acs la 0 m hm;have hx: ∀x:CL,(e4++[x])[((n:Int)-1).toNat]? =some x:=λx=>by rw[hn];simp
 have hx9: ∀x:CL,(ts.map Trm.enc++[x])[((m:Int)-1).toNat]? =some x:=λx=>by rw[hm];simp
 have hs9: ∀y x:CL,((ts.map Trm.enc++[y]).set ((m:Int)-1).toNat x)[((m:Int)-1).toNat]? =some x:=λy x=>by rw[hm];simp
 have hset: ∀y x:CL,(ts.map Trm.enc++[y]).set ((m:Int)-1).toNat x=ts.map Trm.enc++[x]:=λy x=>by rw[hm];simp
 have htl:(ax s).2.length<2^30:=Co (ba s).2 hs;unfold ez at d1;unfold ey at d2;unfold cU at d3;generalize ax s=ct at*;obtain ⟨w,t⟩:=ct;dsimp only at*;unfold dX at hw;subst hw
 have hz: ¬(acs.length:Int)=0:=by
  have:=List.length_pos_iff.2 ha;omega
 have h2:=λ(_:True)=>aM false
 refine gvB (F:=kR) ?_
 (conv=>whnf)
 refine kP pzD [] gu trivial hL ?_
 repeat' ((conv=>whnf);first|refine aU d1 ?_|refine aU d2 ?_|refine aU d3 ?_|refine jf hz ?_|refine bl ?_|refine xr (hx _) ?_|refine xr (hx9 _) ?_|refine xr (hs9 _ _) ?_|refine ay ?_|apply ae<;>intro h)
 (conv=>whnf)
 refine CallG.stop ?_;refine aE 586 (h2 trivial) (λQ hr hg=>?_)
 refine kV hg ?_;refine bn pzD [] io ?_;rfl
theorem aca (ha:acs.length=0)(hm2:j4 (ax s).2=none):ab G 542 [.ref 0 0 0,.str s] (bP e1.length e2.length e3.length n so true trm e1 e2 e3 (e4++[[AV.str nm,AV.vs 9 0 m,AV.int .i64 df]]) k1 k2 k3 k4 [.vec 4 (ts.map Trm.enc++[[AV.str tn,AV.vs 10 0 ms.length,AV.vs 11 0 acs.length,AV.int .i64 0]]),.vec 6 (ms.map Mat.enc),.vec 5 (acs.map Actn.enc)]) ⟨pnV (.ifc 138 (.agg [.int .i64 2])),rP e1.length e2.length e3.length n so true trm (.vec 2 e1) (.vec 2 e2) (.vec 2 e3) (.nest 3 e4 [[AV.str nm,AV.vs 9 0 m,AV.int .i64 df]]) k1 k2 k3 k4 [(true,.nest 4 (ts.map Trm.enc) [[AV.str tn,AV.vs 10 0 ms.length,AV.vs 11 0 acs.length,AV.int .i64 0]]),(true,.vec 6 (ms.map Mat.enc)),(true,.vec 5 (acs.map Actn.enc))]⟩:=by
 unfold bP rP;have h0:=az s (by omega)
 have hL:=ch e1 e2 e3 e4 p1 p2 p3 p4 k1 k2 k3 k4 so trm nm df n hn l4 ts lt tn ms lm acs la 0 m hm;have hx: ∀x:CL,(e4++[x])[((n:Int)-1).toNat]? =some x:=λx=>by rw[hn];simp
 have hx9: ∀x:CL,(ts.map Trm.enc++[x])[((m:Int)-1).toNat]? =some x:=λx=>by rw[hm];simp
 have hs9: ∀y x:CL,((ts.map Trm.enc++[y]).set ((m:Int)-1).toNat x)[((m:Int)-1).toNat]? =some x:=λy x=>by rw[hm];simp
 have hset: ∀y x:CL,(ts.map Trm.enc++[y]).set ((m:Int)-1).toNat x=ts.map Trm.enc++[x]:=λy x=>by rw[hm];simp
 have htl:(ax s).2.length<2^30:=Co (ba s).2 hs;unfold ez at d1;unfold ey at d2;unfold cU at d3;have hz:(acs.length:Int)=0:=by omega
 generalize ax s=ct at*;obtain ⟨w,t⟩:=ct;dsimp only at*;unfold dX at hw;subst hw;have h2:=aM true;rw[Ad rfl] at h2;have h3:=λ(_:True)=>lJ t (by omega)
 rw[hm2] at h3;refine gvB (F:=kR) ?_
 (conv=>whnf)
 refine kP pzD [] gu trivial hL ?_
 repeat' ((conv=>whnf);first|refine aU d1 ?_|refine aU d2 ?_|refine aU d3 ?_|refine nv hz ?_|refine bl ?_|refine xr (hx _) ?_|refine xr (hx9 _) ?_|refine xr (hs9 _ _) ?_|refine ay ?_|apply ae<;>intro h)
 (conv=>whnf)
 refine CallG.stop ?_;refine aE 593 (h3 trivial) (λQ hr hg=>?_)
 refine kV hg ?_;refine bn pzD [] io ?_;rfl
theorem Xl (ha:acs.length=0)(x:Mat)(hm2:j4 (ax s).2=some x)(hk:64<=ms.length):ab G 542 [.ref 0 0 0,.str s] (bP e1.length e2.length e3.length n so true trm e1 e2 e3 (e4++[[AV.str nm,AV.vs 9 0 m,AV.int .i64 df]]) k1 k2 k3 k4 [.vec 4 (ts.map Trm.enc++[[AV.str tn,AV.vs 10 0 ms.length,AV.vs 11 0 acs.length,AV.int .i64 0]]),.vec 6 (ms.map Mat.enc),.vec 5 (acs.map Actn.enc)]) ⟨pnV (.ifc 138 (.agg [.int .i64 4])),rP e1.length e2.length e3.length n so true trm (.vec 2 e1) (.vec 2 e2) (.vec 2 e3) (.nest 3 e4 [[AV.str nm,AV.vs 9 0 m,AV.int .i64 df]]) k1 k2 k3 k4 [(true,.nest 4 (ts.map Trm.enc) [[AV.str tn,AV.vs 10 0 ms.length,AV.vs 11 0 acs.length,AV.int .i64 0]]),(true,.vec 6 (ms.map Mat.enc)),(true,.vec 5 (acs.map Actn.enc))]⟩:=by
 unfold bP rP;have h0:=az s (by omega)
 have hL:=ch e1 e2 e3 e4 p1 p2 p3 p4 k1 k2 k3 k4 so trm nm df n hn l4 ts lt tn ms lm acs la 0 m hm;have hx: ∀x:CL,(e4++[x])[((n:Int)-1).toNat]? =some x:=λx=>by rw[hn];simp
 have hx9: ∀x:CL,(ts.map Trm.enc++[x])[((m:Int)-1).toNat]? =some x:=λx=>by rw[hm];simp
 have hs9: ∀y x:CL,((ts.map Trm.enc++[y]).set ((m:Int)-1).toNat x)[((m:Int)-1).toNat]? =some x:=λy x=>by rw[hm];simp
 have hset: ∀y x:CL,(ts.map Trm.enc++[y]).set ((m:Int)-1).toNat x=ts.map Trm.enc++[x]:=λy x=>by rw[hm];simp
 have htl:(ax s).2.length<2^30:=Co (ba s).2 hs;unfold ez at d1;unfold ey at d2;unfold cU at d3;have hz:(acs.length:Int)=0:=by omega
 generalize ax s=ct at*;obtain ⟨w,t⟩:=ct;dsimp only at*;unfold dX at hw;subst hw;have h2:=aM true;rw[Ad rfl] at h2;have h3:=lJ t (by omega)
 rw[hm2] at h3;unfold mR at h3;dsimp only at h3;unfold Mat.enc at h3
 have h4:True->ab G 587 [.int .i64 (ms.length:Int)] [] (pF 4):=λ_=>by
  have:=b9 (ms.length:Int);rwa [Ac (by omega)] at this
 refine gvB (F:=kR) ?_
 (conv=>whnf)
 refine kP pzD [] gu trivial hL ?_
 repeat' ((conv=>whnf);first|refine aU d1 ?_|refine aU d2 ?_|refine aU d3 ?_|refine nv hz ?_|refine bl ?_|refine xr (hx _) ?_|refine xr (hx9 _) ?_|refine xr (hs9 _ _) ?_|refine ay ?_|apply ae<;>intro h)
 (conv=>whnf)
 refine CallG.stop ?_;refine aE 587 (h4 trivial) (λQ hr hg=>?_)
 refine kV hg ?_;refine bn pzD [] io ?_;rfl
end
section
variable (hw:(ax s).1=dX)(ha:acs.length=0)(hf:Kn.fit ⟨k1,k2,k3,k4⟩)(x:Mat)(hm2:j4 (ax s).2=some x)(hxp:x.pfx.ok)(hk:ms.length<64)
include hw ha hf hm2 hxp hk
theorem ab9 (hc:mtE ⟨k1,k2,k3,k4⟩ x≠0):ab G 542 [.ref 0 0 0,.str s] (bP e1.length e2.length e3.length n so true trm e1 e2 e3 (e4++[[AV.str nm,AV.vs 9 0 m,AV.int .i64 df]]) k1 k2 k3 k4 [.vec 4 (ts.map Trm.enc++[[AV.str tn,AV.vs 10 0 ms.length,AV.vs 11 0 acs.length,AV.int .i64 0]]),.vec 6 (ms.map Mat.enc),.vec 5 (acs.map Actn.enc)]) ⟨pnV (.ifc 138 (.agg [.int .i64 (mtE ⟨k1,k2,k3,k4⟩ x)])),rP e1.length e2.length e3.length n so true trm (.vec 2 e1) (.vec 2 e2) (.vec 2 e3) (.nest 3 e4 [[AV.str nm,AV.vs 9 0 m,AV.int .i64 df]]) k1 k2 k3 k4 [(true,.nest 4 (ts.map Trm.enc) [[AV.str tn,AV.vs 10 0 ms.length,AV.vs 11 0 acs.length,AV.int .i64 0]]),(true,.vec 6 (ms.map Mat.enc)),(true,.vec 5 (acs.map Actn.enc))]⟩:=by
 unfold bP rP;have h0:=az s (by omega)
 have hL:=ch e1 e2 e3 e4 p1 p2 p3 p4 k1 k2 k3 k4 so trm nm df n hn l4 ts lt tn ms lm acs la 0 m hm;have hx: ∀x:CL,(e4++[x])[((n:Int)-1).toNat]? =some x:=λx=>by rw[hn];simp
 have hx9: ∀x:CL,(ts.map Trm.enc++[x])[((m:Int)-1).toNat]? =some x:=λx=>by rw[hm];simp
 have hs9: ∀y x:CL,((ts.map Trm.enc++[y]).set ((m:Int)-1).toNat x)[((m:Int)-1).toNat]? =some x:=λy x=>by rw[hm];simp
 have hset: ∀y x:CL,(ts.map Trm.enc++[y]).set ((m:Int)-1).toNat x=ts.map Trm.enc++[x]:=λy x=>by rw[hm];simp
 have htl:(ax s).2.length<2^30:=Co (ba s).2 hs;unfold ez at d1;unfold ey at d2;unfold cU at d3;have hz:(acs.length:Int)=0:=by omega
 generalize ax s=ct at*;obtain ⟨w,t⟩:=ct;dsimp only at*;unfold dX at hw;subst hw;have h2:=aM true;rw[Ad rfl] at h2;have h3:=lJ t (by omega)
 rw[hm2] at h3;unfold mR at h3;dsimp only at h3
 have h4:ab G 587 [.int .i64 (ms.length:Int)] [] ⟨.tup [],[]⟩:=by
  have:=b9 (ms.length:Int);rwa [Ad (by omega)] at this
 have h5:=p7 ⟨k1,k2,k3,k4⟩ hf x hxp;unfold Kn.enc at h5;have y1:k1.length=(k1.map am).length:=by simp
 have y2:k2.length=(k2.map am).length:=by simp
 have y3:k3.length=(k3.map am).length:=by simp
 have y4:k4.length=(k4.map am).length:=by simp
 generalize mtE _ _=er at*;unfold Mat.enc at h3 h5;have h6:=λ(_:True)=>bw er
 rw[Ac hc] at h6;refine gvB (F:=kR) ?_
 (conv=>whnf)
 refine kP pzD [] gu trivial hL ?_
 repeat' ((conv=>whnf);first|refine aU d1 ?_|refine aU d2 ?_|refine aU d3 ?_|refine nv hz ?_|refine bl ?_|refine xr (hx _) ?_|refine xr (hx9 _) ?_|refine xr (hs9 _ _) ?_|refine ay ?_|refine kZ [(5,_,_),(6,_,_),(7,_,_),(8,_,_)] ⟨rfl,pz ⟨rfl,pz ⟨rfl,pz ⟨rfl,pz trivial⟩⟩⟩⟩ (h5) ?_|apply ae<;>intro h)
 (conv=>whnf)
 refine CallG.stop ?_;refine vm 590 (h6 trivial) (λQ hr hg=>?_)
 refine kV hg ?_;refine bn pzD [] io ?_;rfl
theorem ad4 (hc:mtE ⟨k1,k2,k3,k4⟩ x=0):ab G 542 [.ref 0 0 0,.str s] (bP e1.length e2.length e3.length n so true trm e1 e2 e3 (e4++[[AV.str nm,AV.vs 9 0 m,AV.int .i64 df]]) k1 k2 k3 k4 [.vec 4 (ts.map Trm.enc++[[AV.str tn,AV.vs 10 0 ms.length,AV.vs 11 0 acs.length,AV.int .i64 0]]),.vec 6 (ms.map Mat.enc),.vec 5 (acs.map Actn.enc)]) ⟨.tup [],rP e1.length e2.length e3.length n so true true (.vec 2 e1) (.vec 2 e2) (.vec 2 e3) (.nest 3 e4 [[AV.str nm,AV.vs 9 0 m,AV.int .i64 df]]) k1 k2 k3 k4 [(true,.nest 4 (ts.map Trm.enc) [[AV.str tn,AV.vs 10 0 (ms.length+1),AV.vs 11 0 acs.length,AV.int .i64 0]]),(false,.vec 6 (ms.map Mat.enc++[x.enc])),(true,.vec 5 (acs.map Actn.enc))]⟩:=by
 unfold bP rP;have h0:=az s (by omega)
 have hL:=ch e1 e2 e3 e4 p1 p2 p3 p4 k1 k2 k3 k4 so trm nm df n hn l4 ts lt tn ms lm acs la 0 m hm;have hx: ∀x:CL,(e4++[x])[((n:Int)-1).toNat]? =some x:=λx=>by rw[hn];simp
 have hx9: ∀x:CL,(ts.map Trm.enc++[x])[((m:Int)-1).toNat]? =some x:=λx=>by rw[hm];simp
 have hs9: ∀y x:CL,((ts.map Trm.enc++[y]).set ((m:Int)-1).toNat x)[((m:Int)-1).toNat]? =some x:=λy x=>by rw[hm];simp
 have hset: ∀y x:CL,(ts.map Trm.enc++[y]).set ((m:Int)-1).toNat x=ts.map Trm.enc++[x]:=λy x=>by rw[hm];simp
 have htl:(ax s).2.length<2^30:=Co (ba s).2 hs;unfold ez at d1;unfold ey at d2;unfold cU at d3;have hz:(acs.length:Int)=0:=by omega
 generalize ax s=ct at*;obtain ⟨w,t⟩:=ct;dsimp only at*;unfold dX at hw;subst hw;have h2:=aM true;rw[Ad rfl] at h2;have h3:=lJ t (by omega)
 rw[hm2] at h3;unfold mR at h3;dsimp only at h3
 have h4:ab G 587 [.int .i64 (ms.length:Int)] [] ⟨.tup [],[]⟩:=by
  have:=b9 (ms.length:Int);rwa [Ad (by omega)] at this
 have h5:=p7 ⟨k1,k2,k3,k4⟩ hf x hxp;unfold Kn.enc at h5;have y1:k1.length=(k1.map am).length:=by simp
 have y2:k2.length=(k2.map am).length:=by simp
 have y3:k3.length=(k3.map am).length:=by simp
 have y4:k4.length=(k4.map am).length:=by simp
 rw[hc] at h5;have ex:x.enc= [.int .i64 x.kind,.str x.name,.int .i64 x.n,.int .u32 x.pfx.addr,.int .i64 x.pfx.len,.bool x.neg]:=rfl;rw[ex] at h3 h5⊢;have h6:=bw 0;rw[Ad rfl] at h6;refine gvB (F:=kR) ?_
 (conv=>whnf)
 refine kP pzD [] gu trivial hL ?_
 repeat' ((conv=>whnf);first|refine aU d1 ?_|refine aU d2 ?_|refine aU d3 ?_|refine nv hz ?_|refine bl ?_|refine xr (hx _) ?_|refine xr (hx9 _) ?_|refine xr (hs9 _ _) ?_|refine ay ?_|refine kZ [(5,_,_),(6,_,_),(7,_,_),(8,_,_)] ⟨rfl,pz ⟨rfl,pz ⟨rfl,pz ⟨rfl,pz trivial⟩⟩⟩⟩ (h5) ?_|apply ae<;>intro h)
 (conv=>whnf)
 rw[hset]
 (first|refine cY pzD [] [true,true,true,true,true,true,true,true,true,true,false,true] ?_|refine cZ pzD [] [true,true,true,true,true,true,true,true,true,true,false,true] ?_)
 rfl
end
theorem acf (hw:(ax s).1=iW)(hm2:gr (ax s).2=none):ab G 542 [.ref 0 0 0,.str s] (bP e1.length e2.length e3.length n so true trm e1 e2 e3 (e4++[[AV.str nm,AV.vs 9 0 m,AV.int .i64 df]]) k1 k2 k3 k4 [.vec 4 (ts.map Trm.enc++[[AV.str tn,AV.vs 10 0 ms.length,AV.vs 11 0 acs.length,AV.int .i64 0]]),.vec 6 (ms.map Mat.enc),.vec 5 (acs.map Actn.enc)]) ⟨pnV (.ifc 138 (.agg [.int .i64 2])),rP e1.length e2.length e3.length n so true trm (.vec 2 e1) (.vec 2 e2) (.vec 2 e3) (.nest 3 e4 [[AV.str nm,AV.vs 9 0 m,AV.int .i64 df]]) k1 k2 k3 k4 [(true,.nest 4 (ts.map Trm.enc) [[AV.str tn,AV.vs 10 0 ms.length,AV.vs 11 0 acs.length,AV.int .i64 0]]),(true,.vec 6 (ms.map Mat.enc)),(true,.vec 5 (acs.map Actn.enc))]⟩:=by
 unfold bP rP;have h0:=az s (by omega)
 have hL:=ch e1 e2 e3 e4 p1 p2 p3 p4 k1 k2 k3 k4 so trm nm df n hn l4 ts lt tn ms lm acs la 0 m hm;have hx: ∀x:CL,(e4++[x])[((n:Int)-1).toNat]? =some x:=λx=>by rw[hn];simp
 have hx9: ∀x:CL,(ts.map Trm.enc++[x])[((m:Int)-1).toNat]? =some x:=λx=>by rw[hm];simp
 have hs9: ∀y x:CL,((ts.map Trm.enc++[y]).set ((m:Int)-1).toNat x)[((m:Int)-1).toNat]? =some x:=λy x=>by rw[hm];simp
 have hset: ∀y x:CL,(ts.map Trm.enc++[y]).set ((m:Int)-1).toNat x=ts.map Trm.enc++[x]:=λy x=>by rw[hm];simp
 have htl:(ax s).2.length<2^30:=Co (ba s).2 hs;unfold ez at d1;unfold ey at d2;unfold cU at d3;generalize ax s=ct at*;obtain ⟨w,t⟩:=ct;dsimp only at*;unfold iW at hw;subst hw;have h2:=aM true;rw[Ad rfl] at h2;have h3:=λ(_:True)=>l5 t htl
 rw[hm2] at h3;refine gvB (F:=kR) ?_
 (conv=>whnf)
 refine kP pzD [] gu trivial hL ?_
 repeat' ((conv=>whnf);first|refine aU d1 ?_|refine aU d2 ?_|refine aU d3 ?_|refine aU (by decide) ?_|refine bl ?_|refine xr (hx _) ?_|refine xr (hx9 _) ?_|refine xr (hs9 _ _) ?_|refine ay ?_|apply ae<;>intro h)
 (conv=>whnf)
 refine CallG.stop ?_;refine aE 595 (h3 trivial) (λQ hr hg=>?_)
 refine kV hg ?_;refine bn pzD [] io ?_;rfl
section
variable (hw:(ax s).1=iW)(x:Actn)(hm2:gr (ax s).2=some x)
include hw hm2
theorem Xm (hk:64<=acs.length):ab G 542 [.ref 0 0 0,.str s] (bP e1.length e2.length e3.length n so true trm e1 e2 e3 (e4++[[AV.str nm,AV.vs 9 0 m,AV.int .i64 df]]) k1 k2 k3 k4 [.vec 4 (ts.map Trm.enc++[[AV.str tn,AV.vs 10 0 ms.length,AV.vs 11 0 acs.length,AV.int .i64 0]]),.vec 6 (ms.map Mat.enc),.vec 5 (acs.map Actn.enc)]) ⟨pnV (.ifc 138 (.agg [.int .i64 4])),rP e1.length e2.length e3.length n so true trm (.vec 2 e1) (.vec 2 e2) (.vec 2 e3) (.nest 3 e4 [[AV.str nm,AV.vs 9 0 m,AV.int .i64 df]]) k1 k2 k3 k4 [(true,.nest 4 (ts.map Trm.enc) [[AV.str tn,AV.vs 10 0 ms.length,AV.vs 11 0 acs.length,AV.int .i64 0]]),(true,.vec 6 (ms.map Mat.enc)),(true,.vec 5 (acs.map Actn.enc))]⟩:=by
 unfold bP rP;have h0:=az s (by omega)
 have hL:=ch e1 e2 e3 e4 p1 p2 p3 p4 k1 k2 k3 k4 so trm nm df n hn l4 ts lt tn ms lm acs la 0 m hm;have hx: ∀x:CL,(e4++[x])[((n:Int)-1).toNat]? =some x:=λx=>by rw[hn];simp
 have hx9: ∀x:CL,(ts.map Trm.enc++[x])[((m:Int)-1).toNat]? =some x:=λx=>by rw[hm];simp
 have hs9: ∀y x:CL,((ts.map Trm.enc++[y]).set ((m:Int)-1).toNat x)[((m:Int)-1).toNat]? =some x:=λy x=>by rw[hm];simp
 have hset: ∀y x:CL,(ts.map Trm.enc++[y]).set ((m:Int)-1).toNat x=ts.map Trm.enc++[x]:=λy x=>by rw[hm];simp
 have htl:(ax s).2.length<2^30:=Co (ba s).2 hs;unfold ez at d1;unfold ey at d2;unfold cU at d3;generalize ax s=ct at*;obtain ⟨w,t⟩:=ct;dsimp only at*;unfold iW at hw;subst hw;have h2:=aM true;rw[Ad rfl] at h2;have h3:=l5 t htl;rw[hm2] at h3;unfold nu at h3;dsimp only at h3;have ex:x.enc= [.int .i64 x.kind,.int .i64 x.n,.int .i64 x.asn,.int .u32 x.com,.int .u32 x.addr]:=rfl;rw[ex] at h3
 have h4:True->ab G 587 [.int .i64 (acs.length:Int)] [] (pF 4):=λ_=>by
  have:=b9 (acs.length:Int);rwa [Ac (by omega)] at this
 refine gvB (F:=kR) ?_
 (conv=>whnf)
 refine kP pzD [] gu trivial hL ?_
 repeat' ((conv=>whnf);first|refine aU d1 ?_|refine aU d2 ?_|refine aU d3 ?_|refine aU (by decide) ?_|refine bl ?_|refine xr (hx _) ?_|refine xr (hx9 _) ?_|refine xr (hs9 _ _) ?_|refine ay ?_|apply ae<;>intro h)
 (conv=>whnf)
 refine CallG.stop ?_;refine aE 587 (h4 trivial) (λQ hr hg=>?_)
 refine kV hg ?_;refine bn pzD [] io ?_;rfl
theorem ace (hk:acs.length<64)(hc:gQ x≠0):ab G 542 [.ref 0 0 0,.str s] (bP e1.length e2.length e3.length n so true trm e1 e2 e3 (e4++[[AV.str nm,AV.vs 9 0 m,AV.int .i64 df]]) k1 k2 k3 k4 [.vec 4 (ts.map Trm.enc++[[AV.str tn,AV.vs 10 0 ms.length,AV.vs 11 0 acs.length,AV.int .i64 0]]),.vec 6 (ms.map Mat.enc),.vec 5 (acs.map Actn.enc)]) ⟨pnV (.ifc 138 (.agg [.int .i64 (gQ x)])),rP e1.length e2.length e3.length n so true trm (.vec 2 e1) (.vec 2 e2) (.vec 2 e3) (.nest 3 e4 [[AV.str nm,AV.vs 9 0 m,AV.int .i64 df]]) k1 k2 k3 k4 [(true,.nest 4 (ts.map Trm.enc) [[AV.str tn,AV.vs 10 0 ms.length,AV.vs 11 0 acs.length,AV.int .i64 0]]),(true,.vec 6 (ms.map Mat.enc)),(true,.vec 5 (acs.map Actn.enc))]⟩:=by
 unfold bP rP;have h0:=az s (by omega)
 have hL:=ch e1 e2 e3 e4 p1 p2 p3 p4 k1 k2 k3 k4 so trm nm df n hn l4 ts lt tn ms lm acs la 0 m hm;have hx: ∀x:CL,(e4++[x])[((n:Int)-1).toNat]? =some x:=λx=>by rw[hn];simp
 have hx9: ∀x:CL,(ts.map Trm.enc++[x])[((m:Int)-1).toNat]? =some x:=λx=>by rw[hm];simp
 have hs9: ∀y x:CL,((ts.map Trm.enc++[y]).set ((m:Int)-1).toNat x)[((m:Int)-1).toNat]? =some x:=λy x=>by rw[hm];simp
 have hset: ∀y x:CL,(ts.map Trm.enc++[y]).set ((m:Int)-1).toNat x=ts.map Trm.enc++[x]:=λy x=>by rw[hm];simp
 have htl:(ax s).2.length<2^30:=Co (ba s).2 hs;unfold ez at d1;unfold ey at d2;unfold cU at d3;generalize ax s=ct at*;obtain ⟨w,t⟩:=ct;dsimp only at*;unfold iW at hw;subst hw;have h2:=aM true;rw[Ad rfl] at h2;have h3:=l5 t htl;rw[hm2] at h3;unfold nu at h3;dsimp only at h3;have ex:x.enc= [.int .i64 x.kind,.int .i64 x.n,.int .i64 x.asn,.int .u32 x.com,.int .u32 x.addr]:=rfl;rw[ex] at h3
 have h4:ab G 587 [.int .i64 (acs.length:Int)] [] ⟨.tup [],[]⟩:=by
  have:=b9 (acs.length:Int);rwa [Ad (by omega)] at this
 have h5:=qg x;rw[ex] at h5;generalize gQ _=er at*;have h6:=λ(_:True)=>bw er
 rw[Ac hc] at h6;refine gvB (F:=kR) ?_
 (conv=>whnf)
 refine kP pzD [] gu trivial hL ?_
 repeat' ((conv=>whnf);first|refine aU d1 ?_|refine aU d2 ?_|refine aU d3 ?_|refine aU (by decide) ?_|refine bl ?_|refine xr (hx _) ?_|refine xr (hx9 _) ?_|refine xr (hs9 _ _) ?_|refine ay ?_|apply ae<;>intro h)
 (conv=>whnf)
 refine CallG.stop ?_;refine aE 590 (h6 trivial) (λQ hr hg=>?_)
 refine kV hg ?_;refine bn pzD [] io ?_;rfl
theorem ad5 (hk:acs.length<64)(hc:gQ x=0):ab G 542 [.ref 0 0 0,.str s] (bP e1.length e2.length e3.length n so true trm e1 e2 e3 (e4++[[AV.str nm,AV.vs 9 0 m,AV.int .i64 df]]) k1 k2 k3 k4 [.vec 4 (ts.map Trm.enc++[[AV.str tn,AV.vs 10 0 ms.length,AV.vs 11 0 acs.length,AV.int .i64 0]]),.vec 6 (ms.map Mat.enc),.vec 5 (acs.map Actn.enc)]) ⟨.tup [],rP e1.length e2.length e3.length n so true true (.vec 2 e1) (.vec 2 e2) (.vec 2 e3) (.nest 3 e4 [[AV.str nm,AV.vs 9 0 m,AV.int .i64 df]]) k1 k2 k3 k4 [(true,.nest 4 (ts.map Trm.enc) [[AV.str tn,AV.vs 10 0 ms.length,AV.vs 11 0 (acs.length+1),AV.int .i64 0]]),(true,.vec 6 (ms.map Mat.enc)),(false,.vec 5 (acs.map Actn.enc++[x.enc]))]⟩:=by
 unfold bP rP;have h0:=az s (by omega)
 have hL:=ch e1 e2 e3 e4 p1 p2 p3 p4 k1 k2 k3 k4 so trm nm df n hn l4 ts lt tn ms lm acs la 0 m hm;have hx: ∀x:CL,(e4++[x])[((n:Int)-1).toNat]? =some x:=λx=>by rw[hn];simp
 have hx9: ∀x:CL,(ts.map Trm.enc++[x])[((m:Int)-1).toNat]? =some x:=λx=>by rw[hm];simp
 have hs9: ∀y x:CL,((ts.map Trm.enc++[y]).set ((m:Int)-1).toNat x)[((m:Int)-1).toNat]? =some x:=λy x=>by rw[hm];simp
 have hset: ∀y x:CL,(ts.map Trm.enc++[y]).set ((m:Int)-1).toNat x=ts.map Trm.enc++[x]:=λy x=>by rw[hm];simp
 have htl:(ax s).2.length<2^30:=Co (ba s).2 hs;unfold ez at d1;unfold ey at d2;unfold cU at d3;generalize ax s=ct at*;obtain ⟨w,t⟩:=ct;dsimp only at*;unfold iW at hw;subst hw;have h2:=aM true;rw[Ad rfl] at h2;have h3:=l5 t htl;rw[hm2] at h3;unfold nu at h3;dsimp only at h3;have ex:x.enc= [.int .i64 x.kind,.int .i64 x.n,.int .i64 x.asn,.int .u32 x.com,.int .u32 x.addr]:=rfl;rw[ex] at h3
 have h4:ab G 587 [.int .i64 (acs.length:Int)] [] ⟨.tup [],[]⟩:=by
  have:=b9 (acs.length:Int);rwa [Ad (by omega)] at this
 have h5:=qg x;rw[ex] at h5;rw[ex];rw[hc] at h5;have h6:=bw 0;rw[Ad rfl] at h6;refine gvB (F:=kR) ?_
 (conv=>whnf)
 refine kP pzD [] gu trivial hL ?_
 repeat' ((conv=>whnf);first|refine aU d1 ?_|refine aU d2 ?_|refine aU d3 ?_|refine aU (by decide) ?_|refine bl ?_|refine xr (hx _) ?_|refine xr (hx9 _) ?_|refine xr (hs9 _ _) ?_|refine ay ?_|apply ae<;>intro h)
 (conv=>whnf)
 rw[hset]
 (first|refine cY pzD [] [true,true,true,true,true,true,true,true,true,true,true,false] ?_|refine cZ pzD [] [true,true,true,true,true,true,true,true,true,true,true,false] ?_)
 rfl
end
end
end Go.AM.IR
