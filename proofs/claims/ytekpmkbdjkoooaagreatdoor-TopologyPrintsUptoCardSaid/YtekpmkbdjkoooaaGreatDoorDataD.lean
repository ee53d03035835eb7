/- What the functions of this program give, on the abstract machine. -/
import Derived.Test.YtekpmkbdjkoooaaGreatDoorDataC
set_option linter.unusedVariables false
set_option linter.unusedSimpArgs false
set_option maxHeartbeats 4000000
set_option maxRecDepth 20000
namespace Go.AM.IR
def Uq (s:List UInt8):Option (Rx×Nat)→Ret→Prop
 |some (x,m),t=>t=rpR s (.tup [.agg x.enc,.bool true]) m
 |none,t=> ∃x m,m≤s.length∧t=rpR s (.tup [.agg (Rx.enc x),.bool false]) m
theorem SC {f:Nat}{s:List UInt8}{lv:Int}{n:Nat}{o:Option (Rx×Nat)}{t:Ret}(h:Uq s o t)(g:ah G f [.ref 0 0 0,.int .i64 lv] [.cells [.str s,.int .i64 (n:Int)]] t):gF f s lv n o:=by
 cases o with
 |none=>obtain ⟨x,m,hm,rfl⟩:=h;exact ⟨x,m,hm,g⟩
 |some p=>obtain ⟨x,m⟩:=p;obtain rfl:t=_:=h;exact g
theorem lI:rx0.enc= [.int .i64 0,.int .i64 0,.int .i64 0,.sl 4 []]:=e0 0 0 0
theorem yh (s:List UInt8)(hs:s.length<2^32)(item:PR)(lv:Int)(hp:Pos s item)(hA: ∀n,n≤s.length→gF 651 s lv n (item n)): ∀(f:Nat)(acc:List Rx)(n:Nat)(hf:s.length<f+n)(hn:n≤s.length)(hac:acc.length+f≤s.length+1),∃t,Uq s (gv 3 (eF s item 32 f acc n)) t∧ ∀(T:TV)(H:aw)(c g g4:Nat)(es:List (List AV))(k:Nat)(hes:es=acc.map Rx.enc)(hk:k=acc.length),Ev G ⟨ab9,⟨(4,.ref 68 g4 0)::(0,.ref 0 0 0)::(6,.vs 200 g k)::(1,.int .i64 lv)::T,(0,some (0,.cells [.str s,.int .i64 (n:Int)]))::(68,some (g4,.cells [.int .i64 0,.int .i64 0,.int .i64 0,.con (.slice none 0 0)]))::(200,some (g,.vec 4 es))::H,c⟩,[.cell 4 (some 4),.t 5],1⟩ t
 |0,acc,n,hf,hn,hac=>by omega
 |f+1,acc,n,hf,hn,hac=>by
  have hq:=hA n hn;rw[eF];have hl:=ml acc Rx.enc;cases ha:item n with
  |none=>
   rw[ha] at hq;obtain ⟨x,m,hm,hq⟩:=hq;refine ⟨_,⟨rx0,m,hm,rfl⟩,fun T H c g g4 es k hes hk=>?_⟩
   subst hes hk;have hpx:=cq x;generalize hxe:x.enc=xe at*;obtain ⟨k,lo,hi,l⟩:=x;rw[bi] at hxe;subst hxe;rw[lI];refine evl ?_
   repeat' (first|refine bc ?_|refine kX [(0,_,_)] [] ⟨rfl,trivial⟩ trivial (hq) ?_|(refine ae ?_ ?_<;>intro h))
   refine eU [] [(68,some (_,.cells ([.int .i64 0,.int .i64 0,.int .i64 0,.sl 4 []])))] trivial ⟨⟨rfl,leA⟩,trivial⟩ ?_;refine fX1 ?_;refine cJ ?_;rfl
  |some p=>
   obtain ⟨x,m⟩:=p;rw[ha] at hq;obtain ⟨p1,p2,_⟩:=hp _ _ _ hn ha;simp only[gF] at hq;dsimp only;have hpx:=cq x;have hax:(acc++[x]).map Rx.enc=acc.map Rx.enc++[x.enc]:=by simp
   by_cases hc:chr s m 32=true
   ·rw[Ad hc]
    have hlt:=df hc
    have h1:ah G 642 [.ref 0 0 0,.int .u8 32] [.cells [.str s,.int .i64 ((m:Nat):Int)]] (rpR s (.bool true) (m+1)):=by
     have:=bt s (by omega) 32 m (by omega)
     rwa [hc,Ad rfl] at this
    obtain ⟨t,h2,h3⟩:=yh s hs item lv hp hA f (acc++[x]) (m+1) (by omega) (by omega) (by simp;omega)
    refine ⟨t,h2,fun T H c g g4 es k hes hk=>?_⟩
    subst hes hk;rw[hax] at h3;generalize hxe:x.enc=xe at*;obtain ⟨k,lo,hi,l⟩:=x;rw[bi] at hxe;subst hxe;refine evl ?_
    repeat' (first|refine bc ?_|refine kX [(0,_,_)] [] ⟨rfl,trivial⟩ trivial (hq) ?_|refine kX [(0,_,_)] [] ⟨rfl,trivial⟩ trivial (h1) ?_|(refine ae ?_ ?_<;>intro h))
    refine ab [4,0,6,1] [0,68,200] ?_;exact h3 _ _ _ _ _ _ _ rfl (by simp)
   ·rw[Ac hc]
    rw[AR] at hc
    have h1:ah G 642 [.ref 0 0 0,.int .u8 32] [.cells [.str s,.int .i64 ((m:Nat):Int)]] (rpR s (.bool false) m):=by
     have:=bt s (by omega) 32 m (by omega)
     rwa [hc,Ac (by simp)] at this
    cases acc with
    |nil=>
     refine ⟨rpR s (.tup [.agg x.enc,.bool true]) m,rfl,fun T H c g g4 es k hes hk=>?_⟩
     obtain rfl:es= []:=hes;obtain rfl:k=0:=hk;generalize hxe:x.enc=xe at*;obtain ⟨k,lo,hi,l⟩:=x;rw[bi] at hxe;subst hxe;refine evl ?_
     repeat' (first|refine bc ?_|refine kX [(0,_,_)] [] ⟨rfl,trivial⟩ trivial (hq) ?_|refine kX [(0,_,_)] [] ⟨rfl,trivial⟩ trivial (h1) ?_|refine And.intro (show Int.toNat 0<0+1 from Nat.one_pos) ?_|(refine ae ?_ ?_<;>intro h))
     refine fX1 ?_;refine cJ ?_;rfl
    |cons y r=>
     refine ⟨rpR s (.tup [.agg (Rx.mk 3 0 0 (y::r++[x])).enc,.bool true]) m,?_,fun T H c g g4 es k hes hk=>?_⟩
     ·cases r with
      |nil=>rfl
      |cons z q=>rfl
     subst hes hk;rw[bi,hax];have hl2:(y::r).length=r.length+1:=rfl;generalize hxe:x.enc=xe at*;obtain ⟨k,lo,hi,l⟩:=x;rw[bi] at hxe;subst hxe;refine evl ?_
     repeat' (first|refine bc ?_|refine kX [(0,_,_)] [] ⟨rfl,trivial⟩ trivial (hq) ?_|refine kX [(0,_,_)] [] ⟨rfl,trivial⟩ trivial (h1) ?_|(refine ae ?_ ?_<;>intro h))
     refine kn [(200,_,_)] [5,4] [0,68] ⟨rfl,frP,trivial⟩ ?_;repeat ((conv=>whnf);first|refine frA ?_|intro T H)
     refine fX1 ?_;refine cJ ?_;rfl
theorem vh (s:List UInt8)(hs:s.length<2^32)(item:PR)(lv:Int)(hp:Pos s item)(hA: ∀n,n≤s.length→gF 651 s lv n (item n))(n:Nat)(hn:n≤s.length):gF 641 s lv n (gv 3 (eF s item 32 (s.length+1) [] n)):=by
 obtain ⟨t,h1,h2⟩:=yh s hs item lv hp hA (s.length+1) [] n (by omega) hn (by simp)
 refine SC h1 ?_;refine gvB (F:=Vl) ?_;refine lf 200 4 [(6,.vs 200 _ 0)] [] ⟨LeP.nilV _ _ _,trivial⟩ trivial ?_;refine ab [4,0,6,1] [0,68,200] ?_;exact h2 _ _ _ _ _ _ _ rfl rfl
theorem yj (s:List UInt8)(hs:s.length<2^32)(item:PR)(lv:Int)(hp:Pos s item)(hA: ∀n,n≤s.length→gF 641 s lv n (item n)): ∀(f:Nat)(acc:List Rx)(n:Nat)(hf:s.length<f+n)(hn:n≤s.length)(hac:acc.length+f≤s.length+1),∃t,Uq s (gv 4 (eF s item 124 f acc n)) t∧ ∀(T:TV)(H:aw)(c g g4:Nat)(es:List (List AV))(k:Nat)(hes:es=acc.map Rx.enc)(hk:k=acc.length),Ev G ⟨acj,⟨(4,.ref 68 g4 0)::(0,.ref 0 0 0)::(6,.vs 200 g k)::(1,.int .i64 lv)::T,(0,some (0,.cells [.str s,.int .i64 (n:Int)]))::(68,some (g4,.cells [.int .i64 0,.int .i64 0,.int .i64 0,.con (.slice none 0 0)]))::(200,some (g,.vec 4 es))::H,c⟩,[.cell 4 (some 4),.t 5],1⟩ t
 |0,acc,n,hf,hn,hac=>by omega
 |f+1,acc,n,hf,hn,hac=>by
  have hq:=hA n hn;rw[eF];have hl:=ml acc Rx.enc;cases ha:item n with
  |none=>
   rw[ha] at hq;obtain ⟨x,m,hm,hq⟩:=hq;refine ⟨_,⟨rx0,m,hm,rfl⟩,fun T H c g g4 es k hes hk=>?_⟩
   subst hes hk;have hpx:=cq x;generalize hxe:x.enc=xe at*;obtain ⟨k,lo,hi,l⟩:=x;rw[bi] at hxe;subst hxe;rw[lI];refine evl ?_
   repeat' (first|refine bc ?_|refine kX [(0,_,_)] [] ⟨rfl,trivial⟩ trivial (hq) ?_|(refine ae ?_ ?_<;>intro h))
   refine eU [] [(68,some (_,.cells ([.int .i64 0,.int .i64 0,.int .i64 0,.sl 4 []])))] trivial ⟨⟨rfl,leA⟩,trivial⟩ ?_;refine fX1 ?_;refine cJ ?_;rfl
  |some p=>
   obtain ⟨x,m⟩:=p;rw[ha] at hq;obtain ⟨p1,p2,_⟩:=hp _ _ _ hn ha;simp only[gF] at hq;dsimp only;have hpx:=cq x;have hax:(acc++[x]).map Rx.enc=acc.map Rx.enc++[x.enc]:=by simp
   by_cases hc:chr s m 124=true
   ·rw[Ad hc]
    have hlt:=df hc
    have h1:ah G 642 [.ref 0 0 0,.int .u8 124] [.cells [.str s,.int .i64 ((m:Nat):Int)]] (rpR s (.bool true) (m+1)):=by
     have:=bt s (by omega) 124 m (by omega)
     rwa [hc,Ad rfl] at this
    obtain ⟨t,h2,h3⟩:=yj s hs item lv hp hA f (acc++[x]) (m+1) (by omega) (by omega) (by simp;omega)
    refine ⟨t,h2,fun T H c g g4 es k hes hk=>?_⟩
    subst hes hk;rw[hax] at h3;generalize hxe:x.enc=xe at*;obtain ⟨k,lo,hi,l⟩:=x;rw[bi] at hxe;subst hxe;refine evl ?_
    repeat' (first|refine bc ?_|refine kX [(0,_,_)] [] ⟨rfl,trivial⟩ trivial (hq) ?_|refine kX [(0,_,_)] [] ⟨rfl,trivial⟩ trivial (h1) ?_|(refine ae ?_ ?_<;>intro h))
    refine ab [4,0,6,1] [0,68,200] ?_;exact h3 _ _ _ _ _ _ _ rfl (by simp)
   ·rw[Ac hc]
    rw[AR] at hc
    have h1:ah G 642 [.ref 0 0 0,.int .u8 124] [.cells [.str s,.int .i64 ((m:Nat):Int)]] (rpR s (.bool false) m):=by
     have:=bt s (by omega) 124 m (by omega)
     rwa [hc,Ac (by simp)] at this
    cases acc with
    |nil=>
     refine ⟨rpR s (.tup [.agg x.enc,.bool true]) m,rfl,fun T H c g g4 es k hes hk=>?_⟩
     obtain rfl:es= []:=hes;obtain rfl:k=0:=hk;generalize hxe:x.enc=xe at*;obtain ⟨k,lo,hi,l⟩:=x;rw[bi] at hxe;subst hxe;refine evl ?_
     repeat' (first|refine bc ?_|refine kX [(0,_,_)] [] ⟨rfl,trivial⟩ trivial (hq) ?_|refine kX [(0,_,_)] [] ⟨rfl,trivial⟩ trivial (h1) ?_|refine And.intro (show Int.toNat 0<0+1 from Nat.one_pos) ?_|(refine ae ?_ ?_<;>intro h))
     refine fX1 ?_;refine cJ ?_;rfl
    |cons y r=>
     refine ⟨rpR s (.tup [.agg (Rx.mk 4 0 0 (y::r++[x])).enc,.bool true]) m,?_,fun T H c g g4 es k hes hk=>?_⟩
     ·cases r with
      |nil=>rfl
      |cons z q=>rfl
     subst hes hk;rw[bi,hax];have hl2:(y::r).length=r.length+1:=rfl;generalize hxe:x.enc=xe at*;obtain ⟨k,lo,hi,l⟩:=x;rw[bi] at hxe;subst hxe;refine evl ?_
     repeat' (first|refine bc ?_|refine kX [(0,_,_)] [] ⟨rfl,trivial⟩ trivial (hq) ?_|refine kX [(0,_,_)] [] ⟨rfl,trivial⟩ trivial (h1) ?_|(refine ae ?_ ?_<;>intro h))
     refine kn [(200,_,_)] [5,4] [0,68] ⟨rfl,frP,trivial⟩ ?_;repeat ((conv=>whnf);first|refine frA ?_|intro T H)
     refine fX1 ?_;refine cJ ?_;rfl
theorem vi (s:List UInt8)(hs:s.length<2^32)(item:PR)(lv:Int)(hp:Pos s item)(hA: ∀n,n≤s.length→gF 641 s lv n (item n))(n:Nat)(hn:n≤s.length):gF 616 s lv n (gv 4 (eF s item 124 (s.length+1) [] n)):=by
 obtain ⟨t,h1,h2⟩:=yj s hs item lv hp hA (s.length+1) [] n (by omega) hn (by simp)
 refine SC h1 ?_;refine gvB (F:=Vz) ?_;refine lf 200 4 [(6,.vs 200 _ 0)] [] ⟨LeP.nilV _ _ _,trivial⟩ trivial ?_;refine ab [4,0,6,1] [0,68,200] ?_;exact h2 _ _ _ _ _ _ _ rfl rfl
theorem uA (s:List UInt8)(hs:s.length<2^32): ∀(k:Nat)(lv:Int)(hk:lv+k=33)(h0:0≤lv)(n:Nat)(hn:n≤s.length),gF 616 s lv n (cM s (iP s) k n)
 |0,lv,hk,h0,n,hn=>by
  have h1: ∀n,n≤s.length→gF 656 s lv n ((fun _=>none:PR) n):=fun n hn=>Pq s lv (by omega) n hn
  have p1:Pos s (fun _=>none:PR):=fun n x m _ h=>by cases h
  have h2:=sA s (by omega) (fun _=>none) lv p1 h1
  have h3: ∀n,n≤s.length→gF 641 s lv n (kc s (en s (fun _=>none)) n):=fun n hn=>vh s hs _ lv (mc p1) h2 n hn
  have h4:=vi s hs _ lv (uL hs (mc p1)) h3 n hn;have e:gv 4 (eF s (kc s (en s (fun _=>none))) 124 (s.length+1) [] n)=none:=by simp[eF,kc,en,gv]
  rw[e] at h4;exact h4
 |k+1,lv,hk,h0,n,hn=>by
  have pa:=rf hs (wn s) k;have h1: ∀n,n≤s.length→gF 656 s lv n (cK s (iP s) (cM s (iP s) k) n):=fun n hn=>JG s (by omega) _ lv (by omega) h0 pa (fun n hn=>uA s hs k (lv+1) (by omega) (by omega) n hn) n hn
  have p1:=xN (wn s) pa;have h2:=sA s (by omega) _ lv p1 h1
  have h3: ∀n,n≤s.length→gF 641 s lv n (kc s (en s (cK s (iP s) (cM s (iP s) k))) n):=fun n hn=>vh s hs _ lv (mc p1) h2 n hn
  rw[cM];exact vi s hs _ lv (uL hs (mc p1)) h3 n hn
end Go.AM.IR
namespace Go.AM.IR
theorem MW (k lo hi:Int)(l:List Rx)(hl:l.length<2^40): ∃e:Int,ah G 652 [.agg [.int .i64 k,.int .i64 lo,.int .i64 hi,.sl 4 (l.map Rx.enc)]] [] ⟨.int .i64 e,[]⟩∧(e=0↔bm k lo hi l.length=true):=by
 have m1:=ml l Rx.enc;obtain ⟨N,hN⟩: ∃N,N=l.length:=⟨_,rfl⟩
 rw[←hN] at m1 hl⊢
 by_cases k1:k=1
 ·subst k1
  by_cases a:lo<0
  ·refine ⟨5,?_,by simp[bm];omega⟩
   exact gvA (F:=di)
  by_cases b:lo>hi
  ·refine ⟨5,?_,by simp[bm];omega⟩
   exact gvA (F:=di)
  by_cases c:hi>4294967295
  ·refine ⟨5,?_,by simp[bm];omega⟩
   exact gvA (F:=di)
  by_cases d:(N:Int)>0
  ·refine ⟨1,?_,by simp[bm];omega⟩
   exact gvA (F:=di)
  ·refine ⟨0,?_,by simp[bm];omega⟩
   exact gvA (F:=di)
 by_cases k0:k=0
 ·subst k0
  by_cases d:(N:Int)>0
  ·refine ⟨1,?_,by simp[bm];omega⟩
   exact gvA (F:=di)
  by_cases a:lo=0
  ·by_cases b:hi=0
   ·refine ⟨0,?_,by simp[bm,a,b];omega⟩
    exact gvA (F:=di)
   ·refine ⟨1,?_,by simp[bm,a,b]⟩
    exact gvA (F:=di)
  ·refine ⟨1,?_,by simp[bm,a]⟩
   exact gvA (F:=di)
 by_cases k2:k=2
 ·subst k2
  by_cases d:(N:Int)>0
  ·refine ⟨1,?_,by simp[bm];omega⟩
   exact gvA (F:=di)
  by_cases a:lo=0
  ·by_cases b:hi=0
   ·refine ⟨0,?_,by simp[bm,a,b];omega⟩
    exact gvA (F:=di)
   ·refine ⟨1,?_,by simp[bm,a,b]⟩
    exact gvA (F:=di)
  ·refine ⟨1,?_,by simp[bm,a]⟩
   exact gvA (F:=di)
 by_cases k3:k=3
 ·subst k3
  by_cases d:(N:Int)<2
  ·refine ⟨1,?_,by simp[bm];omega⟩
   exact gvA (F:=di)
  by_cases a:lo=0
  ·by_cases b:hi=0
   ·refine ⟨0,?_,by simp[bm,a,b];omega⟩
    exact gvA (F:=di)
   ·refine ⟨1,?_,by simp[bm,a,b]⟩
    exact gvA (F:=di)
  ·refine ⟨1,?_,by simp[bm,a]⟩
   exact gvA (F:=di)
 by_cases k4:k=4
 ·subst k4
  by_cases d:(N:Int)=1
  ·refine ⟨1,?_,by simp[bm];omega⟩
   exact gvA (F:=di)
  by_cases a:lo=0
  ·by_cases b:hi=0
   ·refine ⟨0,?_,by simp[bm,a,b];omega⟩
    exact gvA (F:=di)
   ·refine ⟨1,?_,by simp[bm,a,b]⟩
    exact gvA (F:=di)
  ·refine ⟨1,?_,by simp[bm,a]⟩
   exact gvA (F:=di)
 by_cases k5:k=5
 ·subst k5
  by_cases d: ¬(N:Int)=1
  ·refine ⟨1,?_,by simp[bm];omega⟩
   exact gvA (F:=di)
  by_cases a:lo=0
  ·by_cases b:hi=0
   ·refine ⟨0,?_,by simp[bm,a,b];omega⟩
    exact gvA (F:=di)
   ·refine ⟨1,?_,by simp[bm,a,b]⟩
    exact gvA (F:=di)
  ·refine ⟨1,?_,by simp[bm,a]⟩
   exact gvA (F:=di)
 by_cases k6:k=6
 ·subst k6
  by_cases d: ¬(N:Int)=1
  ·refine ⟨1,?_,by simp[bm];omega⟩
   exact gvA (F:=di)
  by_cases a:lo=0
  ·by_cases b:hi=0
   ·refine ⟨0,?_,by simp[bm,a,b];omega⟩
    exact gvA (F:=di)
   ·refine ⟨1,?_,by simp[bm,a,b]⟩
    exact gvA (F:=di)
  ·refine ⟨1,?_,by simp[bm,a]⟩
   exact gvA (F:=di)
 by_cases k7:k=7
 ·subst k7
  by_cases d: ¬(N:Int)=1
  ·refine ⟨1,?_,by simp[bm];omega⟩
   exact gvA (F:=di)
  by_cases a:lo=0
  ·by_cases b:hi=0
   ·refine ⟨0,?_,by simp[bm,a,b];omega⟩
    exact gvA (F:=di)
   ·refine ⟨1,?_,by simp[bm,a,b]⟩
    exact gvA (F:=di)
  ·refine ⟨1,?_,by simp[bm,a]⟩
   exact gvA (F:=di)
 refine ⟨15,?_,by simp[bm,k0,k1,k2,k3,k4];omega⟩
 exact gvA (F:=di)
def Xo (o:Option Nat)(n e:Int):Prop:=match o with
 |some c=>n=c∧e=0
 |none=>e≠0
end Go.AM.IR
namespace Go.AM.IR
mutual
theorem uv: ∀{x:Rx}{lv c c':Nat},chk x lv c=some c'→c'≤64
 | .mk k lo hi l,lv,c,c',h=>by
  rw[chk] at h;split at h
  ·cases h
  ·split at h
   ·cases h
   ·split at h
    ·exact Td (by omega) h
    ·cases h
theorem Td: ∀{l:List Rx}{lv c c':Nat},c≤64→ir l lv c=some c'→c'≤64
 | [],_,_,_,hc,h=>by rw[ir] at h;cases h;exact hc
 |x::r,lv,c,c',hc,h=>by
  rw[ir] at h;split at h
  ·rename_i c1 h1
   exact Td (uv h1) h
  ·cases h
end
def Bg (x:Rx)(lv:Nat):Prop:= ∀c:Nat,c≤64→ ∃n e:Int,Xo (chk x lv c) n e∧ah G 643 [.agg x.enc,.int .i64 (lv:Int),.int .i64 (c:Int)] [] ⟨.tup [.int .i64 n,.int .i64 e],[]⟩
theorem vU (l:List Rx)(hl:l.length<2^40)(lv:Nat)(hlv:lv≤16)(hk: ∀y∈l,Bg y (lv+1)): ∀(rest done:List Rx)(c:Nat)(n:Int)(e:l=done++rest)(hn:n=done.length)(hc:c≤64),∃N E:Int,Xo (ir rest (lv+1) c) N E∧ ∀(T:TV)(H:aw)(ct:Nat),
  Ev G ⟨Yw,⟨(30,.int .i64 n)::(2,.int .i64 (c:Int))::(1,.int .i64 (lv:Int))::(28,.sl 4 (l.map Rx.enc))::(29,.int .i64 l.length)::T,H,ct⟩,[.t 6,.t 7],0⟩ ⟨.tup [.int .i64 N,.int .i64 E],[]⟩
 | [],done,c,n,e,hn,hc=>by
  have hd:=md0 e;refine ⟨c,0,by rw[ir];exact ⟨rfl,rfl⟩,fun T H ct=>?_⟩
  refine evA ?_;refine ag ?_;rfl
 |x::r,done,c,n,e,hn,hc=>by
  have hd:=md e;have hll:=ml l Rx.enc;have hx:=mx Rx.enc e hn;obtain ⟨n1,e1,h1,g1⟩:=hk x (by simp[e]) c hc
  have g1:ah G 643 [.agg x.enc,.int .i64 ((lv:Int)+1),.int .i64 (c:Int)] [] ⟨.tup [.int .i64 n1,.int .i64 e1],[]⟩:=g1;have hpx:=cq x;rw[ir];cases hq:chk x (lv+1) c with
  |none=>
   rw[hq] at h1;have h1: ¬e1=0:=h1;refine ⟨n1,e1,h1,fun T H ct=>?_⟩
   generalize hxe:x.enc=xe at*;obtain ⟨k,lo,hi,q⟩:=x;rw[bi] at hxe;subst hxe;refine evA ?_;refine ag ?_;rfl
  |some c1=>
   rw[hq] at h1;obtain ⟨rfl,rfl⟩:=h1;obtain ⟨N,E,h2,h3⟩:=vU l hl lv hlv hk r (done++[x]) c1 (n+1) (by simp[e]) (by simp[hn]) (uv hq)
   refine ⟨N,E,h2,fun T H ct=>?_⟩
   generalize hxe:x.enc=xe at*;obtain ⟨k,lo,hi,q⟩:=x;rw[bi] at hxe;subst hxe;refine evA ?_;refine ab [30,2,1,28,29] [] ?_;exact h3 _ _ _
theorem aft (k lo hi:Int)(l:List Rx)(hs:l.length<2^40)(lv:Nat)(hlv:lv≤17)(hk:lv≤16→ ∀y∈l,Bg y (lv+1)):Bg (.mk k lo hi l) lv:=by
 intro c hc;have m1:=ml l Rx.enc;obtain ⟨e0,g0,h0⟩:=MW k lo hi l hs;rw[chk,bi]
 by_cases a:16<lv
 ·rw[Ad a]
  have a':(lv:Int)>16:=by omega
  refine ⟨c,24,(show (24:Int)≠0 by decide),?_⟩
  exact gvA (F:=xc)
 rw[Ac a]
 by_cases b:64≤c
 ·rw[Ad b]
  have b':(c:Int)≥64:=by omega
  refine ⟨c,4,(show (4:Int)≠0 by decide),?_⟩
  exact gvA (F:=xc)
 rw[Ac b]
 by_cases d:bm k lo hi l.length=true
 ·rw[Ad d]
  obtain rfl:e0=0:=h0.2 d;obtain ⟨N,E,h2,h3⟩:=vU l hs lv (by omega) (hk (by omega)) l [] (c+1) 0 rfl rfl (by omega)
  refine ⟨N,E,h2,?_⟩;refine gvB (F:=xc) ?_;refine ab [30,2,1,28,29] [] ?_;rw[m1];exact h3 _ _ _
 ·rw[Ac d]
  have d': ¬e0=0:=fun q=>d (h0.1 q)
  refine ⟨c,e0,d',?_⟩;exact gvA (F:=xc)
mutual
theorem S9: ∀(x:Rx),Sml x→ ∀lv:Nat,lv≤17→Bg x lv
 | .mk k lo hi l,hs,lv,hlv=>aft k lo hi l hs.len lv hlv fun h=>OQ l hs.kid (lv+1) (by omega)
theorem OQ: ∀(l:List Rx),(∀x∈l,Sml x)→ ∀lv:Nat,lv≤17→ ∀y∈l,Bg y lv
 | [],_,_,_=>fun y hy=>by simp at hy
 |x::r,hs,lv,hlv=>fun y hy=>by
  have h1:=S9 x (hs x (by simp)) lv hlv
  rcases AK.1 hy with q|q
  ·rw[q];exact h1
  ·exact OQ r (fun z hz=>hs z (by simp[hz])) lv hlv y q
end
theorem DU (x:Rx)(hs:Sml x): ∃e:Int,ah G 617 [.agg x.enc] [] ⟨.int .i64 e,[]⟩∧(e=0↔ (chk x 1 0).isSome=true):=by
 obtain ⟨n,e,h1,g1⟩:=S9 x hs 1 (by omega) 0 (by omega)
 have g1:ah G 643 [.agg x.enc,.int .i64 1,.int .i64 0] [] ⟨.tup [.int .i64 n,.int .i64 e],[]⟩:=g1;refine ⟨e,?_,?_⟩
 ·generalize hxe:x.enc=xe at*
  obtain ⟨k,lo,hi,q⟩:=x;rw[bi] at hxe;subst hxe;exact gvA (F:=aci)
 ·cases hq:chk x 1 0 with
  |none=>rw[hq] at h1;simp;exact h1
  |some c=>rw[hq] at h1;simp;exact h1.2
end Go.AM.IR
namespace Go.AM.IR
section
variable {kv:AV→Prop} {k:Eff→Prop} {x:Opd} {g key:Nat} {hg:Nat→Option (Nat×Blk)} {n d:Nat}
theorem sO {v:Int}(h0:0≤v)(h1:v<18446744073709551616):IntKind.wrap .u64 v=v:=by
 simp[IntKind.wrap,IntKind.bits,IntKind.signed];omega
theorem aaM (hn:n<18446744073709551616)(h:kv (.int .u64 ((n % 10:Nat):Int))): ∃v,bv .rem (.int .u64 (n:Int)) (.int .u64 10)=some v∧kv v:=by
 refine ⟨_,?_,h⟩;simp only[bv];simp only[ne_eq,not_true_eq_false,if_false,reduceIte];rw[Ac (by decide)]
 have e:(n:Int).tmod 10=((n % 10:Nat):Int):=by rw[Int.tmod_eq_emod_of_nonneg (by omega)];omega
 rw[e]
theorem zQuo (hn:n<18446744073709551616)(h:kv (.int .u64 ((n/ 10:Nat):Int))): ∃v,bv .quo (.int .u64 (n:Int)) (.int .u64 10)=some v∧kv v:=by
 refine ⟨_,?_,h⟩;simp only[bv];simp only[ne_eq,not_true_eq_false,if_false,reduceIte];rw[Ac (by decide)]
 have e:(n:Int).tdiv 10=((n/ 10:Nat):Int):=by rw[Int.tdiv_eq_ediv_of_nonneg (by omega)];omega
 rw[e,sO (by omega) (by omega)]
theorem Tp (hd:d<10)(h:kv (.int .u64 ((48+d:Nat):Int))): ∃v,bv .add (.int .u64 48) (.int .u64 (d:Int))=some v∧kv v:=by
 refine ⟨_,?_,h⟩;show some (AV.int .u64 (IntKind.wrap .u64 (48+(d:Int))))=_
 rw[sO (by omega) (by omega)];simp
theorem aaO (hd:d<10)(h:k {res:=.int .u8 ((UInt8.ofNat (48+d)).toNat:Int)}): ∃e,aH (.conv .u8 x) g key [.int .u64 ((48+d:Nat):Int)] hg=some e∧k e:=by
 refine ⟨_,?_,h⟩;have e:(UInt8.ofNat (48+d)).toNat=48+d:=by rw[UInt8.toNat_ofNat'];omega
 show some ({res:=AV.int .u8 (IntKind.wrap .u8 ((48+d:Nat):Int))}:Eff)=_
 rw[e,uG (by omega) (by omega)]
end
theorem AB {f n:Nat}(h:n<10):cz f n= [UInt8.ofNat (48+n)]:=by
 cases f<;>simp[cz,h]
theorem pr: ∀(f n:Nat),(cz f n).length≤f+1
 |0,n=>by simp[cz]
 |f+1,n=>by
  have:=pr f (n/ 10);simp only[cz];split
  ·simp
  ·simp;omega
theorem pq: ∀(f n:Nat),f<2^40→n<10^ (f+1)→n<18446744073709551616→ah G 344 [.int .u64 (n:Int)] [] ⟨.str (cz f n),[]⟩:=by
 intro f
 induction f with
 |zero=>
  intro n _ h h2;have hn:n<10:=by simpa using h
  rw[AB hn];have hd:n % 10<10:=by omega
  have hlt:(n:Int)<10:=by omega
  have e:UInt8.ofNat (48+n)=UInt8.ofNat (48+n % 10):=by rw[Nat.mod_eq_of_lt hn]
  rw[e];refine gvC (F:=NW) ?_
  repeat' ((conv=>whnf);first|refine aaM h2 ?_|refine Tp hd ?_|refine aaO hd ?_|refine zBv (l:=[UInt8.ofNat (48+n % 10)]) rfl rfl ?_|refine au ?_|(refine ae ?_ ?_<;>intro h))
  refine ag ?_;rfl
 |succ f ih=>
  intro n hf h h2;have hd:n % 10<10:=by omega
  by_cases hn:n<10
  ·rw[AB hn]
   have hlt:(n:Int)<10:=by omega
   have e:UInt8.ofNat (48+n)=UInt8.ofNat (48+n % 10):=by rw[Nat.mod_eq_of_lt hn]
   rw[e];refine gvC (F:=NW) ?_
   repeat' ((conv=>whnf);first|refine aaM h2 ?_|refine Tp hd ?_|refine aaO hd ?_|refine zBv (l:=[UInt8.ofNat (48+n % 10)]) rfl rfl ?_|refine au ?_|(refine ae ?_ ?_<;>intro h))
   refine ag ?_;rfl
  ·have hlt: ¬(n:Int)<10:=by omega
   have h1:=ih (n/ 10) (by omega) (by rw[Nat.pow_succ] at h;omega) (by omega)
   have e:cz (f+1) n=cz f (n/ 10)++[UInt8.ofNat (48+n % 10)]:=by simp[cz,hn]
   rw[e];have hwl:=pr f (n/ 10);generalize cz f (n/ 10)=w at*;have hul: [UInt8.ofNat (48+n % 10)].length=1:=rfl;refine gvC (F:=NW) ?_
   repeat' ((conv=>whnf);first|refine aaM h2 ?_|refine Tp hd ?_|refine aaO hd ?_|refine zBv (l:=[UInt8.ofNat (48+n % 10)]) rfl rfl ?_|refine zQuo h2 ?_|refine bp ?_|refine au ?_|(refine ae ?_ ?_<;>intro h))
   refine ag ?_;rfl
theorem sG (a:Int)(h0:0≤a)(h1:a≤4294967295):ah G 338 [.int .i64 a] [] ⟨.str (aa a),[]⟩:=by
 have h:=pq 19 a.toNat (by omega) (by omega) (by omega)
 have e:((a.toNat:Nat):Int)=a:=by omega
 rw[e] at h;have e2:aa a=cz 19 a.toNat:=by unfold aa;rw[Ac (by omega)]
 rw[e2];generalize cz 19 a.toNat=w at*;exact gvA (F:=f338)
end Go.AM.IR
namespace Go.AM.IR
theorem N6 (k k2 lo hi:Int)(l:List Rx):ff k (.mk k2 lo hi l)=if k2=3 then decide (k≠4) else if k2=4 then !l.isEmpty else decide (5≤k2∧k2≤7)&&decide (5≤k∧k≤7):=rfl
theorem Jt (k lo hi k2 lo2 hi2:Int)(l l2:List Rx)(hl:l2.length<2^40):ah G 644 [.agg [.int .i64 k,.int .i64 lo,.int .i64 hi,.sl 4 (l.map Rx.enc)],.agg [.int .i64 k2,.int .i64 lo2,.int .i64 hi2,.sl 4 (l2.map Rx.enc)]] [] ⟨.bool (ff k (.mk k2 lo2 hi2 l2)),[]⟩:=by
 have m1:=ml l2 Rx.enc;have hrep: ∀b:Bool,b=decide (5≤k∧k≤7)→True:=fun _ _=>trivial
 rw[N6]
 by_cases a3:k2=3
 ·rw[Ad a3]
  subst a3
  by_cases e:k=4
  ·subst e
   exact gvA (F:=g6)
  ·rw[Al e]
   by_cases e5:k=5
   ·subst e5
    exact gvA (F:=g6)
   by_cases e6:k=6
   ·subst e6
    exact gvA (F:=g6)
   refine gvB (F:=g6) ?_;refine ag ?_;simp[e]
 rw[Ac a3]
 by_cases a4:k2=4
 ·rw[Ad a4]
  subst a4;have hem:(!l2.isEmpty)=decide ((l2.length:Int)>0):=by cases l2<;>simp
  rw[hem]
  by_cases e5:k=5
  ·subst e5
   refine gvB (F:=g6) ?_;refine ag ?_;rw[m1]
  by_cases e6:k=6
  ·subst e6
   refine gvB (F:=g6) ?_;refine ag ?_;rw[m1]
  refine gvB (F:=g6) ?_;refine ag ?_;rw[m1]
 rw[Ac a4]
 have run: ∀d:Bool,d=decide (5≤k∧k≤7)→ ∀e:Bool,e=decide (5≤k2∧k2≤7)→ah G 644 [.agg [.int .i64 k,.int .i64 lo,.int .i64 hi,.sl 4 (l.map Rx.enc)],.agg [.int .i64 k2,.int .i64 lo2,.int .i64 hi2,.sl 4 (l2.map Rx.enc)]] [] ⟨.bool (e&&d),[]⟩:=fun d hd e he=>by
  by_cases b5:k2=5
  ·subst b5
   obtain rfl:e=true:=by rw[he];decide
   by_cases e5:k=5
   ·subst e5
    obtain rfl:d=true:=by rw[hd];decide
    exact gvA (F:=g6)
   by_cases e6:k=6
   ·subst e6
    obtain rfl:d=true:=by rw[hd];decide
    exact gvA (F:=g6)
   obtain rfl:d=decide (k=7):=by rw[hd,Bool.eq_iff_iff];simp only[AO];omega
   refine gvB (F:=g6) ?_;refine ag ?_;simp;rw[Bool.eq_iff_iff];simp
  by_cases b6:k2=6
  ·subst b6
   obtain rfl:e=true:=by rw[he];decide
   by_cases e5:k=5
   ·subst e5
    obtain rfl:d=true:=by rw[hd];decide
    exact gvA (F:=g6)
   by_cases e6:k=6
   ·subst e6
    obtain rfl:d=true:=by rw[hd];decide
    exact gvA (F:=g6)
   obtain rfl:d=decide (k=7):=by rw[hd,Bool.eq_iff_iff];simp only[AO];omega
   refine gvB (F:=g6) ?_;refine ag ?_;simp;rw[Bool.eq_iff_iff];simp
  by_cases b7:k2=7
  ·subst b7
   obtain rfl:e=true:=by rw[he];decide
   by_cases e5:k=5
   ·subst e5
    obtain rfl:d=true:=by rw[hd];decide
    exact gvA (F:=g6)
   by_cases e6:k=6
   ·subst e6
    obtain rfl:d=true:=by rw[hd];decide
    exact gvA (F:=g6)
   obtain rfl:d=decide (k=7):=by rw[hd,Bool.eq_iff_iff];simp only[AO];omega
   refine gvB (F:=g6) ?_;refine ag ?_;simp;rw[Bool.eq_iff_iff];simp
  obtain rfl:e=false:=by rw[he];simp;omega
  by_cases e5:k=5
  ·subst e5
   exact gvA (F:=g6)
  by_cases e6:k=6
  ·subst e6
   exact gvA (F:=g6)
  exact gvA (F:=g6)
 exact run _ rfl _ rfl
def nt (w:List UInt8):List AV:=[.str w]
@[simp] theorem abl: ∀l:List (List UInt8),aG (l.map nt)=true
 | []=>rfl
 |x::r=>by simp only[Ao,aG,abl r];rfl
def jr (c:UInt8):List (List UInt8)→List UInt8
 | []=>[]
 |x::r=>c::(x++jr c r)
theorem wL (c:UInt8): ∀(x:List UInt8)(r:List (List UInt8)),cR c (x::r)=x++jr c r
 |x,[]=>by simp[cR,jr]
 |x,y::r=>by rw[kl,wL c y r,jr]
theorem oT (l:List (List UInt8))(hl:l.length<2^40)(c:UInt8): ∀(rest done:List (List UInt8))(acc R:List UInt8)(T:TV)(H:aw)(ct:Nat)(n:Int)(e:l=done++rest)(hn:n=done.length)(hb:acc.length+eu rest<2^40)(hR:R=if done= [] then cR c rest else acc++jr c rest)(hd0:done= []→acc= []),
  Ev G ⟨ab8,⟨(10,.int .i64 n)::(1,.str [c])::(5,.str acc)::(8,.sl 1 (l.map nt))::(9,.int .i64 l.length)::T,H,ct⟩,[.t 4],0⟩ ⟨.str R,[]⟩
 | [],done,acc,R,T,H,ct,n,e,hn,hb,hR,hd0=>by
  have hd:=md0 e
  obtain rfl:R=acc:=by
   rw[hR]
   by_cases h:done= []
   ·rw[Ad h,hd0 h];rfl
   ·rw[Ac h];simp[jr]
  refine evA ?_;refine ag ?_;rfl
 |x::r,done,acc,R,T,H,ct,n,e,hn,hb,hR,hd0=>by
  have hd:=md e;have hll:=ml l nt;have hx:(l.map nt)[n.toNat]? =some [.str x]:=by simp[e,hn,nt]
  have h1: [c].length=1:=rfl;rw[eu] at hb
  by_cases h:done= []
  ·have h0:=hd0 h
   subst h h0;obtain rfl:n=0:=hn;rw[Ad rfl,wL] at hR;have hz:([]:List UInt8).length=0:=rfl;refine evl ?_
   repeat' ((conv=>whnf);first|refine bp ?_|refine au ?_|(refine ae ?_ ?_<;>intro h))
   refine ab [10,1,5,8,9] [] ?_;exact oT l hl c r [x] x R _ _ _ 1 (by simpa using e) rfl (by simp at hb;omega) (by rw[Ac (by simp)];exact hR) (by simp)
  ·rw[Ac h,jr] at hR
   have hp:(0:Int)<n:=by
    have:done.length≠0:=fun q=>h (AI q)
    omega
   have h2:(acc++[c]).length=acc.length+1:=by simp
   refine evl ?_
   repeat' ((conv=>whnf);first|refine bp ?_|refine au ?_|(refine ae ?_ ?_<;>intro h))
   refine ab [10,1,5,8,9] [] ?_;exact oT l hl c r (done++[x]) (acc++[c]++x) R _ _ _ (n+1) (by simp[e]) (by simp[hn]) (by simp;omega) (by rw[Ac (by simp),hR];simp) (by simp)
theorem sy (l:List (List UInt8))(hl:l.length<2^40)(hb:eu l<2^40)(c:UInt8):ah G 645 [.sl 1 (l.map nt),.str [c]] [] ⟨.str (cR c l),[]⟩:=by
 have hll:=ml l nt;refine gvB (F:=Vk) ?_;refine ab [10,1,5,8,9] [] ?_;rw[hll];exact oT l hl c l [] [] _ _ _ _ 0 rfl rfl (by simpa using hb) (by rw[Ad rfl]) (fun _=>rfl)
end Go.AM.IR
namespace Go.AM.IR
theorem we: ∀(a b:List (List UInt8)),eu (a++b)=eu a+eu b
 | [],b=>by simp[eu]
 |x::r,b=>by rw[BY,eu,eu,we r b];omega
theorem rE (dec:Int→List UInt8)(k:Int): ∀(a b:List Rx),bw dec k (a++b)=bw dec k a++bw dec k b
 | [],b=>by rw[bw];rfl
 |x::r,b=>by rw[BY,bw,bw,rE dec k r b];rfl
def uD (x:Rx):Prop:=ah G 618 [.agg x.enc] [] ⟨.str (pat aa x),[]⟩
theorem QG (k lo hi:Int)(l:List Rx)(hn:bm k lo hi l.length=true)(hl:l.length<2^40)(hb:eu (bw aa k l)<2^30)(g gp:Nat)(T:TV)(H:aw)(ct:Nat)(ps:List (List UInt8))(hps:ps=bw aa k l):
  Ev G ⟨qg,⟨(10,.int .i64 l.length)::(3,.vs 200 g ps.length)::(1,.ref 65 gp 0)::(8,.sl 4 (l.map Rx.enc))::(9,.int .i64 l.length)::T,(200,some (g,.vec 1 (ps.map nt)))::(65,some (gp,.cells [.int .i64 k,.int .i64 lo,.int .i64 hi,.sl 4 (l.map Rx.enc)]))::H,ct⟩,[.t 2],0⟩ ⟨.str (dk aa k lo hi ps),[]⟩:=by
 have hpl:ps.length=l.length:=by rw[hps];exact oA l
 have m1:=ml ps nt;rw[←hps] at hb;unfold bm at hn
 by_cases k1:k=1
 ·rw[Ad k1] at hn
  obtain ⟨q1,q2,q3,q4⟩:=of_decide_eq_true hn;subst k1;have d1:=sG lo q1 (by omega)
  have d2:=sG hi (by omega) q3
  have i1:=mb (a:=lo) q1 (by omega)
  have i2:=mb (a:=hi) (by omega) q3
  by_cases e:lo=hi
  ·rw[show dk aa 1 lo hi ps=aa lo from by unfold dk;rw[Ac (by omega),Ad rfl,Ad e]]
   generalize aa lo=w1 at*;refine evA ?_;refine ag ?_;rfl
  ·rw[show dk aa 1 lo hi ps=91::(aa lo++45::(aa hi++[93])) from by unfold dk;rw[Ac (by omega),Ad rfl,Ac e]]
   generalize aa lo=w1 at*;generalize aa hi=w2 at*;have z1:([91]:List UInt8).length=1:=rfl;have z2:([45]:List UInt8).length=1:=rfl;have z3:([93]:List UInt8).length=1:=rfl;refine evl ?_
   repeat' ((conv=>whnf);first|refine bp ?_|refine au ?_|(refine ae ?_ ?_<;>intro h))
   refine ag ?_;simp
 rw[Ac k1,Av] at hn;obtain ⟨hz,hn⟩:=hn;obtain ⟨rfl,rfl⟩:=of_decide_eq_true hz
 by_cases k0:k=0
 ·subst k0
  refine evA ?_;refine ag ?_;rfl
 by_cases k2:k=2
 ·subst k2
  refine evA ?_;refine ag ?_;rfl
 rw[Ac (by omega)] at hn
 by_cases k3:k=3
 ·subst k3
  have hj:=sy ps (by omega) (by omega) 32
  rw[show dk aa 3 0 0 ps=cR 32 ps from rfl]
  generalize cR 32 ps=w at*;refine evl ?_
  repeat' (first|refine bc ?_|refine kZ [(200,_,_)] ⟨rfl,pz trivial⟩ (hj) ?_|(refine ae ?_ ?_<;>intro h))
  refine ag ?_;rfl
 rw[Ac k3] at hn
 by_cases k4:k=4
 ·subst k4
  by_cases hz:ps= []
  ·subst hz
   rw[show dk aa 4 0 0 []= [33] from rfl]
   have z0:([]:List (List UInt8)).length=0:=rfl;refine evA ?_;refine ag ?_;rfl
  ·have hpz:ps.length≠0:=fun q=>hz (AI q)
   have hj:=sy ps (by omega) (by omega) 124
   rw[show dk aa 4 0 0 ps=cR 124 ps from by unfold dk;rw[Ac (by omega),Ac (by omega),Ac (by omega),Ac (by omega),Ad rfl,Ac (by cases ps<;>simp_all)]]
   generalize cR 124 ps=w at*;refine evl ?_
   repeat' (first|refine bc ?_|refine kZ [(200,_,_)] ⟨rfl,pz trivial⟩ (hj) ?_|(refine ae ?_ ?_<;>intro h))
   refine ag ?_;rfl
 rw[Ac k4] at hn
 by_cases k5:5≤k∧k≤7
 ·rw[Ad k5] at hn
  have hn:=of_decide_eq_true hn
  obtain ⟨p,rfl⟩: ∃p,ps= [p]:=by
   match ps,hpl with
   | [p],_=>exact ⟨p,rfl⟩
   | [],h=>simp at h;omega
   |a::b::r,h=>simp at h;omega
  simp only[eu] at hb;have hx:([p].map nt)[(0:Int).toNat]? =some [.str p]:=rfl;have z1:([p]:List (List UInt8)).length=1:=rfl;have z2:([42]:List UInt8).length=1:=rfl;have z3:([43]:List UInt8).length=1:=rfl;have z4:([63]:List UInt8).length=1:=rfl;rcases (by omega:k=5∨k=6∨k=7) with rfl|rfl|rfl
  ·rw[show dk aa 5 0 0 [p]=p++[42] from rfl]
   refine evl ?_
   repeat' ((conv=>whnf);first|refine bp ?_|refine au ?_|(refine ae ?_ ?_<;>intro h))
   refine ag ?_;rfl
  ·rw[show dk aa 6 0 0 [p]=p++[43] from rfl]
   refine evl ?_
   repeat' ((conv=>whnf);first|refine bp ?_|refine au ?_|(refine ae ?_ ?_<;>intro h))
   refine ag ?_;rfl
  ·rw[show dk aa 7 0 0 [p]=p++[63] from rfl]
   refine evl ?_
   repeat' ((conv=>whnf);first|refine bp ?_|refine au ?_|(refine ae ?_ ?_<;>intro h))
   refine ag ?_;rfl
 ·rw[Ac k5] at hn;cases hn
end Go.AM.IR
namespace Go.AM.IR
theorem vz (k lo hi:Int)(l:List Rx)(hn:bm k lo hi l.length=true)(hl:l.length<2^40)(hb:eu (bw aa k l)<2^30)(hk: ∀y∈l,uD y∧Sml y)(gp:Nat): ∀(rest done:List Rx)(T:TV)(H:aw)(ct g m:Nat)(es:List (List AV))(n:Int)(e:l=done++rest)(hnn:n=done.length)(hm:m=(bw aa k done).length)(hes:es=(bw aa k done).map nt),
  Ev G ⟨qg,⟨(10,.int .i64 n)::(3,.vs 200 g m)::(1,.ref 65 gp 0)::(8,.sl 4 (l.map Rx.enc))::(9,.int .i64 l.length)::T,(200,some (g,.vec 1 es))::(65,some (gp,.cells [.int .i64 k,.int .i64 lo,.int .i64 hi,.sl 4 (l.map Rx.enc)]))::H,ct⟩,[.t 2],0⟩ ⟨.str (dk aa k lo hi (bw aa k l)),[]⟩
 | [],done,T,H,ct,g,m,es,n,e,hnn,hm,hes=>by
  obtain rfl:l=done:=by simpa using e
  subst hm hes hnn;exact QG k lo hi l hn hl hb g gp T H ct _ rfl
 |x::r,done,T,H,ct,g,m,es,n,e,hnn,hm,hes=>by
  have hd:=md e;have hll:=ml l Rx.enc;have hx:(l.map Rx.enc)[n.toNat]? =some x.enc:=by simp[e,hnn]
  obtain ⟨hp,hs⟩:=hk x (by simp[e])
  have hpx:=cq x;have hpl:(bw aa k done).length=done.length:=oA done;have hpa:bw aa k (done++[x])=bw aa k done++[dh k x (pat aa x)]:=by rw[rE,bw,bw]
  have hbx:(pat aa x).length+2<2^31:=by
   have h1:bw aa k l=bw aa k done++(dh k x (pat aa x)::bw aa k r):=by rw[e,rE,bw]
   rw[h1,we,eu] at hb;have:(pat aa x).length≤(dh k x (pat aa x)).length:=by unfold dh;split<;>simp;omega
   omega
  have ih:=fun T H ct g=>vz k lo hi l hn hl hb hk gp r (done++[x]) T H ct g (m+1) (es++[nt (dh k x (pat aa x))]) (n+1) (by simp[e]) (by simp[hnn]) (by rw[hpa,hm];simp) (by rw[hpa,hes];simp)
  have hmm:m=done.length:=by rw[hm,hpl]
  have hel:es.length=m:=by rw[hes,hm];simp
  have hmn:(m:Int)=n:=by omega
  have hpe:aG es=true:=by rw[hes];simp
  unfold uD at hp
  have hen: ∀k2 lo2 hi2 l2,x= .mk k2 lo2 hi2 l2→ah G 644 [.agg [.int .i64 k,.int .i64 lo,.int .i64 hi,.sl 4 (l.map Rx.enc)],.agg [.int .i64 k2,.int .i64 lo2,.int .i64 hi2,.sl 4 (l2.map Rx.enc)]] [] ⟨.bool (ff k x),[]⟩:=fun k2 lo2 hi2 l2 hxx=>by
   subst hxx;exact Jt k lo hi k2 lo2 hi2 l l2 hs.len
  have z1:([40]:List UInt8).length=1:=rfl;have z2:([41]:List UInt8).length=1:=rfl;cases hc:ff k x with
  |true=>
   have hin:dh k x (pat aa x)=40::(pat aa x++[41]):=by unfold dh;rw[Ad hc]
   rw[hin] at ih;rw[hc] at hen;have ih: ∀T H ct g,Ev G ⟨qg,⟨(10,.int .i64 (n+1))::(3,.vs 200 g (m+1))::(1,.ref 65 gp 0)::(8,.sl 4 (l.map Rx.enc))::(9,.int .i64 l.length)::T,(200,some (g,.vec 1 (es++[[.str ([40]++pat aa x++[41])]])))::(65,some (gp,.cells [.int .i64 k,.int .i64 lo,.int .i64 hi,.sl 4 (l.map Rx.enc)]))::H,ct⟩,[.t 2],0⟩ ⟨.str (dk aa k lo hi (bw aa k l)),[]⟩:=ih
   generalize pat aa x=w at*;generalize hxe:x.enc=xe at*;obtain ⟨k2,lo2,hi2,l2⟩:=x;rw[bi] at hxe;subst hxe;have hen:=hen k2 lo2 hi2 l2 rfl;have hwl:([40]++w).length=w.length+1:=by simp
   refine evl ?_
   repeat' ((conv=>whnf);first|refine bp ?_|refine kV hp ?_ hpx|refine au ?_|(refine ae ?_ ?_<;>intro h))
   refine ab [10,3,1,8,9] [200,65] ?_;exact ih _ _ _ _
  |false=>
   have hin:dh k x (pat aa x)=pat aa x:=by unfold dh;rw[Ac (by rw[hc];simp)]
   rw[hin] at ih;rw[hc] at hen;have ih: ∀T H ct g,Ev G ⟨qg,⟨(10,.int .i64 (n+1))::(3,.vs 200 g (m+1))::(1,.ref 65 gp 0)::(8,.sl 4 (l.map Rx.enc))::(9,.int .i64 l.length)::T,(200,some (g,.vec 1 (es++[[.str (pat aa x)]])))::(65,some (gp,.cells [.int .i64 k,.int .i64 lo,.int .i64 hi,.sl 4 (l.map Rx.enc)]))::H,ct⟩,[.t 2],0⟩ ⟨.str (dk aa k lo hi (bw aa k l)),[]⟩:=ih
   generalize pat aa x=w at*;generalize hxe:x.enc=xe at*;obtain ⟨k2,lo2,hi2,l2⟩:=x;rw[bi] at hxe;subst hxe;have hen:=hen k2 lo2 hi2 l2 rfl;refine evl ?_
   repeat' ((conv=>whnf);first|refine bp ?_|refine kV hp ?_ hpx|refine au ?_|(refine ae ?_ ?_<;>intro h))
   refine ab [10,3,1,8,9] [200,65] ?_;exact ih _ _ _ _
theorem aeN (k lo hi:Int)(l:List Rx)(hn:bm k lo hi l.length=true)(hl:l.length<2^40)(hb:eu (bw aa k l)<2^30)(hk: ∀y∈l,uD y∧Sml y):uD (.mk k lo hi l):=by
 have hll:=ml l Rx.enc;unfold uD;rw[bi,pat];refine gvB (F:=Vy) ?_;refine lf 200 1 [(3,.vs 200 _ 0)] [] ⟨LeP.nilV _ _ _,trivial⟩ trivial ?_;refine ab [10,3,1,8,9] [200,65] ?_;rw[hll];exact vz k lo hi l hn hl hb hk _ l [] _ _ _ _ _ _ 0 rfl rfl rfl rfl
mutual
theorem SA: ∀(x:Rx){lv c c':Nat},Sml x→chk x lv c=some c'→uD x
 | .mk k lo hi l,lv,c,c',hs,h=>by
  have hc':=uv h;rw[chk] at h;split at h
  ·cases h
  ·split at h
   ·cases h
   ·split at h
    ·rename_i hn
     have h1:=pR k l h;have h2:=Lw l hs.kid h;exact aeN k lo hi l hn hs.len (by omega) h2
    ·cases h
theorem Lw: ∀(l:List Rx){lv c c':Nat},(∀x∈l,Sml x)→ir l lv c=some c'→ ∀y∈l,uD y∧Sml y
 | [],_,_,_,_,_=>fun y hy=>by simp at hy
 |x::r,lv,c,c',hs,h=>fun y hy=>by
  rw[ir] at h;split at h
  ·rename_i c1 h1
   have h2:=SA x (hs x (by simp)) h1
   rcases AK.1 hy with q|q
   ·rw[q];exact ⟨h2,hs x (by simp)⟩
   ·exact Lw r (fun z hz=>hs z (by simp[hz])) h y q
  ·cases h
end
end Go.AM.IR
namespace Go.AM.IR
theorem Ce (s:List UInt8)(hs:s.length<2^32):ah G 571 [.str s] [] (uO (nH s)):=by
 have hq:=uA s hs 32 1 (by omega) (by omega) 0 (by omega)
 unfold nH;cases ha:cM s (iP s) 32 0 with
 |none=>
  rw[ha] at hq;obtain ⟨x,m,hm,hq⟩:=hq;have hq:ah G 616 [.ref 0 0 0,.int .i64 1] [.cells [.str s,.int .i64 0]] (rpR s (.tup [.agg x.enc,.bool false]) m):=hq;have hpx:=cq x;show ah G 571 _ _ ⟨.tup [.agg rx0.enc,.int .i64 2],[]⟩
  rw[lI];obtain ⟨k,lo,hi,l⟩:=x;rw[bi] at hq hpx;refine gvC (F:=xh) ?_
  repeat' (first|refine bc ?_|refine kX [(73,_,_)] [] ⟨rfl,trivial⟩ trivial (hq) ?_|(refine ae ?_ ?_<;>intro h))
  refine eU [] [(66,some (_,.cells ([.int .i64 0,.int .i64 0,.int .i64 0,.sl 4 []])))] trivial ⟨⟨rfl,leA⟩,trivial⟩ ?_;refine ag ?_;(conv=>whnf);refine Go.AM.finC ?_;rfl
 |some p=>
  obtain ⟨x,m⟩:=p;rw[ha] at hq;obtain ⟨_,p2,hsm⟩:=rf hs (wn s) 32 _ _ _ (by omega) ha
  have hq:ah G 616 [.ref 0 0 0,.int .i64 1] [.cells [.str s,.int .i64 0]] (rpR s (.tup [.agg x.enc,.bool true]) m):=hq;obtain ⟨e,hc,he⟩:=DU x hsm;have hpx:=cq x;dsimp only
  by_cases h1:m=s.length
  ·subst h1
   by_cases h2:(chk x 1 0).isSome=true
   ·obtain rfl:e=0:=he.2 h2
    obtain ⟨c',hc'⟩:=Be.1 h2;have hp:=SA x hsm hc';unfold uD at hp
    by_cases h3:pat aa x=s
    ·rw[Ad ⟨rfl,h2,h3⟩]
     show ah G 571 _ _ ⟨.tup [.agg x.enc,.int .i64 0],[]⟩
     generalize pat aa x=w at*;generalize hxe:x.enc=xe at*;obtain ⟨k,lo,hi,l⟩:=x;rw[bi] at hxe;subst hxe;refine gvC (F:=xh) ?_
     repeat' ((conv=>whnf);first|refine kV hc ?_ hpx|refine kV hp ?_ hpx|refine gy h3 ?_|refine au ?_|refine kX [(73,_,_)] [] ⟨rfl,trivial⟩ trivial (hq) ?_|(refine ae ?_ ?_<;>intro h))
     refine ag ?_;(conv=>whnf);refine Go.AM.finC ?_;rfl
    ·rw[Ac (fun q=>h3 q.2.2)]
     show ah G 571 _ _ ⟨.tup [.agg rx0.enc,.int .i64 2],[]⟩
     rw[lI];generalize pat aa x=w at*;have hne:(w==s)=false:=by simpa using h3
     have zne: ∀{kv:AV→Prop},kv (.bool true)→ ∃v,bv .neq (.str w) (.str s)=some v∧kv v:=fun h=>⟨.bool true,by show some (AV.bool (!(w==s)))=_;rw[hne];rfl,h⟩
     generalize hxe:x.enc=xe at*;obtain ⟨k,lo,hi,l⟩:=x;rw[bi] at hxe;subst hxe;refine gvC (F:=xh) ?_
     repeat' ((conv=>whnf);first|refine kV hc ?_ hpx|refine kV hp ?_ hpx|refine zne ?_|refine au ?_|refine kX [(73,_,_)] [] ⟨rfl,trivial⟩ trivial (hq) ?_|(refine ae ?_ ?_<;>intro h))
     refine eU [] [(66,some (_,.cells ([.int .i64 0,.int .i64 0,.int .i64 0,.sl 4 []])))] trivial ⟨⟨rfl,leA⟩,trivial⟩ ?_;refine ag ?_;(conv=>whnf);refine Go.AM.finC ?_;rfl
   ·rw[Ac (fun q=>h2 q.2.1)]
    have he': ¬e=0:=fun q=>h2 (he.1 q)
    show ah G 571 _ _ ⟨.tup [.agg rx0.enc,.int .i64 2],[]⟩
    rw[lI];generalize hxe:x.enc=xe at*;obtain ⟨k,lo,hi,l⟩:=x;rw[bi] at hxe;subst hxe;refine gvC (F:=xh) ?_
    repeat' ((conv=>whnf);first|refine kV hc ?_ hpx|refine au ?_|refine kX [(73,_,_)] [] ⟨rfl,trivial⟩ trivial (hq) ?_|(refine ae ?_ ?_<;>intro h))
    refine eU [] [(66,some (_,.cells ([.int .i64 0,.int .i64 0,.int .i64 0,.sl 4 []])))] trivial ⟨⟨rfl,leA⟩,trivial⟩ ?_;refine ag ?_;(conv=>whnf);refine Go.AM.finC ?_;rfl
  ·rw[Ac (fun q=>h1 q.1)]
   have hlt:m<s.length:=by omega
   show ah G 571 _ _ ⟨.tup [.agg rx0.enc,.int .i64 2],[]⟩
   rw[lI];generalize hxe:x.enc=xe at*;obtain ⟨k,lo,hi,l⟩:=x;rw[bi] at hxe;subst hxe;refine gvC (F:=xh) ?_
   repeat' (first|refine bc ?_|refine kX [(73,_,_)] [] ⟨rfl,trivial⟩ trivial (hq) ?_|(refine ae ?_ ?_<;>intro h))
   refine eU [] [(66,some (_,.cells ([.int .i64 0,.int .i64 0,.int .i64 0,.sl 4 []])))] trivial ⟨⟨rfl,leA⟩,trivial⟩ ?_;refine ag ?_;(conv=>whnf);refine Go.AM.finC ?_;rfl
end Go.AM.IR
