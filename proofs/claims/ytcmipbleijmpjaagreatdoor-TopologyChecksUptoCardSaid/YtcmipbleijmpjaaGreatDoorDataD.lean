/- What the functions of this program give, on the abstract machine. -/
import Derived.Test.YtcmipbleijmpjaaGreatDoorDataC
set_option linter.unusedVariables false
set_option linter.unusedSimpArgs false
set_option maxHeartbeats 4000000
set_option maxRecDepth 20000
namespace Go.AM.IR
theorem qY (s:List UInt8) (hs:s.length<2^40) (atom:PR) (lv:Int) (hp:Pos s atom) (hA: ∀n,n≤s.length→f9 656 s lv n (atom n)) (n:Nat) (hn:n≤s.length):f9 651 s lv n (dQ s atom n):=by
 unfold dQ
 have hq:=hA n hn
 cases ha:atom n with
 |none=>
  rw[ha] at hq
  obtain ⟨x,m,hm,hq⟩:=hq
  refine ⟨x,m,hm,?_⟩
  have hpx:=cm x
  obtain ⟨k,lo,hi,l⟩:=x
  rw[bi] at hq hpx⊢
  refine ab (F:=uH) rfl rfl (am 300 _ _ _ _ ?_)
  repeat' (first|refine ae ?_|refine kX [(0,_,_)] [] ⟨rfl,trivial⟩ trivial (hq) ?_|(refine aa ?_ ?_<;>intro h))
  (conv=>whnf);first|refine bg [(0,_,_)] [] [true] ?_|refine bh [(0,_,_)] [] [true] ?_
  refine cG ?_
  rfl
 |some p=>
  obtain ⟨x,m⟩:=p
  rw[ha] at hq
  obtain ⟨p1,p2,_⟩:=hp _ _ _ hn ha
  dsimp only
  simp only[f9] at hq
  have hpx:=cm x
  have hex: ∀k:Int,(Rx.mk k 0 0 [x]).enc= [.int .i64 k,.int .i64 0,.int .i64 0,.sl 4 [x.enc]]:=fun k=>bi k 0 0 [x]
  obtain ⟨k,lo,hi,l⟩:=x
  have hen:=bi k lo hi l
  rw[hen] at hq hpx hex
  by_cases h1c:chr s m 42=true
  ·rw[if_pos h1c]
   have hlt:=cX h1c
   have h1:aq G 642 [.ref 0 0 0,.int .u8 42] [.cells [.str s,.int .i64 ((m:Nat):Int)]] (rpR s (.bool true) (m+1)):=by
    have:=br s hs 42 (m) (by omega)
    rwa [h1c,if_pos rfl] at this
   show aq G 651 _ _ (rpR s (.tup [.agg (Rx.mk 5 0 0 [.mk k lo hi l]).enc,.bool true]) (m+1))
   rw[hex]
   refine ab (F:=uH) rfl rfl (am 300 _ _ _ _ ?_)
   repeat' (first|refine ae ?_|refine kX [(0,_,_)] [] ⟨rfl,trivial⟩ trivial (hq) ?_|refine kX [(0,_,_)] [] ⟨rfl,trivial⟩ trivial (h1) ?_|(refine aa ?_ ?_<;>intro h))
   refine jL [(97,_,_)] [5,4] [0,68] ⟨rfl,frP,trivial⟩ ?_;repeat ((conv=>whnf);first|refine frA ?_|intro T H)
   (conv=>whnf);first|refine bg [(0,_,_)] [] [true] ?_|refine bh [(0,_,_)] [] [true] ?_
   refine cG ?_
   rfl
  rw[if_neg h1c]
  rw[Bool.not_eq_true] at h1c
  have h1:aq G 642 [.ref 0 0 0,.int .u8 42] [.cells [.str s,.int .i64 ((m:Nat):Int)]] (rpR s (.bool false) (m)):=by
   have:=br s hs 42 (m) (by omega)
   rwa [h1c,if_neg (by simp)] at this
  by_cases h2c:chr s m 43=true
  ·rw[if_pos h2c]
   have hlt:=cX h2c
   have h2:aq G 642 [.ref 0 0 0,.int .u8 43] [.cells [.str s,.int .i64 ((m:Nat):Int)]] (rpR s (.bool true) (m+1)):=by
    have:=br s hs 43 (m) (by omega)
    rwa [h2c,if_pos rfl] at this
   show aq G 651 _ _ (rpR s (.tup [.agg (Rx.mk 6 0 0 [.mk k lo hi l]).enc,.bool true]) (m+1))
   rw[hex]
   refine ab (F:=uH) rfl rfl (am 300 _ _ _ _ ?_)
   repeat' (first|refine ae ?_|refine kX [(0,_,_)] [] ⟨rfl,trivial⟩ trivial (hq) ?_|refine kX [(0,_,_)] [] ⟨rfl,trivial⟩ trivial (h1) ?_|refine kX [(0,_,_)] [] ⟨rfl,trivial⟩ trivial (h2) ?_|(refine aa ?_ ?_<;>intro h))
   refine jL [(97,_,_)] [5,4] [0,68] ⟨rfl,frP,trivial⟩ ?_;repeat ((conv=>whnf);first|refine frA ?_|intro T H)
   (conv=>whnf);first|refine bg [(0,_,_)] [] [true] ?_|refine bh [(0,_,_)] [] [true] ?_
   refine cG ?_
   rfl
  rw[if_neg h2c]
  rw[Bool.not_eq_true] at h2c
  have h2:aq G 642 [.ref 0 0 0,.int .u8 43] [.cells [.str s,.int .i64 ((m:Nat):Int)]] (rpR s (.bool false) (m)):=by
   have:=br s hs 43 (m) (by omega)
   rwa [h2c,if_neg (by simp)] at this
  by_cases h3c:chr s m 63=true
  ·rw[if_pos h3c]
   have hlt:=cX h3c
   have h3:aq G 642 [.ref 0 0 0,.int .u8 63] [.cells [.str s,.int .i64 ((m:Nat):Int)]] (rpR s (.bool true) (m+1)):=by
    have:=br s hs 63 (m) (by omega)
    rwa [h3c,if_pos rfl] at this
   show aq G 651 _ _ (rpR s (.tup [.agg (Rx.mk 7 0 0 [.mk k lo hi l]).enc,.bool true]) (m+1))
   rw[hex]
   refine ab (F:=uH) rfl rfl (am 300 _ _ _ _ ?_)
   repeat' (first|refine ae ?_|refine kX [(0,_,_)] [] ⟨rfl,trivial⟩ trivial (hq) ?_|refine kX [(0,_,_)] [] ⟨rfl,trivial⟩ trivial (h1) ?_|refine kX [(0,_,_)] [] ⟨rfl,trivial⟩ trivial (h2) ?_|refine kX [(0,_,_)] [] ⟨rfl,trivial⟩ trivial (h3) ?_|(refine aa ?_ ?_<;>intro h))
   refine jL [(97,_,_)] [5,4] [0,68] ⟨rfl,frP,trivial⟩ ?_;repeat ((conv=>whnf);first|refine frA ?_|intro T H)
   (conv=>whnf);first|refine bg [(0,_,_)] [] [true] ?_|refine bh [(0,_,_)] [] [true] ?_
   refine cG ?_
   rfl
  rw[if_neg h3c]
  rw[Bool.not_eq_true] at h3c
  have h3:aq G 642 [.ref 0 0 0,.int .u8 63] [.cells [.str s,.int .i64 ((m:Nat):Int)]] (rpR s (.bool false) (m)):=by
   have:=br s hs 63 (m) (by omega)
   rwa [h3c,if_neg (by simp)] at this
  show aq G 651 _ _ (rpR s (.tup [.agg (Rx.mk k lo hi l).enc,.bool true]) m)
  rw[hen]
  refine ab (F:=uH) rfl rfl (am 300 _ _ _ _ ?_)
  repeat' (first|refine ae ?_|refine kX [(0,_,_)] [] ⟨rfl,trivial⟩ trivial (hq) ?_|refine kX [(0,_,_)] [] ⟨rfl,trivial⟩ trivial (h1) ?_|refine kX [(0,_,_)] [] ⟨rfl,trivial⟩ trivial (h2) ?_|refine kX [(0,_,_)] [] ⟨rfl,trivial⟩ trivial (h3) ?_|(refine aa ?_ ?_<;>intro h))
  (conv=>whnf);first|refine bg [(0,_,_)] [] [true] ?_|refine bh [(0,_,_)] [] [true] ?_
  refine cG ?_
  rfl
end Go.AM.IR
namespace Go.AM.IR
def QD (s:List UInt8):Option (Rx×Nat)→Ret→Prop
 |some (x,m),t=>t=rpR s (.tup [.agg x.enc,.bool true]) m
 |none,t=> ∃x m,m≤s.length∧t=rpR s (.tup [.agg (Rx.enc x),.bool false]) m
theorem NU {f:Nat} {s:List UInt8} {lv:Int} {n:Nat} {o:Option (Rx×Nat)} {t:Ret} (h:QD s o t) (g:aq G f [.ref 0 0 0,.int .i64 lv] [.cells [.str s,.int .i64 (n:Int)]] t):f9 f s lv n o:=by
 cases o with
 |none=>obtain ⟨x,m,hm,rfl⟩:=h;exact ⟨x,m,hm,g⟩
 |some p=>obtain ⟨x,m⟩:=p;obtain rfl:t=_:=h;exact g
theorem kp:rx0.enc= [.int .i64 0,.int .i64 0,.int .i64 0,.sl 4 []]:=e0 0 0 0
theorem wl (s:List UInt8) (hs:s.length<2^32) (item:PR) (lv:Int) (hp:Pos s item) (hA: ∀n,n≤s.length→f9 651 s lv n (item n)): ∀(f:Nat) (acc:List Rx) (n:Nat) (hf:s.length<f+n) (hn:n≤s.length) (hac:acc.length+f≤s.length+1),∃t,QD s (fY 3 (dY s item 32 f acc n)) t∧ ∀(T:List (Nat×AV)) (H:ax) (c g g4:Nat) (es:List (List AV)) (k:Nat) (hes:es=acc.map Rx.enc) (hk:k=acc.length),Ev G ⟨Xb,⟨(4,.ref 68 g4 0)::(0,.ref 0 0 0)::(6,.vs 200 g k)::(1,.int .i64 lv)::T,(0,some (0,.cells [.str s,.int .i64 (n:Int)]))::(68,some (g4,.cells [.int .i64 0,.int .i64 0,.int .i64 0,.con (.slice none 0 0)]))::(200,some (g,.vec 4 es))::H,c⟩,[.cell 4 (some 4),.t 5],1⟩ t
 |0,acc,n,hf,hn,hac=>by omega
 |f+1,acc,n,hf,hn,hac=>by
  have hq:=hA n hn
  rw[dY]
  have hl:(acc.map Rx.enc).length=acc.length:=by simp
  cases ha:item n with
  |none=>
   rw[ha] at hq
   obtain ⟨x,m,hm,hq⟩:=hq
   refine ⟨_,⟨rx0,m,hm,rfl⟩,fun T H c g g4 es k hes hk=>?_⟩
   subst hes hk
   have hpx:=cm x
   generalize hxe:x.enc=xe at*
   obtain ⟨k,lo,hi,l⟩:=x
   rw[bi] at hxe
   subst hxe
   rw[kp]
   refine evl ?_
   repeat' (first|refine ae ?_|refine kX [(0,_,_)] [] ⟨rfl,trivial⟩ trivial (hq) ?_|(refine aa ?_ ?_<;>intro h))
   refine ec [] [(68,some (_,.cells ([.int .i64 0,.int .i64 0,.int .i64 0,.sl 4 []])))] trivial ⟨⟨rfl,leA⟩,trivial⟩ ?_
   (conv=>whnf);first|refine bg [(0,_,_)] [] [true] ?_|refine bh [(0,_,_)] [] [true] ?_
   refine cG ?_
   rfl
  |some p=>
   obtain ⟨x,m⟩:=p
   rw[ha] at hq
   obtain ⟨p1,p2,_⟩:=hp _ _ _ hn ha
   simp only[f9] at hq
   dsimp only
   have hpx:=cm x
   have hax:(acc++[x]).map Rx.enc=acc.map Rx.enc++[x.enc]:=by simp
   by_cases hc:chr s m 32=true
   ·rw[if_pos hc]
    have hlt:=cX hc
    have h1:aq G 642 [.ref 0 0 0,.int .u8 32] [.cells [.str s,.int .i64 ((m:Nat):Int)]] (rpR s (.bool true) (m+1)):=by
     have:=br s (by omega) 32 m (by omega)
     rwa [hc,if_pos rfl] at this
    obtain ⟨t,h2,h3⟩:=wl s hs item lv hp hA f (acc++[x]) (m+1) (by omega) (by omega) (by simp;omega)
    refine ⟨t,h2,fun T H c g g4 es k hes hk=>?_⟩
    subst hes hk
    rw[hax] at h3
    generalize hxe:x.enc=xe at*
    obtain ⟨k,lo,hi,l⟩:=x
    rw[bi] at hxe
    subst hxe
    refine evl ?_
    repeat' (first|refine ae ?_|refine kX [(0,_,_)] [] ⟨rfl,trivial⟩ trivial (hq) ?_|refine kX [(0,_,_)] [] ⟨rfl,trivial⟩ trivial (h1) ?_|(refine aa ?_ ?_<;>intro h))
    refine ah [4,0,6,1] [0,68,200] ?_
    exact h3 _ _ _ _ _ _ _ rfl (by simp)
   ·rw[if_neg hc]
    rw[Bool.not_eq_true] at hc
    have h1:aq G 642 [.ref 0 0 0,.int .u8 32] [.cells [.str s,.int .i64 ((m:Nat):Int)]] (rpR s (.bool false) m):=by
     have:=br s (by omega) 32 m (by omega)
     rwa [hc,if_neg (by simp)] at this
    cases acc with
    |nil=>
     refine ⟨rpR s (.tup [.agg x.enc,.bool true]) m,rfl,fun T H c g g4 es k hes hk=>?_⟩
     obtain rfl:es= []:=hes
     obtain rfl:k=0:=hk
     generalize hxe:x.enc=xe at*
     obtain ⟨k,lo,hi,l⟩:=x
     rw[bi] at hxe
     subst hxe
     refine evl ?_
     repeat' (first|refine ae ?_|refine kX [(0,_,_)] [] ⟨rfl,trivial⟩ trivial (hq) ?_|refine kX [(0,_,_)] [] ⟨rfl,trivial⟩ trivial (h1) ?_|refine And.intro (show Int.toNat 0<0+1 from Nat.one_pos) ?_|(refine aa ?_ ?_<;>intro h))
     (conv=>whnf);first|refine bg [(0,_,_)] [] [true] ?_|refine bh [(0,_,_)] [] [true] ?_
     refine cG ?_
     rfl
    |cons y r=>
     refine ⟨rpR s (.tup [.agg (Rx.mk 3 0 0 (y::r++[x])).enc,.bool true]) m,?_,fun T H c g g4 es k hes hk=>?_⟩
     ·cases r with
      |nil=>rfl
      |cons z q=>rfl
     subst hes hk
     rw[bi,hax]
     have hl2:(y::r).length=r.length+1:=rfl
     generalize hxe:x.enc=xe at*
     obtain ⟨k,lo,hi,l⟩:=x
     rw[bi] at hxe
     subst hxe
     refine evl ?_
     repeat' (first|refine ae ?_|refine kX [(0,_,_)] [] ⟨rfl,trivial⟩ trivial (hq) ?_|refine kX [(0,_,_)] [] ⟨rfl,trivial⟩ trivial (h1) ?_|(refine aa ?_ ?_<;>intro h))
     refine jL [(200,_,_)] [5,4] [0,68] ⟨rfl,frP,trivial⟩ ?_;repeat ((conv=>whnf);first|refine frA ?_|intro T H)
     (conv=>whnf);first|refine bg [(0,_,_)] [] [true] ?_|refine bh [(0,_,_)] [] [true] ?_
     refine cG ?_
     rfl
theorem tk (s:List UInt8) (hs:s.length<2^32) (item:PR) (lv:Int) (hp:Pos s item) (hA: ∀n,n≤s.length→f9 651 s lv n (item n)) (n:Nat) (hn:n≤s.length):f9 641 s lv n (fY 3 (dY s item 32 (s.length+1) [] n)):=by
 obtain ⟨t,h1,h2⟩:=wl s hs item lv hp hA (s.length+1) [] n (by omega) hn (by simp)
 refine NU h1 ?_
 refine ab (F:=Xc) rfl rfl (am 300 _ _ _ _ ?_)
 repeat' (first|refine ae ?_|(refine aa ?_ ?_<;>intro h))
 refine ka 200 4 [(6,.vs 200 _ 0)] [] ⟨LeP.nilV _ _ _,trivial⟩ trivial ?_
 refine ah [4,0,6,1] [0,68,200] ?_
 exact h2 _ _ _ _ _ _ _ rfl rfl
theorem wn (s:List UInt8) (hs:s.length<2^32) (item:PR) (lv:Int) (hp:Pos s item) (hA: ∀n,n≤s.length→f9 641 s lv n (item n)): ∀(f:Nat) (acc:List Rx) (n:Nat) (hf:s.length<f+n) (hn:n≤s.length) (hac:acc.length+f≤s.length+1),∃t,QD s (fY 4 (dY s item 124 f acc n)) t∧ ∀(T:List (Nat×AV)) (H:ax) (c g g4:Nat) (es:List (List AV)) (k:Nat) (hes:es=acc.map Rx.enc) (hk:k=acc.length),Ev G ⟨Xx,⟨(4,.ref 68 g4 0)::(0,.ref 0 0 0)::(6,.vs 200 g k)::(1,.int .i64 lv)::T,(0,some (0,.cells [.str s,.int .i64 (n:Int)]))::(68,some (g4,.cells [.int .i64 0,.int .i64 0,.int .i64 0,.con (.slice none 0 0)]))::(200,some (g,.vec 4 es))::H,c⟩,[.cell 4 (some 4),.t 5],1⟩ t
 |0,acc,n,hf,hn,hac=>by omega
 |f+1,acc,n,hf,hn,hac=>by
  have hq:=hA n hn
  rw[dY]
  have hl:(acc.map Rx.enc).length=acc.length:=by simp
  cases ha:item n with
  |none=>
   rw[ha] at hq
   obtain ⟨x,m,hm,hq⟩:=hq
   refine ⟨_,⟨rx0,m,hm,rfl⟩,fun T H c g g4 es k hes hk=>?_⟩
   subst hes hk
   have hpx:=cm x
   generalize hxe:x.enc=xe at*
   obtain ⟨k,lo,hi,l⟩:=x
   rw[bi] at hxe
   subst hxe
   rw[kp]
   refine evl ?_
   repeat' (first|refine ae ?_|refine kX [(0,_,_)] [] ⟨rfl,trivial⟩ trivial (hq) ?_|(refine aa ?_ ?_<;>intro h))
   refine ec [] [(68,some (_,.cells ([.int .i64 0,.int .i64 0,.int .i64 0,.sl 4 []])))] trivial ⟨⟨rfl,leA⟩,trivial⟩ ?_
   (conv=>whnf);first|refine bg [(0,_,_)] [] [true] ?_|refine bh [(0,_,_)] [] [true] ?_
   refine cG ?_
   rfl
  |some p=>
   obtain ⟨x,m⟩:=p
   rw[ha] at hq
   obtain ⟨p1,p2,_⟩:=hp _ _ _ hn ha
   simp only[f9] at hq
   dsimp only
   have hpx:=cm x
   have hax:(acc++[x]).map Rx.enc=acc.map Rx.enc++[x.enc]:=by simp
   by_cases hc:chr s m 124=true
   ·rw[if_pos hc]
    have hlt:=cX hc
    have h1:aq G 642 [.ref 0 0 0,.int .u8 124] [.cells [.str s,.int .i64 ((m:Nat):Int)]] (rpR s (.bool true) (m+1)):=by
     have:=br s (by omega) 124 m (by omega)
     rwa [hc,if_pos rfl] at this
    obtain ⟨t,h2,h3⟩:=wn s hs item lv hp hA f (acc++[x]) (m+1) (by omega) (by omega) (by simp;omega)
    refine ⟨t,h2,fun T H c g g4 es k hes hk=>?_⟩
    subst hes hk
    rw[hax] at h3
    generalize hxe:x.enc=xe at*
    obtain ⟨k,lo,hi,l⟩:=x
    rw[bi] at hxe
    subst hxe
    refine evl ?_
    repeat' (first|refine ae ?_|refine kX [(0,_,_)] [] ⟨rfl,trivial⟩ trivial (hq) ?_|refine kX [(0,_,_)] [] ⟨rfl,trivial⟩ trivial (h1) ?_|(refine aa ?_ ?_<;>intro h))
    refine ah [4,0,6,1] [0,68,200] ?_
    exact h3 _ _ _ _ _ _ _ rfl (by simp)
   ·rw[if_neg hc]
    rw[Bool.not_eq_true] at hc
    have h1:aq G 642 [.ref 0 0 0,.int .u8 124] [.cells [.str s,.int .i64 ((m:Nat):Int)]] (rpR s (.bool false) m):=by
     have:=br s (by omega) 124 m (by omega)
     rwa [hc,if_neg (by simp)] at this
    cases acc with
    |nil=>
     refine ⟨rpR s (.tup [.agg x.enc,.bool true]) m,rfl,fun T H c g g4 es k hes hk=>?_⟩
     obtain rfl:es= []:=hes
     obtain rfl:k=0:=hk
     generalize hxe:x.enc=xe at*
     obtain ⟨k,lo,hi,l⟩:=x
     rw[bi] at hxe
     subst hxe
     refine evl ?_
     repeat' (first|refine ae ?_|refine kX [(0,_,_)] [] ⟨rfl,trivial⟩ trivial (hq) ?_|refine kX [(0,_,_)] [] ⟨rfl,trivial⟩ trivial (h1) ?_|refine And.intro (show Int.toNat 0<0+1 from Nat.one_pos) ?_|(refine aa ?_ ?_<;>intro h))
     (conv=>whnf);first|refine bg [(0,_,_)] [] [true] ?_|refine bh [(0,_,_)] [] [true] ?_
     refine cG ?_
     rfl
    |cons y r=>
     refine ⟨rpR s (.tup [.agg (Rx.mk 4 0 0 (y::r++[x])).enc,.bool true]) m,?_,fun T H c g g4 es k hes hk=>?_⟩
     ·cases r with
      |nil=>rfl
      |cons z q=>rfl
     subst hes hk
     rw[bi,hax]
     have hl2:(y::r).length=r.length+1:=rfl
     generalize hxe:x.enc=xe at*
     obtain ⟨k,lo,hi,l⟩:=x
     rw[bi] at hxe
     subst hxe
     refine evl ?_
     repeat' (first|refine ae ?_|refine kX [(0,_,_)] [] ⟨rfl,trivial⟩ trivial (hq) ?_|refine kX [(0,_,_)] [] ⟨rfl,trivial⟩ trivial (h1) ?_|(refine aa ?_ ?_<;>intro h))
     refine jL [(200,_,_)] [5,4] [0,68] ⟨rfl,frP,trivial⟩ ?_;repeat ((conv=>whnf);first|refine frA ?_|intro T H)
     (conv=>whnf);first|refine bg [(0,_,_)] [] [true] ?_|refine bh [(0,_,_)] [] [true] ?_
     refine cG ?_
     rfl
theorem tl (s:List UInt8) (hs:s.length<2^32) (item:PR) (lv:Int) (hp:Pos s item) (hA: ∀n,n≤s.length→f9 641 s lv n (item n)) (n:Nat) (hn:n≤s.length):f9 616 s lv n (fY 4 (dY s item 124 (s.length+1) [] n)):=by
 obtain ⟨t,h1,h2⟩:=wn s hs item lv hp hA (s.length+1) [] n (by omega) hn (by simp)
 refine NU h1 ?_
 refine ab (F:=Xy) rfl rfl (am 300 _ _ _ _ ?_)
 repeat' (first|refine ae ?_|(refine aa ?_ ?_<;>intro h))
 refine ka 200 4 [(6,.vs 200 _ 0)] [] ⟨LeP.nilV _ _ _,trivial⟩ trivial ?_
 refine ah [4,0,6,1] [0,68,200] ?_
 exact h2 _ _ _ _ _ _ _ rfl rfl
theorem sB (s:List UInt8) (hs:s.length<2^32): ∀(k:Nat) (lv:Int) (hk:lv+k=33) (h0:0≤lv) (n:Nat) (hn:n≤s.length),f9 616 s lv n (cI s (ij s) k n)
 |0,lv,hk,h0,n,hn=>by
  have h1: ∀n,n≤s.length→f9 656 s lv n ((fun _=>none:PR) n):=fun n hn=>KY s lv (by omega) n hn
  have p1:Pos s (fun _=>none:PR):=fun n x m _ h=>by cases h
  have h2:=qY s (by omega) (fun _=>none) lv p1 h1
  have h3: ∀n,n≤s.length→f9 641 s lv n (jA s (dQ s (fun _=>none)) n):=fun n hn=>tk s hs _ lv (kO p1) h2 n hn
  have h4:=tl s hs _ lv (sR hs (kO p1)) h3 n hn
  have e:fY 4 (dY s (jA s (dQ s (fun _=>none))) 124 (s.length+1) [] n)=none:=by simp[dY,jA,dQ,fY]
  rw[e] at h4
  exact h4
 |k+1,lv,hk,h0,n,hn=>by
  have pa:=pr hs (uc s) k
  have h1: ∀n,n≤s.length→f9 656 s lv n (cH s (ij s) (cI s (ij s) k) n):=fun n hn=>D8 s (by omega) _ lv (by omega) h0 pa (fun n hn=>sB s hs k (lv+1) (by omega) (by omega) n hn) n hn
  have p1:=vL (uc s) pa
  have h2:=qY s (by omega) _ lv p1 h1
  have h3: ∀n,n≤s.length→f9 641 s lv n (jA s (dQ s (cH s (ij s) (cI s (ij s) k))) n):=fun n hn=>tk s hs _ lv (kO p1) h2 n hn
  rw[cI]
  exact tl s hs _ lv (sR hs (kO p1)) h3 n hn
end Go.AM.IR
namespace Go.AM.IR
theorem Im (k lo hi:Int) (l:List Rx) (hl:l.length<2^40): ∃e:Int,aq G 652 [.agg [.int .i64 k,.int .i64 lo,.int .i64 hi,.sl 4 (l.map Rx.enc)]] [] ⟨.int .i64 e,[]⟩∧(e=0↔bm k lo hi l.length=true):=by
 have m1:(l.map Rx.enc).length=l.length:=by simp
 obtain ⟨N,hN⟩: ∃N,N=l.length:=⟨_,rfl⟩
 rw[←hN] at m1 hl⊢
 by_cases k1:k=1
 ·subst k1
  by_cases a:lo<0
  ·refine ⟨5,?_,by simp[bm];omega⟩
   exact gvA (F:=db)
  by_cases b:lo>hi
  ·refine ⟨5,?_,by simp[bm];omega⟩
   exact gvA (F:=db)
  by_cases c:hi>4294967295
  ·refine ⟨5,?_,by simp[bm];omega⟩
   exact gvA (F:=db)
  by_cases d:(N:Int)>0
  ·refine ⟨1,?_,by simp[bm];omega⟩
   exact gvA (F:=db)
  ·refine ⟨0,?_,by simp[bm];omega⟩
   exact gvA (F:=db)
 by_cases k0:k=0
 ·subst k0
  by_cases d:(N:Int)>0
  ·refine ⟨1,?_,by simp[bm];omega⟩
   exact gvA (F:=db)
  by_cases a:lo=0
  ·by_cases b:hi=0
   ·refine ⟨0,?_,by simp[bm,a,b];omega⟩
    exact gvA (F:=db)
   ·refine ⟨1,?_,by simp[bm,a,b]⟩
    exact gvA (F:=db)
  ·refine ⟨1,?_,by simp[bm,a]⟩
   exact gvA (F:=db)
 by_cases k2:k=2
 ·subst k2
  by_cases d:(N:Int)>0
  ·refine ⟨1,?_,by simp[bm];omega⟩
   exact gvA (F:=db)
  by_cases a:lo=0
  ·by_cases b:hi=0
   ·refine ⟨0,?_,by simp[bm,a,b];omega⟩
    exact gvA (F:=db)
   ·refine ⟨1,?_,by simp[bm,a,b]⟩
    exact gvA (F:=db)
  ·refine ⟨1,?_,by simp[bm,a]⟩
   exact gvA (F:=db)
 by_cases k3:k=3
 ·subst k3
  by_cases d:(N:Int)<2
  ·refine ⟨1,?_,by simp[bm];omega⟩
   exact gvA (F:=db)
  by_cases a:lo=0
  ·by_cases b:hi=0
   ·refine ⟨0,?_,by simp[bm,a,b];omega⟩
    exact gvA (F:=db)
   ·refine ⟨1,?_,by simp[bm,a,b]⟩
    exact gvA (F:=db)
  ·refine ⟨1,?_,by simp[bm,a]⟩
   exact gvA (F:=db)
 by_cases k4:k=4
 ·subst k4
  by_cases d:(N:Int)=1
  ·refine ⟨1,?_,by simp[bm];omega⟩
   exact gvA (F:=db)
  by_cases a:lo=0
  ·by_cases b:hi=0
   ·refine ⟨0,?_,by simp[bm,a,b];omega⟩
    exact gvA (F:=db)
   ·refine ⟨1,?_,by simp[bm,a,b]⟩
    exact gvA (F:=db)
  ·refine ⟨1,?_,by simp[bm,a]⟩
   exact gvA (F:=db)
 by_cases k5:k=5
 ·subst k5
  by_cases d: ¬(N:Int)=1
  ·refine ⟨1,?_,by simp[bm];omega⟩
   exact gvA (F:=db)
  by_cases a:lo=0
  ·by_cases b:hi=0
   ·refine ⟨0,?_,by simp[bm,a,b];omega⟩
    exact gvA (F:=db)
   ·refine ⟨1,?_,by simp[bm,a,b]⟩
    exact gvA (F:=db)
  ·refine ⟨1,?_,by simp[bm,a]⟩
   exact gvA (F:=db)
 by_cases k6:k=6
 ·subst k6
  by_cases d: ¬(N:Int)=1
  ·refine ⟨1,?_,by simp[bm];omega⟩
   exact gvA (F:=db)
  by_cases a:lo=0
  ·by_cases b:hi=0
   ·refine ⟨0,?_,by simp[bm,a,b];omega⟩
    exact gvA (F:=db)
   ·refine ⟨1,?_,by simp[bm,a,b]⟩
    exact gvA (F:=db)
  ·refine ⟨1,?_,by simp[bm,a]⟩
   exact gvA (F:=db)
 by_cases k7:k=7
 ·subst k7
  by_cases d: ¬(N:Int)=1
  ·refine ⟨1,?_,by simp[bm];omega⟩
   exact gvA (F:=db)
  by_cases a:lo=0
  ·by_cases b:hi=0
   ·refine ⟨0,?_,by simp[bm,a,b];omega⟩
    exact gvA (F:=db)
   ·refine ⟨1,?_,by simp[bm,a,b]⟩
    exact gvA (F:=db)
  ·refine ⟨1,?_,by simp[bm,a]⟩
   exact gvA (F:=db)
 refine ⟨15,?_,by simp[bm,k0,k1,k2,k3,k4];omega⟩
 exact gvA (F:=db)
def RT (o:Option Nat) (n e:Int):Prop:=match o with
 |some c=>n=c∧e=0
 |none=>e≠0
end Go.AM.IR
namespace Go.AM.IR
mutual
theorem sv: ∀ {x:Rx} {lv c c':Nat},chk x lv c=some c'→c'≤64
 | .mk k lo hi l,lv,c,c',h=>by
  rw[chk] at h
  split at h
  ·cases h
  ·split at h
   ·cases h
   ·split at h
    ·exact Pg (by omega) h
    ·cases h
theorem Pg: ∀ {l:List Rx} {lv c c':Nat},c≤64→gG l lv c=some c'→c'≤64
 | [],_,_,_,hc,h=>by rw[gG] at h;cases h;exact hc
 |x::r,lv,c,c',hc,h=>by
  rw[gG] at h
  split at h
  ·rename_i c1 h1
   exact Pg (sv h1) h
  ·cases h
end
def yg (x:Rx) (lv:Nat):Prop:= ∀c:Nat,c≤64→ ∃n e:Int,RT (chk x lv c) n e∧aq G 643 [.agg x.enc,.int .i64 (lv:Int),.int .i64 (c:Int)] [] ⟨.tup [.int .i64 n,.int .i64 e],[]⟩
theorem tU (l:List Rx) (hl:l.length<2^40) (lv:Nat) (hlv:lv≤16) (hk: ∀y∈l,yg y (lv+1)): ∀(rest done:List Rx) (c:Nat) (n:Int) (e:l=done++rest) (hn:n=done.length) (hc:c≤64),∃N E:Int,RT (gG rest (lv+1) c) N E∧ ∀(T:List (Nat×AV)) (H:ax) (ct:Nat),
  Ev G ⟨SK,⟨(30,.int .i64 n)::(2,.int .i64 (c:Int))::(1,.int .i64 (lv:Int))::(28,.sl 4 (l.map Rx.enc))::(29,.int .i64 l.length)::T,H,ct⟩,[.t 6,.t 7],0⟩ ⟨.tup [.int .i64 N,.int .i64 E],[]⟩
 | [],done,c,n,e,hn,hc=>by
  have hd:l.length=done.length:=by simp[e]
  refine ⟨c,0,by rw[gG];exact ⟨rfl,rfl⟩,fun T H ct=>?_⟩
  refine evl ?_
  repeat' (first|refine ae ?_|(refine aa ?_ ?_<;>intro h))
  refine ag ?_;rfl
 |x::r,done,c,n,e,hn,hc=>by
  have hd:l.length=done.length+(r.length+1):=by simp[e]
  have hll:(l.map Rx.enc).length=l.length:=by simp
  have hx:(l.map Rx.enc)[n.toNat]? =some x.enc:=by simp[e,hn]
  obtain ⟨n1,e1,h1,g1⟩:=hk x (by simp[e]) c hc
  have g1:aq G 643 [.agg x.enc,.int .i64 ((lv:Int)+1),.int .i64 (c:Int)] [] ⟨.tup [.int .i64 n1,.int .i64 e1],[]⟩:=g1
  have hpx:=cm x
  rw[gG]
  cases hq:chk x (lv+1) c with
  |none=>
   rw[hq] at h1
   have h1: ¬e1=0:=h1
   refine ⟨n1,e1,h1,fun T H ct=>?_⟩
   generalize hxe:x.enc=xe at*
   obtain ⟨k,lo,hi,q⟩:=x
   rw[bi] at hxe
   subst hxe
   refine evl ?_
   repeat' (first|refine ae ?_|(refine aa ?_ ?_<;>intro h))
   refine ag ?_;rfl
  |some c1=>
   rw[hq] at h1
   obtain ⟨rfl,rfl⟩:=h1
   obtain ⟨N,E,h2,h3⟩:=tU l hl lv hlv hk r (done++[x]) c1 (n+1) (by simp[e]) (by simp[hn]) (sv hq)
   refine ⟨N,E,h2,fun T H ct=>?_⟩
   generalize hxe:x.enc=xe at*
   obtain ⟨k,lo,hi,q⟩:=x
   rw[bi] at hxe
   subst hxe
   refine evl ?_
   repeat' (first|refine ae ?_|(refine aa ?_ ?_<;>intro h))
   refine ah [30,2,1,28,29] [] ?_
   exact h3 _ _ _
theorem aaX (k lo hi:Int) (l:List Rx) (hs:l.length<2^40) (lv:Nat) (hlv:lv≤17) (hk:lv≤16→ ∀y∈l,yg y (lv+1)):yg (.mk k lo hi l) lv:=by
 intro c hc
 have m1:(l.map Rx.enc).length=l.length:=by simp
 obtain ⟨e0,g0,h0⟩:=Im k lo hi l hs
 rw[chk,bi]
 by_cases a:16<lv
 ·rw[if_pos a]
  have a':(lv:Int)>16:=by omega
  refine ⟨c,24,(show (24:Int)≠0 by decide),?_⟩
  exact gvA (F:=zc)
 rw[if_neg a]
 by_cases b:64≤c
 ·rw[if_pos b]
  have b':(c:Int)≥64:=by omega
  refine ⟨c,4,(show (4:Int)≠0 by decide),?_⟩
  exact gvA (F:=zc)
 rw[if_neg b]
 by_cases d:bm k lo hi l.length=true
 ·rw[if_pos d]
  obtain rfl:e0=0:=h0.2 d
  obtain ⟨N,E,h2,h3⟩:=tU l hs lv (by omega) (hk (by omega)) l [] (c+1) 0 rfl rfl (by omega)
  refine ⟨N,E,h2,?_⟩
  refine ab (F:=zc) rfl rfl (am 300 _ _ _ _ ?_)
  repeat' (first|refine ae ?_|(refine aa ?_ ?_<;>intro h))
  refine ah [30,2,1,28,29] [] ?_
  rw[m1]
  exact h3 _ _ _
 ·rw[if_neg d]
  have d': ¬e0=0:=fun q=>d (h0.1 q)
  refine ⟨c,e0,d',?_⟩
  exact gvA (F:=zc)
mutual
theorem Pf: ∀(x:Rx),Sml x→ ∀lv:Nat,lv≤17→yg x lv
 | .mk k lo hi l,hs,lv,hlv=>aaX k lo hi l hs.len lv hlv fun h=>Ky l hs.kid (lv+1) (by omega)
theorem Ky: ∀(l:List Rx),(∀x∈l,Sml x)→ ∀lv:Nat,lv≤17→ ∀y∈l,yg y lv
 | [],_,_,_=>fun y hy=>by simp at hy
 |x::r,hs,lv,hlv=>fun y hy=>by
  have h1:=Pf x (hs x (by simp)) lv hlv
  rcases List.mem_cons.1 hy with q|q
  ·rw[q];exact h1
  ·exact Ky r (fun z hz=>hs z (by simp[hz])) lv hlv y q
end
theorem zU (x:Rx) (hs:Sml x): ∃e:Int,aq G 617 [.agg x.enc] [] ⟨.int .i64 e,[]⟩∧(e=0↔ (chk x 1 0).isSome=true):=by
 obtain ⟨n,e,h1,g1⟩:=Pf x hs 1 (by omega) 0 (by omega)
 have g1:aq G 643 [.agg x.enc,.int .i64 1,.int .i64 0] [] ⟨.tup [.int .i64 n,.int .i64 e],[]⟩:=g1
 refine ⟨e,?_,?_⟩
 ·generalize hxe:x.enc=xe at*
  obtain ⟨k,lo,hi,q⟩:=x
  rw[bi] at hxe
  subst hxe
  exact gvA (F:=Xw)
 ·cases hq:chk x 1 0 with
  |none=>rw[hq] at h1;simp;exact h1
  |some c=>rw[hq] at h1;simp;exact h1.2
end Go.AM.IR
namespace Go.AM.IR
section
variable {kv:AV→Prop} {k:Eff→Prop} {x:Opd} {g key:Nat} {hg:Nat→Option (Nat×Blk)} {n d:Nat}
theorem z8 {v:Int} (h0:0≤v) (h1:v<18446744073709551616):IntKind.wrap .u64 v=v:=by
 simp[IntKind.wrap,IntKind.bits,IntKind.signed];omega
theorem Vi (hn:n<18446744073709551616) (h:kv (.int .u64 ((n % 10:Nat):Int))): ∃v,bv .rem (.int .u64 (n:Int)) (.int .u64 10)=some v∧kv v:=by
 refine ⟨_,?_,h⟩
 simp only[bv]
 simp only[ne_eq,not_true_eq_false,if_false,reduceIte]
 rw[if_neg (by decide)]
 have e:(n:Int).tmod 10=((n % 10:Nat):Int):=by rw[Int.tmod_eq_emod_of_nonneg (by omega)];omega
 rw[e]
theorem zQuo (hn:n<18446744073709551616) (h:kv (.int .u64 ((n/ 10:Nat):Int))): ∃v,bv .quo (.int .u64 (n:Int)) (.int .u64 10)=some v∧kv v:=by
 refine ⟨_,?_,h⟩
 simp only[bv]
 simp only[ne_eq,not_true_eq_false,if_false,reduceIte]
 rw[if_neg (by decide)]
 have e:(n:Int).tdiv 10=((n/ 10:Nat):Int):=by rw[Int.tdiv_eq_ediv_of_nonneg (by omega)];omega
 rw[e,z8 (by omega) (by omega)]
theorem PM (hd:d<10) (h:kv (.int .u64 ((48+d:Nat):Int))): ∃v,bv .add (.int .u64 48) (.int .u64 (d:Int))=some v∧kv v:=by
 refine ⟨_,?_,h⟩
 show some (AV.int .u64 (IntKind.wrap .u64 (48+(d:Int))))=_
 rw[z8 (by omega) (by omega)];simp
theorem Vj (hd:d<10) (h:k {res:=.int .u8 ((UInt8.ofNat (48+d)).toNat:Int)}): ∃e,aH (.conv .u8 x) g key [.int .u64 ((48+d:Nat):Int)] hg=some e∧k e:=by
 refine ⟨_,?_,h⟩
 have e:(UInt8.ofNat (48+d)).toNat=48+d:=by rw[UInt8.toNat_ofNat'];omega
 show some ({res:=AV.int .u8 (IntKind.wrap .u8 ((48+d:Nat):Int))}:Eff)=_
 rw[e,sJ (by omega) (by omega)]
end
theorem xX {f n:Nat} (h:n<10):dC f n= [UInt8.ofNat (48+n)]:=by
 cases f<;>simp[dC,h]
theorem J9: ∀(f n:Nat),(dC f n).length≤f+1
 |0,n=>by simp[dC]
 |f+1,n=>by
  have:=J9 f (n/ 10)
  simp only[dC]
  split
  ·simp
  ·simp;omega
theorem J7: ∀(f n:Nat),f<2^40→n<10^ (f+1)→n<18446744073709551616→aq G 344 [.int .u64 (n:Int)] [] ⟨.str (dC f n),[]⟩:=by
 intro f
 induction f with
 |zero=>
  intro n _ h h2
  have hn:n<10:=by simpa using h
  rw[xX hn]
  have hd:n % 10<10:=by omega
  have hlt:(n:Int)<10:=by omega
  have e:UInt8.ofNat (48+n)=UInt8.ofNat (48+n % 10):=by rw[Nat.mod_eq_of_lt hn]
  rw[e]
  refine ab (F:=JO) rfl rfl (am 300 _ _ _ _ ?_)
  repeat' ((conv=>whnf);first|refine Vi h2 ?_|refine PM hd ?_|refine Vj hd ?_|refine zBv (l:=[UInt8.ofNat (48+n % 10)]) rfl rfl ?_|refine ay ?_|(refine aa ?_ ?_<;>intro h))
  refine ag ?_;rfl
 |succ f ih=>
  intro n hf h h2
  have hd:n % 10<10:=by omega
  by_cases hn:n<10
  ·rw[xX hn]
   have hlt:(n:Int)<10:=by omega
   have e:UInt8.ofNat (48+n)=UInt8.ofNat (48+n % 10):=by rw[Nat.mod_eq_of_lt hn]
   rw[e]
   refine ab (F:=JO) rfl rfl (am 300 _ _ _ _ ?_)
   repeat' ((conv=>whnf);first|refine Vi h2 ?_|refine PM hd ?_|refine Vj hd ?_|refine zBv (l:=[UInt8.ofNat (48+n % 10)]) rfl rfl ?_|refine ay ?_|(refine aa ?_ ?_<;>intro h))
   refine ag ?_;rfl
  ·have hlt: ¬(n:Int)<10:=by omega
   have h1:=ih (n/ 10) (by omega) (by rw[Nat.pow_succ] at h;omega) (by omega)
   have e:dC (f+1) n=dC f (n/ 10)++[UInt8.ofNat (48+n % 10)]:=by simp[dC,hn]
   rw[e]
   have hwl:=J9 f (n/ 10)
   generalize dC f (n/ 10)=w at*
   have hul: [UInt8.ofNat (48+n % 10)].length=1:=rfl
   refine ab (F:=JO) rfl rfl (am 300 _ _ _ _ ?_)
   repeat' ((conv=>whnf);first|refine Vi h2 ?_|refine PM hd ?_|refine Vj hd ?_|refine zBv (l:=[UInt8.ofNat (48+n % 10)]) rfl rfl ?_|refine zQuo h2 ?_|refine ii ?_|refine ay ?_|(refine aa ?_ ?_<;>intro h))
   refine ag ?_;rfl
theorem re (a:Int) (h0:0≤a) (h1:a≤4294967295):aq G 338 [.int .i64 a] [] ⟨.str (aU a),[]⟩:=by
 have h:=J7 19 a.toNat (by omega) (by omega) (by omega)
 have e:((a.toNat:Nat):Int)=a:=by omega
 rw[e] at h
 have e2:aU a=dC 19 a.toNat:=by unfold aU;rw[if_neg (by omega)]
 rw[e2]
 generalize dC 19 a.toNat=w at*
 exact gvA (F:=f338)
end Go.AM.IR
namespace Go.AM.IR
set_option linter.unusedVariables false
theorem Cp: ∀(f m n:Nat),n<10^ (m+1)→(dC f n).length≤m+1
 |0,m,n,h=>by simp[dC]
 |f+1,m,n,h=>by
  simp only[dC]
  split
  ·simp
  ·rename_i hn
   cases m with
   |zero=>simp at h;omega
   |succ m=>
    have:=Cp f m (n/ 10) (by rw[Nat.pow_succ] at h;omega)
    simp;omega
theorem kM {a:Int} (h0:0≤a) (h1:a≤4294967295):(aU a).length≤10:=by
 unfold aU
 rw[if_neg (by omega)]
 exact Cp 19 9 a.toNat (by omega)
def dU:List (List UInt8)→Nat
 | []=>0
 |p::r=>p.length+1+dU r
theorem rX {c:UInt8}: ∀ps:List (List UInt8),(cP c ps).length≤dU ps
 | []=>by simp[cP]
 | [p]=>by simp[cP,dU]
 |p::q::qs=>by
  have:=rX (c:=c) (q::qs)
  rw[jK,dU];simp;omega
theorem WN (p:Int) (x:Rx) (l:List UInt8):(da p x l).length≤l.length+2:=by
 unfold da
 split
 ·simp
 ·omega
mutual
theorem aao: ∀(x:Rx) {lv c c':Nat},chk x lv c=some c'→(pat aU x).length+3+32*c≤32*c'
 | .mk k lo hi l,lv,c,c',h=>by
  rw[chk] at h
  split at h
  ·cases h
  ·split at h
   ·cases h
   ·split at h
    ·rename_i hn
     have h1:=n6 k l h
     rw[pat]
     generalize hps:bt aU k l=ps at*
     have h2:=rX (c:=32) ps
     have h3:=rX (c:=124) ps
     have h4:(ps.headD []).length≤dU ps:=by cases ps<;>simp[dU];omega
     unfold bm at hn
     unfold de
     split
     ·simp;omega
     split
     ·rename_i h0 hk1
      rw[if_pos hk1] at hn
      have hn:=of_decide_eq_true hn
      have i1:=kM (a:=lo) hn.1 (by omega)
      have i2:=kM (a:=hi) (by omega) hn.2.2.1
      split
      ·omega
      ·simp;omega
     split
     ·simp;omega
     split
     ·omega
     split
     ·split
      ·simp;omega
      ·omega
     split
     ·simp at h4⊢;omega
     split
     ·simp at h4⊢;omega
     ·simp at h4⊢;omega
    ·cases h
theorem n6 (k:Int): ∀(l:List Rx) {lv c c':Nat},gG l lv c=some c'→dU (bt aU k l)+32*c≤32*c'
 | [],lv,c,c',h=>by rw[gG] at h;cases h;rw[bt];simp[dU]
 |x::r,lv,c,c',h=>by
  rw[gG] at h
  split at h
  ·rename_i c1 h1
   have h2:=aao x h1
   have h3:=n6 k r h
   have h4:=WN k x (pat aU x)
   rw[bt,dU]
   omega
  ·cases h
end
end Go.AM.IR
