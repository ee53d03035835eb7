/- What the functions of this program give, on the abstract machine. -/
import Derived.Test.YtcmipbleijmpjaaGreatDoorDataG
set_option linter.unusedVariables false
set_option linter.unusedSimpArgs false
set_option maxHeartbeats 4000000
set_option maxRecDepth 20000
namespace Go.AM.IR
section
variable {k:Eff→Prop} {x y:Opd} {g key:Nat} {hg:Nat→Option (Nat×Blk)}
end
def dJ (b:UInt8):Bool:=b.toNat==45||(decide (48≤b.toNat)&&decide (b.toNat≤57))||(decide (97≤b.toNat)&&decide (b.toNat≤122))
def ur (s:List UInt8):Bool:=s.all dJ&&(decide (1≤s.length)&&decide ((s.length:Int)≤32))
theorem idx_at {s done rest:List UInt8} {x:UInt8} {n:Int} (e:s=done++x::rest) (hn:n=done.length):s[n.toNat]? =some x:=by
 rw[e,hn];simp
theorem lj (s:List UInt8) (hs:s.length<2^40): ∀(rest done:List UInt8) (T:List (Nat×AV)) (H:ax) (c:Nat) (n:Int) (e:s=done++rest) (hn:n=done.length),
  Ev G ⟨Yw,⟨(6,.int .i64 n)::(0,.str s)::(5,.int .i64 s.length)::T,H,c⟩,[.t 2],0⟩ ⟨.bool (rest.all dJ&&(decide (1≤s.length)&&decide ((s.length:Int)≤32))),[]⟩
 | [],done,T,H,c,n,e,hn=>by
  have hd:s.length=done.length:=by simp[e]
  by_cases h1:1≤s.length
  ·rw[decide_eq_true h1]
   refine evl ?_
   repeat' (first|refine ae ?_|(refine aa ?_ ?_<;>intro h))
   refine ag ?_;rfl
  ·rw[decide_eq_false h1]
   refine evl ?_
   repeat' (first|refine ae ?_|(refine aa ?_ ?_<;>intro h))
   refine ag ?_;rfl
 |x::rest,done,T,H,c,n,e,hn=>by
  have hd:s.length=done.length+(rest.length+1):=by simp[e]
  have hb:=idx_at e hn
  rw[List.all_cons]
  by_cases h0:x.toNat<45
  ·have hc:dJ x=false:=by unfold dJ;simp;omega
   rw[hc,Bool.false_and,Bool.false_and]
   refine evl ?_
   repeat' (first|refine cg ?_|(refine aa ?_ ?_<;>intro h))
   refine ag ?_;rfl
  by_cases h1:x.toNat=45
  ·have hc:dJ x=true:=by unfold dJ;simp;omega
   rw[hc,Bool.true_and]
   refine evl ?_
   repeat' (first|refine cg ?_|(refine aa ?_ ?_<;>intro h))
   refine ah [6,0,5] [] ?_
   exact lj s hs rest (done++[x]) _ _ _ (n+1) (by simp[e]) (by simp[hn])
  by_cases h2:x.toNat<48
  ·have hc:dJ x=false:=by unfold dJ;simp;omega
   rw[hc,Bool.false_and,Bool.false_and]
   refine evl ?_
   repeat' (first|refine cg ?_|(refine aa ?_ ?_<;>intro h))
   refine ag ?_;rfl
  by_cases h3:x.toNat≤57
  ·have hc:dJ x=true:=by unfold dJ;simp;omega
   rw[hc,Bool.true_and]
   refine evl ?_
   repeat' (first|refine cg ?_|(refine aa ?_ ?_<;>intro h))
   refine ah [6,0,5] [] ?_
   exact lj s hs rest (done++[x]) _ _ _ (n+1) (by simp[e]) (by simp[hn])
  by_cases h4:x.toNat<97
  ·have hc:dJ x=false:=by unfold dJ;simp;omega
   rw[hc,Bool.false_and,Bool.false_and]
   refine evl ?_
   repeat' (first|refine cg ?_|(refine aa ?_ ?_<;>intro h))
   refine ag ?_;rfl
  by_cases h5:x.toNat≤122
  ·have hc:dJ x=true:=by unfold dJ;simp;omega
   rw[hc,Bool.true_and]
   refine evl ?_
   repeat' (first|refine cg ?_|(refine aa ?_ ?_<;>intro h))
   refine ah [6,0,5] [] ?_
   exact lj s hs rest (done++[x]) _ _ _ (n+1) (by simp[e]) (by simp[hn])
  have hc:dJ x=false:=by unfold dJ;simp;omega
  rw[hc,Bool.false_and,Bool.false_and]
  refine evl ?_
  repeat' (first|refine cg ?_|(refine aa ?_ ?_<;>intro h))
  refine ag ?_;rfl
theorem GC (s:List UInt8) (hs:s.length<2^40):aq G 442 [.str s] [] ⟨.bool (ur s),[]⟩:=by
 refine ab (F:=Yx) rfl rfl (am 300 _ _ _ _ ?_)
 repeat' (first|refine ae ?_|(refine aa ?_ ?_<;>intro h))
 refine ah [6,0,5] [] ?_
 exact lj s hs s [] _ _ _ 0 rfl rfl
end Go.AM.IR
namespace Go.AM.IR
def f8:List Pol→List UInt8→Option Pol
 | [],_=>none
 |x::r,k=>if x.name=k then some x else f8 r k
def io:Option Pol→Ret
 |none=>⟨.tup [.agg [.str [],.con (.slice none 0 0),.int .i64 0],.bool false],[]⟩
 |some x=>⟨.tup [.agg x.enc,.bool true],[]⟩
theorem tw (l:List Pol) (k:List UInt8) (g:Nat) (hl:l.length<2^40) (ln:Int) (hln:ln=l.length): ∀(rest done:List Pol)  (T:List (Nat×AV)) (H:ax) (c:Nat) (n:Int) (e:l=done++rest) (hn:n=done.length),Ev G ⟨Yn,⟨(9,.sl 3 (l.map Pol.enc))::(10,.int .i64 ln)::(11,.int .i64 n)::(4,.ref 68 g 0)::(1,.str k)::T,(68,some (g,.cells [.str [],.con (.slice none 0 0),.int .i64 0]))::H,c⟩,[.cell 4 (some 3),.t 5],0⟩ (io (f8 rest k))
 | [],done,  T,H,c,n,e,hn=>by
  have hd:l.length=done.length:=by simp[e]
  have hll:(l.map Pol.enc).length=l.length:=by simp
  refine evl ?_
  repeat' (first|refine ae ?_|(refine aa ?_ ?_<;>intro h))
  refine ag ?_;(conv=>whnf);refine Go.AM.finC ?_;rfl
 |x::r,done,  T,H,c,n,e,hn=>by
  have hd:l.length=done.length+(r.length+1):=by simp[e]
  have hll:(l.map Pol.enc).length=l.length:=by simp
  have hx:(l.map Pol.enc)[n.toNat]? =some (Pol.enc x):=by simp[e,hn]
  by_cases hk:x.name=k
  ·rw[f8,if_pos hk]
   refine evl ?_
   repeat' (first|refine cg ?_|(refine aa ?_ ?_<;>intro h))
   refine ag ?_;(conv=>whnf);refine Go.AM.finC ?_;rfl
  ·rw[f8,if_neg hk]
   refine evl ?_
   repeat' (first|refine cg ?_|(refine aa ?_ ?_<;>intro h))
   refine ah [9,10,11,4,1] [68] ?_;exact tw l k g hl ln hln r (done++[x])  _ _ _ (n+1) (by simp[e]) (by simp[hn]<;>omega)
theorem nb (s:PSet) (hs:s.pols.length<2^40) (k:List UInt8):aq G 506 [.agg s.enc,.str k] [] (io (f8 s.pols k)):=by
 have hll:(s.pols.map Pol.enc).length=s.pols.length:=by simp
 refine ab (F:=Yo) rfl rfl (am 300 _ _ _ _ ?_)
 repeat' (first|refine ae ?_|(refine aa ?_ ?_<;>intro h))
 refine ah [9,10,11,4,1] [68] ?_
 rw[hll]
 exact tw s.pols k _ hs _ rfl s.pols [] _ _ _ 0 rfl rfl
def lZ:List PList→List UInt8→Option PList
 | [],_=>none
 |x::r,k=>if x.name=k then some x else lZ r k
def Qy:Option PList→Ret
 |none=>⟨.tup [.agg [.str [],.con (.slice none 0 0)],.bool false],[]⟩
 |some x=>⟨.tup [.agg x.enc,.bool true],[]⟩
theorem tz (l:List PList) (k:List UInt8) (g:Nat) (hl:l.length<2^40) (ln:Int) (hln:ln=l.length): ∀(rest done:List PList)  (T:List (Nat×AV)) (H:ax) (c:Nat) (n:Int) (e:l=done++rest) (hn:n=done.length),Ev G ⟨Xq,⟨(9,.sl 2 (l.map PList.enc))::(10,.int .i64 ln)::(11,.int .i64 n)::(4,.ref 68 g 0)::(1,.str k)::T,(68,some (g,.cells [.str [],.con (.slice none 0 0)]))::H,c⟩,[.cell 4 (some 2),.t 5],0⟩ (Qy (lZ rest k))
 | [],done,  T,H,c,n,e,hn=>by
  have hd:l.length=done.length:=by simp[e]
  have hll:(l.map PList.enc).length=l.length:=by simp
  refine evl ?_
  repeat' (first|refine ae ?_|(refine aa ?_ ?_<;>intro h))
  refine ag ?_;(conv=>whnf);refine Go.AM.finC ?_;rfl
 |x::r,done,  T,H,c,n,e,hn=>by
  have hd:l.length=done.length+(r.length+1):=by simp[e]
  have hll:(l.map PList.enc).length=l.length:=by simp
  have hx:(l.map PList.enc)[n.toNat]? =some (PList.enc x):=by simp[e,hn]
  by_cases hk:x.name=k
  ·rw[lZ,if_pos hk]
   refine evl ?_
   repeat' (first|refine cg ?_|(refine aa ?_ ?_<;>intro h))
   refine ag ?_;(conv=>whnf);refine Go.AM.finC ?_;rfl
  ·rw[lZ,if_neg hk]
   refine evl ?_
   repeat' (first|refine cg ?_|(refine aa ?_ ?_<;>intro h))
   refine ah [9,10,11,4,1] [68] ?_;exact tz l k g hl ln hln r (done++[x])  _ _ _ (n+1) (by simp[e]) (by simp[hn]<;>omega)
theorem F5 (s:PSet) (hs:s.prefixes.length<2^40) (k:List UInt8):aq G 620 [.agg s.enc,.str k] [] (Qy (lZ s.prefixes k)):=by
 have hll:(s.prefixes.map PList.enc).length=s.prefixes.length:=by simp
 refine ab (F:=Xu) rfl rfl (am 300 _ _ _ _ ?_)
 repeat' (first|refine ae ?_|(refine aa ?_ ?_<;>intro h))
 refine ah [9,10,11,4,1] [68] ?_
 rw[hll]
 exact tz s.prefixes k _ hs _ rfl s.prefixes [] _ _ _ 0 rfl rfl
def l6:List PathL→List UInt8→Option PathL
 | [],_=>none
 |x::r,k=>if x.name=k then some x else l6 r k
def QB:Option PathL→Ret
 |none=>⟨.tup [.agg [.str [],.con (.slice none 0 0)],.bool false],[]⟩
 |some x=>⟨.tup [.agg x.enc,.bool true],[]⟩
theorem tC (l:List PathL) (k:List UInt8) (g:Nat) (hl:l.length<2^40) (ln:Int) (hln:ln=l.length): ∀(rest done:List PathL)  (T:List (Nat×AV)) (H:ax) (c:Nat) (n:Int) (e:l=done++rest) (hn:n=done.length),Ev G ⟨Xo,⟨(9,.sl 2 (l.map PathL.enc))::(10,.int .i64 ln)::(11,.int .i64 n)::(4,.ref 68 g 0)::(1,.str k)::T,(68,some (g,.cells [.str [],.con (.slice none 0 0)]))::H,c⟩,[.cell 4 (some 2),.t 5],0⟩ (QB (l6 rest k))
 | [],done,  T,H,c,n,e,hn=>by
  have hd:l.length=done.length:=by simp[e]
  have hll:(l.map PathL.enc).length=l.length:=by simp
  refine evl ?_
  repeat' (first|refine ae ?_|(refine aa ?_ ?_<;>intro h))
  refine ag ?_;(conv=>whnf);refine Go.AM.finC ?_;rfl
 |x::r,done,  T,H,c,n,e,hn=>by
  have hd:l.length=done.length+(r.length+1):=by simp[e]
  have hll:(l.map PathL.enc).length=l.length:=by simp
  have hx:(l.map PathL.enc)[n.toNat]? =some (PathL.enc x):=by simp[e,hn]
  by_cases hk:x.name=k
  ·rw[l6,if_pos hk]
   refine evl ?_
   repeat' (first|refine cg ?_|(refine aa ?_ ?_<;>intro h))
   refine ag ?_;(conv=>whnf);refine Go.AM.finC ?_;rfl
  ·rw[l6,if_neg hk]
   refine evl ?_
   repeat' (first|refine cg ?_|(refine aa ?_ ?_<;>intro h))
   refine ah [9,10,11,4,1] [68] ?_;exact tC l k g hl ln hln r (done++[x])  _ _ _ (n+1) (by simp[e]) (by simp[hn]<;>omega)
theorem F7 (s:PSet) (hs:s.paths.length<2^40) (k:List UInt8):aq G 621 [.agg s.enc,.str k] [] (QB (l6 s.paths k)):=by
 have hll:(s.paths.map PathL.enc).length=s.paths.length:=by simp
 refine ab (F:=Xp) rfl rfl (am 300 _ _ _ _ ?_)
 repeat' (first|refine ae ?_|(refine aa ?_ ?_<;>intro h))
 refine ah [9,10,11,4,1] [68] ?_
 rw[hll]
 exact tC s.paths k _ hs _ rfl s.paths [] _ _ _ 0 rfl rfl
def me:List ComL→List UInt8→Option ComL
 | [],_=>none
 |x::r,k=>if x.name=k then some x else me r k
def Rn:Option ComL→Ret
 |none=>⟨.tup [.agg [.str [],.con (.slice none 0 0)],.bool false],[]⟩
 |some x=>⟨.tup [.agg x.enc,.bool true],[]⟩
theorem tR (l:List ComL) (k:List UInt8) (g:Nat) (hl:l.length<2^40) (ln:Int) (hln:ln=l.length): ∀(rest done:List ComL)  (T:List (Nat×AV)) (H:ax) (c:Nat) (n:Int) (e:l=done++rest) (hn:n=done.length),Ev G ⟨Xm,⟨(9,.sl 2 (l.map ComL.enc))::(10,.int .i64 ln)::(11,.int .i64 n)::(4,.ref 68 g 0)::(1,.str k)::T,(68,some (g,.cells [.str [],.con (.slice none 0 0)]))::H,c⟩,[.cell 4 (some 2),.t 5],0⟩ (Rn (me rest k))
 | [],done,  T,H,c,n,e,hn=>by
  have hd:l.length=done.length:=by simp[e]
  have hll:(l.map ComL.enc).length=l.length:=by simp
  refine evl ?_
  repeat' (first|refine ae ?_|(refine aa ?_ ?_<;>intro h))
  refine ag ?_;(conv=>whnf);refine Go.AM.finC ?_;rfl
 |x::r,done,  T,H,c,n,e,hn=>by
  have hd:l.length=done.length+(r.length+1):=by simp[e]
  have hll:(l.map ComL.enc).length=l.length:=by simp
  have hx:(l.map ComL.enc)[n.toNat]? =some (ComL.enc x):=by simp[e,hn]
  by_cases hk:x.name=k
  ·rw[me,if_pos hk]
   refine evl ?_
   repeat' (first|refine cg ?_|(refine aa ?_ ?_<;>intro h))
   refine ag ?_;(conv=>whnf);refine Go.AM.finC ?_;rfl
  ·rw[me,if_neg hk]
   refine evl ?_
   repeat' (first|refine cg ?_|(refine aa ?_ ?_<;>intro h))
   refine ah [9,10,11,4,1] [68] ?_;exact tR l k g hl ln hln r (done++[x])  _ _ _ (n+1) (by simp[e]) (by simp[hn]<;>omega)
theorem Kh (s:PSet) (hs:s.comms.length<2^40) (k:List UInt8):aq G 622 [.agg s.enc,.str k] [] (Rn (me s.comms k)):=by
 have hll:(s.comms.map ComL.enc).length=s.comms.length:=by simp
 refine ab (F:=Xn) rfl rfl (am 300 _ _ _ _ ?_)
 repeat' (first|refine ae ?_|(refine aa ?_ ?_<;>intro h))
 refine ah [9,10,11,4,1] [68] ?_
 rw[hll]
 exact tR s.comms k _ hs _ rfl s.comms [] _ _ _ 0 rfl rfl
def eK (k:Int):Ret:=
 if k=4 then ⟨.tup [.int .i64 1,.int .i64 7,.bool true],[]⟩ else if k=5 then ⟨.tup [.int .i64 0,.int .i64 4294967295,.bool true],[]⟩ else
 if k=6 then ⟨.tup [.int .i64 0,.int .i64 16777216,.bool true],[]⟩ else if k=8 then ⟨.tup [.int .i64 0,.int .i64 2000,.bool true],[]⟩ else ⟨.tup [.int .i64 0,.int .i64 0,.bool false],[]⟩
theorem eo (k:Int):aq G 619 [.int .i64 k] [] (eK k):=by
 by_cases h4:k=4
 ·subst h4
  exact gvA (F:=uJ)
 by_cases h5:k=5
 ·subst h5
  exact gvA (F:=uJ)
 by_cases h6:k=6
 ·subst h6
  exact gvA (F:=uJ)
 by_cases h8:k=8
 ·subst h8
  exact gvA (F:=uJ)
 rw[eK,if_neg h4,if_neg h5,if_neg h6,if_neg h8]
 exact gvA (F:=uJ)
theorem GQ (k:Int):aq G 504 [.int .i64 k] [] ⟨.bool (decide (3≤k∧k≤5)),[]⟩:=by
 by_cases h:3≤k
 ·by_cases h2:k≤5
  ·rw[decide_eq_true ⟨h,h2⟩]
   refine ab (F:=I8) rfl rfl (am 300 _ _ _ _ ?_)
   repeat' (first|refine ae ?_|(refine aa ?_ ?_<;>intro h))
   refine ag ?_;simp[h,h2]
  ·rw[decide_eq_false (fun x=>h2 x.2)]
   refine ab (F:=I8) rfl rfl (am 300 _ _ _ _ ?_)
   repeat' (first|refine ae ?_|(refine aa ?_ ?_<;>intro h))
   refine ag ?_;simp[h,h2]
 ·rw[decide_eq_false (fun x=>h x.1)]
  refine ab (F:=I8) rfl rfl (am 300 _ _ _ _ ?_)
  repeat' (first|refine ae ?_|(refine aa ?_ ?_<;>intro h))
  refine ag ?_;simp[h]
theorem EZ (k:Int):aq G 505 [.int .i64 k] [] ⟨.bool (decide (k=6∨k=7)),[]⟩:=by
 by_cases h:k=6
 ·subst h
  exact gvA (F:=I7)
 ·by_cases h2:k=7
  ·subst h2
   exact gvA (F:=I7)
  ·rw[decide_eq_false (by omega)]
   refine ab (F:=I7) rfl rfl (am 300 _ _ _ _ ?_)
   repeat' (first|refine ae ?_|(refine aa ?_ ?_<;>intro h))
   refine ag ?_;simp[h,h2]
theorem iA (n a b:Int):aq G 567 [.int .i64 n,.int .i64 a,.int .i64 b] [] ⟨.bool (decide (a≤n∧n≤b)),[]⟩:=by
 by_cases h:a≤n
 ·by_cases h2:n≤b
  ·rw[decide_eq_true ⟨h,h2⟩]
   refine ab (F:=IP) rfl rfl (am 300 _ _ _ _ ?_)
   repeat' (first|refine ae ?_|(refine aa ?_ ?_<;>intro h))
   refine ag ?_;simp[h,h2]
  ·rw[decide_eq_false (fun x=>h2 x.2)]
   refine ab (F:=IP) rfl rfl (am 300 _ _ _ _ ?_)
   repeat' (first|refine ae ?_|(refine aa ?_ ?_<;>intro h))
   refine ag ?_;simp[h,h2]
 ·rw[decide_eq_false (fun x=>h x.1)]
  refine ab (F:=IP) rfl rfl (am 300 _ _ _ _ ?_)
  repeat' (first|refine ae ?_|(refine aa ?_ ?_<;>intro h))
  refine ag ?_;simp[h]
def e9 (c:DampC):Int:=if c.half<1 then 5 else if 86400<c.half then 5 else if c.reuse<1 then 5 else if 20000<c.reuse then 5 else
 if c.suppress≤c.reuse then 5 else if 20000<c.suppress then 5 else if c.maxTime<c.half then 5 else if 16*c.half<c.maxTime then 5 else 0
theorem se (c:DampC):aq G 502 [.agg c.enc] [] ⟨.int .i64 (e9 c),[]⟩:=by
 by_cases c0:c.half<1
 ·rw[e9,if_pos c0]
  exact gvA (F:=nx)
 by_cases c1:86400<c.half
 ·rw[e9,if_neg c0,if_pos c1]
  exact gvA (F:=nx)
 by_cases c2:c.reuse<1
 ·rw[e9,if_neg c0,if_neg c1,if_pos c2]
  exact gvA (F:=nx)
 by_cases c3:20000<c.reuse
 ·rw[e9,if_neg c0,if_neg c1,if_neg c2,if_pos c3]
  exact gvA (F:=nx)
 by_cases c4:c.suppress≤c.reuse
 ·rw[e9,if_neg c0,if_neg c1,if_neg c2,if_neg c3,if_pos c4]
  exact gvA (F:=nx)
 by_cases c5:20000<c.suppress
 ·rw[e9,if_neg c0,if_neg c1,if_neg c2,if_neg c3,if_neg c4,if_pos c5]
  exact gvA (F:=nx)
 by_cases c6:c.maxTime<c.half
 ·rw[e9,if_neg c0,if_neg c1,if_neg c2,if_neg c3,if_neg c4,if_neg c5,if_pos c6]
  exact gvA (F:=nx)
 by_cases c7:16*c.half<c.maxTime
 ·rw[e9,if_neg c0,if_neg c1,if_neg c2,if_neg c3,if_neg c4,if_neg c5,if_neg c6,if_pos c7]
  exact gvA (F:=nx)
 rw[e9,if_neg c0,if_neg c1,if_neg c2,if_neg c3,if_neg c4,if_neg c5,if_neg c6,if_neg c7]
 exact gvA (F:=nx)
end Go.AM.IR
namespace Go.AM.IR
def nmC (b:UInt8):Bool:=b.toNat==45||(decide (48≤b.toNat)&&decide (b.toNat≤57))||(decide (65≤b.toNat)&&decide (b.toNat≤90))||(decide (97≤b.toNat)&&decide (b.toNat≤122))
def nmB (s:List UInt8):Bool:=s.all nmC&&(decide (1≤s.length)&&decide ((s.length:Int)≤32))
theorem j3 (s:List UInt8) (hs:s.length<2^40): ∀(rest done:List UInt8) (T:List (Nat×AV)) (H:ax) (c:Nat) (n:Int) (e:s=done++rest) (hn:n=done.length),
  Ev G ⟨XP,⟨(3,.int .i64 n)::(0,.str s)::T,H,c⟩,[.t 2],0⟩ ⟨.bool (rest.all nmC&&(decide (1≤s.length)&&decide ((s.length:Int)≤32))),[]⟩
 | [],done,T,H,c,n,e,hn=>by
  have hd:s.length=done.length:=by simp[e]
  by_cases h1:1≤s.length
  ·rw[decide_eq_true h1]
   refine evl ?_
   repeat' (first|refine ae ?_|(refine aa ?_ ?_<;>intro h))
   refine ag ?_;rfl
  ·rw[decide_eq_false h1]
   refine evl ?_
   repeat' (first|refine ae ?_|(refine aa ?_ ?_<;>intro h))
   refine ag ?_;rfl
 |x::rest,done,T,H,c,n,e,hn=>by
  have hd:s.length=done.length+(rest.length+1):=by simp[e]
  have hb:=idx_at e hn
  rw[List.all_cons]
  by_cases h0:x.toNat<45
  ·have hc:nmC x=false:=by unfold nmC;simp;omega
   rw[hc,Bool.false_and,Bool.false_and]
   refine evl ?_
   repeat' (first|refine cg ?_|(refine aa ?_ ?_<;>intro h))
   refine ag ?_;rfl
  by_cases h1:x.toNat=45
  ·have hc:nmC x=true:=by unfold nmC;simp;omega
   rw[hc,Bool.true_and]
   refine evl ?_
   repeat' (first|refine cg ?_|(refine aa ?_ ?_<;>intro h))
   refine ah [3,0] [] ?_
   exact j3 s hs rest (done++[x]) _ _ _ (n+1) (by simp[e]) (by simp[hn])
  by_cases h2:x.toNat<48
  ·have hc:nmC x=false:=by unfold nmC;simp;omega
   rw[hc,Bool.false_and,Bool.false_and]
   refine evl ?_
   repeat' (first|refine cg ?_|(refine aa ?_ ?_<;>intro h))
   refine ag ?_;rfl
  by_cases h3:x.toNat≤57
  ·have hc:nmC x=true:=by unfold nmC;simp;omega
   rw[hc,Bool.true_and]
   refine evl ?_
   repeat' (first|refine cg ?_|(refine aa ?_ ?_<;>intro h))
   refine ah [3,0] [] ?_
   exact j3 s hs rest (done++[x]) _ _ _ (n+1) (by simp[e]) (by simp[hn])
  by_cases h4:x.toNat<65
  ·have hc:nmC x=false:=by unfold nmC;simp;omega
   rw[hc,Bool.false_and,Bool.false_and]
   refine evl ?_
   repeat' (first|refine cg ?_|(refine aa ?_ ?_<;>intro h))
   refine ag ?_;rfl
  by_cases h5:x.toNat≤90
  ·have hc:nmC x=true:=by unfold nmC;simp;omega
   rw[hc,Bool.true_and]
   refine evl ?_
   repeat' (first|refine cg ?_|(refine aa ?_ ?_<;>intro h))
   refine ah [3,0] [] ?_
   exact j3 s hs rest (done++[x]) _ _ _ (n+1) (by simp[e]) (by simp[hn])
  by_cases h6:x.toNat<97
  ·have hc:nmC x=false:=by unfold nmC;simp;omega
   rw[hc,Bool.false_and,Bool.false_and]
   refine evl ?_
   repeat' (first|refine cg ?_|(refine aa ?_ ?_<;>intro h))
   refine ag ?_;rfl
  by_cases h7:x.toNat≤122
  ·have hc:nmC x=true:=by unfold nmC;simp;omega
   rw[hc,Bool.true_and]
   refine evl ?_
   repeat' (first|refine cg ?_|(refine aa ?_ ?_<;>intro h))
   refine ah [3,0] [] ?_
   exact j3 s hs rest (done++[x]) _ _ _ (n+1) (by simp[e]) (by simp[hn])
  have hc:nmC x=false:=by unfold nmC;simp;omega
  rw[hc,Bool.false_and,Bool.false_and]
  refine evl ?_
  repeat' (first|refine cg ?_|(refine aa ?_ ?_<;>intro h))
  refine ag ?_;rfl
theorem tJ (s:List UInt8) (hs:s.length<2^40):aq G 573 [.str s] [] ⟨.bool (nmB s),[]⟩:=by
 refine ab (F:=XQ) rfl rfl (am 300 _ _ _ _ ?_)
 repeat' (first|refine ae ?_|(refine aa ?_ ?_<;>intro h))
 refine ah [3,0] [] ?_
 exact j3 s hs s [] _ _ _ 0 rfl rfl
def eC (r:ComR):Int:=if r.high< -1 then 5 else if 65535<r.high then 5 else if r.low< -1 then 5 else if 65535<r.low then 5 else 0
theorem Kd (r:ComR):aq G 572 [.agg r.enc] [] ⟨.int .i64 (eC r),[]⟩:=by
 by_cases c0:r.high< -1
 ·rw[eC,if_pos c0]
  exact gvA (F:=uL)
 by_cases c1:65535<r.high
 ·rw[eC,if_neg c0,if_pos c1]
  exact gvA (F:=uL)
 by_cases c2:r.low< -1
 ·rw[eC,if_neg c0,if_neg c1,if_pos c2]
  exact gvA (F:=uL)
 by_cases c3:65535<r.low
 ·rw[eC,if_neg c0,if_neg c1,if_neg c2,if_pos c3]
  exact gvA (F:=uL)
 rw[eC,if_neg c0,if_neg c1,if_neg c2,if_neg c3]
 exact gvA (F:=uL)
end Go.AM.IR
namespace Go.AM.IR
section
variable {kv:AV→Prop}
theorem EY {a b:List UInt8} {v:Bool} (hv:(Op.bytesLess a b||a==b)=v) (h:kv (.bool v)): ∃w,bv .leq (.str a) (.str b)=some w∧kv w:=⟨_,by show some (AV.bool (Op.bytesLess a b||a==b))=_;rw[hv],h⟩
end
def fk (name before:List UInt8) (any:Bool) (n:Int):Int:=if nmB name=false then 1 else if any=false∧(Op.bytesLess name before||name==before)=true then 16 else if 64<n then 4 else 0
theorem jq (name before:List UInt8) (hn:name.length<2^40) (any:Bool) (n:Int):aq G 500 [.str name,.str before,.bool any,.int .i64 n] [] ⟨.int .i64 (fk name before any n),[]⟩:=by
 have h1:=tJ name hn
 rw[fk]
 rcases hb:nmB name with _|_
 ·rw[hb] at h1
  rw[if_pos rfl]
  exact gvA (F:=r8)
 rw[hb] at h1
 rw[if_neg (by simp)]
 cases any
 ·rcases hl:(Op.bytesLess name before||name==before) with _|_
  ·rw[if_neg (by simp)]
   by_cases c:64<n
   ·rw[if_pos c]
    refine ab (F:=r8) rfl rfl (am 300 _ _ _ _ ?_)
    repeat' ((conv=>whnf);first|refine EY hl ?_|refine ay ?_|(refine aa ?_ ?_<;>intro h))
    refine ag ?_;rfl
   ·rw[if_neg c]
    refine ab (F:=r8) rfl rfl (am 300 _ _ _ _ ?_)
    repeat' ((conv=>whnf);first|refine EY hl ?_|refine ay ?_|(refine aa ?_ ?_<;>intro h))
    refine ag ?_;rfl
  ·rw[if_pos ⟨rfl,rfl⟩]
   refine ab (F:=r8) rfl rfl (am 300 _ _ _ _ ?_)
   repeat' ((conv=>whnf);first|refine EY hl ?_|refine ay ?_|(refine aa ?_ ?_<;>intro h))
   refine ag ?_;rfl
 ·rw[if_neg (by simp)]
  by_cases c:64<n
  ·rw[if_pos c]
   exact gvA (F:=r8)
  ·rw[if_neg c]
   exact gvA (F:=r8)
def fa (a:Actn):Int:=if a.asn≠0 then 1 else if a.com≠0 then 1 else if a.addr≠0 then 1 else if a.n<0 then 5 else if 4294967295<a.n then 5 else 0
theorem aen (a:Actn) (hk:a.kind=1):aq G 575 [.agg a.enc] [] ⟨.int .i64 (fa a),[]⟩:=by
 by_cases c0:a.asn≠0
 ·rw[fa,if_pos c0]
  exact gvA (F:=bR)
 have d0:a.asn=0:=Decidable.not_not.1 c0
 by_cases c1:a.com≠0
 ·rw[fa,if_neg c0,if_pos c1]
  exact gvA (F:=bR)
 have d1:a.com=0:=Decidable.not_not.1 c1
 by_cases c2:a.addr≠0
 ·rw[fa,if_neg c0,if_neg c1,if_pos c2]
  exact gvA (F:=bR)
 have d2:a.addr=0:=Decidable.not_not.1 c2
 by_cases c3:a.n<0
 ·rw[fa,if_neg c0,if_neg c1,if_neg c2,if_pos c3]
  exact gvA (F:=bR)
 by_cases c4:4294967295<a.n
 ·rw[fa,if_neg c0,if_neg c1,if_neg c2,if_neg c3,if_pos c4]
  exact gvA (F:=bR)
 rw[fa,if_neg c0,if_neg c1,if_neg c2,if_neg c3,if_neg c4]
 exact gvA (F:=bR)
theorem aem (a:Actn) (hk:a.kind=2):aq G 575 [.agg a.enc] [] ⟨.int .i64 (fa a),[]⟩:=by
 by_cases c0:a.asn≠0
 ·rw[fa,if_pos c0]
  exact gvA (F:=bR)
 have d0:a.asn=0:=Decidable.not_not.1 c0
 by_cases c1:a.com≠0
 ·rw[fa,if_neg c0,if_pos c1]
  exact gvA (F:=bR)
 have d1:a.com=0:=Decidable.not_not.1 c1
 by_cases c2:a.addr≠0
 ·rw[fa,if_neg c0,if_neg c1,if_pos c2]
  exact gvA (F:=bR)
 have d2:a.addr=0:=Decidable.not_not.1 c2
 by_cases c3:a.n<0
 ·rw[fa,if_neg c0,if_neg c1,if_neg c2,if_pos c3]
  exact gvA (F:=bR)
 by_cases c4:4294967295<a.n
 ·rw[fa,if_neg c0,if_neg c1,if_neg c2,if_neg c3,if_pos c4]
  exact gvA (F:=bR)
 rw[fa,if_neg c0,if_neg c1,if_neg c2,if_neg c3,if_neg c4]
 exact gvA (F:=bR)
theorem aek (a:Actn) (hk:a.kind=4):aq G 575 [.agg a.enc] [] ⟨.int .i64 (fa a),[]⟩:=by
 by_cases c0:a.asn≠0
 ·rw[fa,if_pos c0]
  exact gvA (F:=bR)
 have d0:a.asn=0:=Decidable.not_not.1 c0
 by_cases c1:a.com≠0
 ·rw[fa,if_neg c0,if_pos c1]
  exact gvA (F:=bR)
 have d1:a.com=0:=Decidable.not_not.1 c1
 by_cases c2:a.addr≠0
 ·rw[fa,if_neg c0,if_neg c1,if_pos c2]
  exact gvA (F:=bR)
 have d2:a.addr=0:=Decidable.not_not.1 c2
 by_cases c3:a.n<0
 ·rw[fa,if_neg c0,if_neg c1,if_neg c2,if_pos c3]
  exact gvA (F:=bR)
 by_cases c4:4294967295<a.n
 ·rw[fa,if_neg c0,if_neg c1,if_neg c2,if_neg c3,if_pos c4]
  exact gvA (F:=bR)
 rw[fa,if_neg c0,if_neg c1,if_neg c2,if_neg c3,if_neg c4]
 exact gvA (F:=bR)
def qT (a:Actn):Int:=if a.asn≠0 then 1 else if a.com≠0 then 1 else if a.addr≠0 then 1 else if a.n<0 then 5 else if 16777216<a.n then 5 else 0
theorem ael (a:Actn) (hk:a.kind=3):aq G 575 [.agg a.enc] [] ⟨.int .i64 (qT a),[]⟩:=by
 by_cases c0:a.asn≠0
 ·rw[qT,if_pos c0]
  exact gvA (F:=bR)
 have d0:a.asn=0:=Decidable.not_not.1 c0
 by_cases c1:a.com≠0
 ·rw[qT,if_neg c0,if_pos c1]
  exact gvA (F:=bR)
 have d1:a.com=0:=Decidable.not_not.1 c1
 by_cases c2:a.addr≠0
 ·rw[qT,if_neg c0,if_neg c1,if_pos c2]
  exact gvA (F:=bR)
 have d2:a.addr=0:=Decidable.not_not.1 c2
 by_cases c3:a.n<0
 ·rw[qT,if_neg c0,if_neg c1,if_neg c2,if_pos c3]
  exact gvA (F:=bR)
 by_cases c4:16777216<a.n
 ·rw[qT,if_neg c0,if_neg c1,if_neg c2,if_neg c3,if_pos c4]
  exact gvA (F:=bR)
 rw[qT,if_neg c0,if_neg c1,if_neg c2,if_neg c3,if_neg c4]
 exact gvA (F:=bR)
def sD (a:Actn):Int:=if a.n≠0 then 1 else if a.asn≠0 then 1 else if a.com≠0 then 1 else if a.addr=0 then 5 else 0
theorem aej (a:Actn) (hk:a.kind=5):aq G 575 [.agg a.enc] [] ⟨.int .i64 (sD a),[]⟩:=by
 by_cases c0:a.n≠0
 ·rw[sD,if_pos c0]
  exact gvA (F:=bR)
 have d0:a.n=0:=Decidable.not_not.1 c0
 by_cases c1:a.asn≠0
 ·rw[sD,if_neg c0,if_pos c1]
  exact gvA (F:=bR)
 have d1:a.asn=0:=Decidable.not_not.1 c1
 by_cases c2:a.com≠0
 ·rw[sD,if_neg c0,if_neg c1,if_pos c2]
  exact gvA (F:=bR)
 have d2:a.com=0:=Decidable.not_not.1 c2
 by_cases c3:a.addr=0
 ·rw[sD,if_neg c0,if_neg c1,if_neg c2,if_pos c3]
  exact gvA (F:=bR)
 rw[sD,if_neg c0,if_neg c1,if_neg c2,if_neg c3]
 exact gvA (F:=bR)
def kj (a:Actn):Int:=if a.n≠0 then 1 else if a.asn≠0 then 1 else if a.addr≠0 then 1 else 0
theorem aei (a:Actn) (hk:a.kind=6):aq G 575 [.agg a.enc] [] ⟨.int .i64 (kj a),[]⟩:=by
 by_cases c0:a.n≠0
 ·rw[kj,if_pos c0]
  exact gvA (F:=bR)
 have d0:a.n=0:=Decidable.not_not.1 c0
 by_cases c1:a.asn≠0
 ·rw[kj,if_neg c0,if_pos c1]
  exact gvA (F:=bR)
 have d1:a.asn=0:=Decidable.not_not.1 c1
 by_cases c2:a.addr≠0
 ·rw[kj,if_neg c0,if_neg c1,if_pos c2]
  exact gvA (F:=bR)
 have d2:a.addr=0:=Decidable.not_not.1 c2
 rw[kj,if_neg c0,if_neg c1,if_neg c2]
 exact gvA (F:=bR)
theorem aeh (a:Actn) (hk:a.kind=7):aq G 575 [.agg a.enc] [] ⟨.int .i64 (kj a),[]⟩:=by
 by_cases c0:a.n≠0
 ·rw[kj,if_pos c0]
  exact gvA (F:=bR)
 have d0:a.n=0:=Decidable.not_not.1 c0
 by_cases c1:a.asn≠0
 ·rw[kj,if_neg c0,if_pos c1]
  exact gvA (F:=bR)
 have d1:a.asn=0:=Decidable.not_not.1 c1
 by_cases c2:a.addr≠0
 ·rw[kj,if_neg c0,if_neg c1,if_pos c2]
  exact gvA (F:=bR)
 have d2:a.addr=0:=Decidable.not_not.1 c2
 rw[kj,if_neg c0,if_neg c1,if_neg c2]
 exact gvA (F:=bR)
def nZ (a:Actn):Int:=if a.com≠0 then 1 else if a.addr≠0 then 1 else if a.n<0 then 5 else if 16<a.n then 5 else if a.n<1 then 5 else if a.asn<1 then 5 else if 4294967295<a.asn then 5 else 0
theorem aeg (a:Actn) (hk:a.kind=8):aq G 575 [.agg a.enc] [] ⟨.int .i64 (nZ a),[]⟩:=by
 by_cases c0:a.com≠0
 ·rw[nZ,if_pos c0]
  exact gvA (F:=bR)
 have d0:a.com=0:=Decidable.not_not.1 c0
 by_cases c1:a.addr≠0
 ·rw[nZ,if_neg c0,if_pos c1]
  exact gvA (F:=bR)
 have d1:a.addr=0:=Decidable.not_not.1 c1
 by_cases c2:a.n<0
 ·rw[nZ,if_neg c0,if_neg c1,if_pos c2]
  exact gvA (F:=bR)
 by_cases c3:16<a.n
 ·rw[nZ,if_neg c0,if_neg c1,if_neg c2,if_pos c3]
  exact gvA (F:=bR)
 by_cases c4:a.n<1
 ·rw[nZ,if_neg c0,if_neg c1,if_neg c2,if_neg c3,if_pos c4]
  exact gvA (F:=bR)
 by_cases c5:a.asn<1
 ·rw[nZ,if_neg c0,if_neg c1,if_neg c2,if_neg c3,if_neg c4,if_pos c5]
  exact gvA (F:=bR)
 by_cases c6:4294967295<a.asn
 ·rw[nZ,if_neg c0,if_neg c1,if_neg c2,if_neg c3,if_neg c4,if_neg c5,if_pos c6]
  exact gvA (F:=bR)
 rw[nZ,if_neg c0,if_neg c1,if_neg c2,if_neg c3,if_neg c4,if_neg c5,if_neg c6]
 exact gvA (F:=bR)
def mg (a:Actn):Int:=if a.kind=1 then fa a else if a.kind=2 then fa a else if a.kind=4 then fa a else if a.kind=3 then qT a else if a.kind=5 then sD a else if a.kind=6 then kj a else if a.kind=7 then kj a else if a.kind=8 then nZ a else 15
theorem Lg (a:Actn):aq G 575 [.agg a.enc] [] ⟨.int .i64 (mg a),[]⟩:=by
 rw[mg]
 by_cases k1:a.kind=1
 ·rw[if_pos k1]
  exact aen a k1
 rw[if_neg k1]
 by_cases k2:a.kind=2
 ·rw[if_pos k2]
  exact aem a k2
 rw[if_neg k2]
 by_cases k4:a.kind=4
 ·rw[if_pos k4]
  exact aek a k4
 rw[if_neg k4]
 by_cases k3:a.kind=3
 ·rw[if_pos k3]
  exact ael a k3
 rw[if_neg k3]
 by_cases k5:a.kind=5
 ·rw[if_pos k5]
  exact aej a k5
 rw[if_neg k5]
 by_cases k6:a.kind=6
 ·rw[if_pos k6]
  exact aei a k6
 rw[if_neg k6]
 by_cases k7:a.kind=7
 ·rw[if_pos k7]
  exact aeh a k7
 rw[if_neg k7]
 by_cases k8:a.kind=8
 ·rw[if_pos k8]
  exact aeg a k8
 rw[if_neg k8]
 exact gvA (F:=bR)
end Go.AM.IR
