/- What the functions of this program give, on the abstract machine. -/
import Derived.Test.YtcmipbleijmpjaaGreatDoorDataJ
import Derived.Test.YtcmipbleijmpjaaGreatDoorDataG
import Derived.Test.YtcmipbleijmpjaaGreatDoorDataK
set_option linter.unusedVariables false
set_option linter.unusedSimpArgs false
set_option maxHeartbeats 4000000
set_option maxRecDepth 20000
namespace Go.AM.IR
theorem w9 (s:List UInt8) (hs:s.length<2^40): ∀(rest done:List UInt8) (T:List (Nat×AV)) (H:ax) (c:Nat) (n:Int) (e:s=done++rest) (hn:n=done.length),
  Ev G ⟨Xk,⟨(7,.int .i64 n)::(0,.str s)::(6,.int .i64 s.length)::T,H,c⟩,[.t 2],0⟩ ⟨.bool (rest.all nmC&&(decide (1≤s.length)&&decide ((s.length:Int)≤32))),[]⟩
 | [],done,T,H,c,n,e,hn=>by
  have hd:s.length=done.length:=by simp[e]
  by_cases h1:1≤s.length
  ·rw[decide_eq_true h1]
   refine evl ?_
   repeat' (first|refine ae ?_|(refine aa ?_ ?_<;>intro h))
   refine ag ?_;rfl
  ·rw[decide_eq_false h1]
   refine evl ?_
   repeat' (first|refine ae ?_|(refine aa ?_ ?_<;>intro h))
   refine ag ?_;rfl
 |x::rest,done,T,H,c,n,e,hn=>by
  have hd:s.length=done.length+(rest.length+1):=by simp[e]
  have hb:=idx_at e hn
  have ih:=fun T H c=>w9 s hs rest (done++[x]) T H c (n+1) (by simp[e]) (by simp[hn])
  rw[List.all_cons]
  by_cases hc:nmC x=true
  ·rw[hc,Bool.true_and]
   have h:=hc
   unfold nmC at h
   simp only[Bool.or_eq_true,Bool.and_eq_true,beq_iff_eq,decide_eq_true_eq] at h
   refine evl ?_
   repeat' (first|refine cg ?_|(refine aa ?_ ?_<;>intro h))
   all_goals try (exfalso;omega)
   all_goals (refine ah [7,0,6] [] ?_
              exact ih _ _ _)
  ·have h:=hc
   rw[Bool.not_eq_true] at hc
   rw[hc,Bool.false_and,Bool.false_and]
   unfold nmC at h
   simp only[Bool.or_eq_true,Bool.and_eq_true,beq_iff_eq,decide_eq_true_eq] at h
   refine evl ?_
   repeat' (first|refine cg ?_|(refine aa ?_ ?_<;>intro h))
   all_goals try (exfalso;omega)
   all_goals (refine ag ?_;rfl)
theorem tH (s:List UInt8) (hs:s.length<2^40):aq G 623 [.str s] [] ⟨.bool (nmB s),[]⟩:=by
 refine ab (F:=Xl) rfl rfl (am 300 _ _ _ _ ?_)
 repeat' (first|refine ae ?_|(refine aa ?_ ?_<;>intro h))
 refine ah [7,0,6] [] ?_
 exact w9 s hs s [] _ _ _ 0 rfl rfl
theorem iC (n l h:Int):aq G 581 [.int .i64 n,.int .i64 l,.int .i64 h] [] ⟨.bool (decide (l≤n)&&decide (n≤h)),[]⟩:=by
 by_cases a:l≤n
 ·rw[decide_eq_true a]
  exact gvA (F:=QY)
 ·rw[decide_eq_false a]
  exact gvA (F:=QY)
theorem Kg (r:ComR):aq G 520 [.agg r.enc] [] ⟨.int .i64 (eC r),[]⟩:=by
 have h1:=iC r.high (-1) 65535
 have h2:=iC r.low (-1) 65535
 unfold eC
 generalize hx:(decide (-1≤r.high)&&decide (r.high≤65535))=x at*
 generalize hy:(decide (-1≤r.low)&&decide (r.low≤65535))=y at*
 cases x
 ·simp only[Bool.and_eq_false_iff,decide_eq_false_iff_not] at hx
  refine ab (F:=IW) rfl rfl (am 300 _ _ _ _ ?_)
  repeat' (first|refine ae ?_|(refine aa ?_ ?_<;>intro h))
  refine ag ?_
  (repeat' split)<;>first|rfl|(exfalso;omega)
 ·simp only[Bool.and_eq_true,decide_eq_true_eq] at hx
  rw[if_neg (by omega),if_neg (by omega)]
  cases y
  ·simp only[Bool.and_eq_false_iff,decide_eq_false_iff_not] at hy
   refine ab (F:=IW) rfl rfl (am 300 _ _ _ _ ?_)
   repeat' (first|refine ae ?_|(refine aa ?_ ?_<;>intro h))
   refine ag ?_
   (repeat' split)<;>first|rfl|(exfalso;omega)
  ·simp only[Bool.and_eq_true,decide_eq_true_eq] at hy
   rw[if_neg (by omega),if_neg (by omega)]
   exact gvA (F:=IW)
def bl (s:List UInt8):List AV:=[.str s]
@[simp] theorem tv: ∀l:List (List UInt8),aG (l.map bl)=true
 | []=>rfl
 |x::r=>by simp only[List.map_cons,aG,tv r];simp[bl,aW,AV.pure]
def iP (before:List (List UInt8)) (name:List UInt8):Int:=if nmB name=false then 1 else match before.getLast? with
 |none=>0
 |some b=>if (Op.bytesLess name b||name==b)=true then 16 else 0
theorem jZ (before:List (List UInt8)) (name:List UInt8) (hn:name.length<2^40) (hb:before.length<2^40):aq G 577 [.sl 1 (before.map bl),.str name] [] ⟨.int .i64 (iP before name),[]⟩:=by
 have h1:=tH name hn
 have m1:(before.map bl).length=before.length:=by simp
 unfold iP
 cases hq:nmB name
 ·rw[hq] at h1
  rw[if_pos rfl]
  exact gvA (F:=ze)
 rw[hq] at h1
 rw[if_neg (by simp)]
 cases hl:before.getLast? with
 |none=>
  have h0:before= []:=by simpa using hl
  subst h0
  exact gvA (F:=ze)
 |some b=>
  have hne:0<before.length:=by
   cases before with
   |nil=>simp at hl
   |cons x r=>simp
  have hx:(before.map bl)[((before.length:Int)-1).toNat]? =some [.str b]:=by
   rw[List.getLast?_eq_getElem?] at hl
   have:((before.length:Int)-1).toNat=before.length-1:=by omega
   rw[this,List.getElem?_map,hl];rfl
  rw[←m1] at hx
  dsimp only
  rcases hv:(Op.bytesLess name b||name==b) with _|_
  ·refine ab (F:=ze) rfl rfl (am 300 _ _ _ _ ?_)
   repeat' ((conv=>whnf);first|refine EY hv ?_|refine ay ?_|(refine aa ?_ ?_<;>intro h))
   refine ag ?_;rfl
  ·refine ab (F:=ze) rfl rfl (am 300 _ _ _ _ ?_)
   repeat' ((conv=>whnf);first|refine EY hv ?_|refine ay ?_|(refine aa ?_ ?_<;>intro h))
   refine ag ?_;rfl
end Go.AM.IR
namespace Go.AM.IR
def fg (l:List (List UInt8)) (k:List UInt8):Bool:=l.any fun x=>decide (x=k)
abbrev NmL:=List UInt8
theorem tP (l:List NmL) (k:List UInt8) (hl:l.length<2^40) (ln:Int) (hln:ln=l.length): ∀(rest done:List NmL)  (T:List (Nat×AV)) (H:ax) (c:Nat) (n:Int) (e:l=done++rest) (hn:n=done.length),Ev G ⟨Xd,⟨(7,.sl 1 (l.map bl))::(8,.int .i64 ln)::(9,.int .i64 n)::(1,.str k)::T,H,c⟩,[.t 4],0⟩ (⟨.bool (fg rest k),[]⟩)
 | [],done,  T,H,c,n,e,hn=>by
  have hd:l.length=done.length:=by simp[e]
  have hll:(l.map bl).length=l.length:=by simp
  refine evl ?_
  repeat' (first|refine ae ?_|(refine aa ?_ ?_<;>intro h))
  refine ag ?_;rfl
 |x::r,done,  T,H,c,n,e,hn=>by
  have hd:l.length=done.length+(r.length+1):=by simp[e]
  have hll:(l.map bl).length=l.length:=by simp
  have hx:(l.map bl)[n.toNat]? =some (bl x):=by simp[e,hn]
  by_cases h:x=k
  ·rw[show fg (x::r) k=true from by simp[fg,h]]
   refine evl ?_
   repeat' ((conv=>whnf);first|refine Qj h ?_|refine ay ?_|(refine aa ?_ ?_<;>intro h))
   refine ag ?_;rfl
  ·rw[show fg (x::r) k=fg r k from by simp[fg,h]]
   refine evl ?_
   repeat' ((conv=>whnf);first|refine Fq h ?_|refine ay ?_|(refine aa ?_ ?_<;>intro h))
   refine ah [7,8,9,1] [] ?_;exact tP l k hl ln hln r (done++[x])  _ _ _ (n+1) (by simp[e]) (by simp[hn]<;>omega)
theorem nL (l:List (List UInt8)) (hl:l.length<2^40) (k:List UInt8):aq G 630 [.sl 1 (l.map bl),.str k] [] ⟨.bool (fg l k),[]⟩:=by
 have m1:(l.map bl).length=l.length:=by simp
 refine ab (F:=Xf) rfl rfl (am 300 _ _ _ _ ?_)
 repeat' (first|refine ae ?_|(refine aa ?_ ?_<;>intro h))
 refine ah [7,8,9,1] [] ?_
 rw[m1]
 exact tP l k hl _ rfl l [] _ _ _ 0 rfl rfl
structure Kn where
 a:List (List UInt8)
 b:List (List UInt8)
 c:List (List UInt8)
 d:List (List UInt8)
def Kn.enc (k:Kn):List AV:=[.sl 1 (k.a.map bl),.sl 1 (k.b.map bl),.sl 1 (k.c.map bl),.sl 1 (k.d.map bl)]
structure Kn.fit (k:Kn):Prop where
 a:k.a.length<2^40
 b:k.b.length<2^40
 c:k.c.length<2^40
 d:k.d.length<2^40
def mtN (l:List (List UInt8)) (m:Mat):Int:=if m.n=0∧m.pfx.addr=0∧m.pfx.len=0 then (if fg l m.name=true then 0 else 6) else 1
def mtH (m:Mat):Int:=if m.name= []∧m.n=0 then (if ba m.pfx=true then 0 else 1) else 1
def mtR (lo hi:Int) (m:Mat):Int:=if m.name= []∧m.pfx.addr=0∧m.pfx.len=0 then (if lo≤m.n∧m.n≤hi then 0 else 5) else 1
def mtE (k:Kn) (m:Mat):Int:=if m.kind=1 then mtN k.a m else if m.kind=2 then mtN k.b m else if m.kind=3 then mtN k.c m else if m.kind=7 then mtH m else
 if m.kind=4 then mtR 1 7 m else if m.kind=6 then mtR 0 16777216 m else if m.kind=8 then mtR 0 2000 m else if m.kind=5 then mtR 0 4294967295 m else 15
theorem Mr (k:Kn) (hk:k.fit) (m:Mat) (hp:m.pfx.ok):aq G 594 [.agg k.enc,.agg m.enc] [] ⟨.int .i64 (mtE k m),[]⟩:=by
 have h1:aq G 178 [.agg [.int .u32 m.pfx.addr,.int .i64 m.pfx.len]] [] ⟨.bool (ba m.pfx),[]⟩:=eW m.pfx hp
 have h2:=nL k.a hk.a m.name
 have h3:=nL k.b hk.b m.name
 have h4:=nL k.c hk.c m.name
 have w (lo hi:Int):=iC m.n lo hi
 obtain ⟨kind,name,n,⟨pa,pl⟩,neg⟩:=m
 dsimp only at*
 by_cases k1:kind=1
 ·subst k1
  rw[mtE,if_pos rfl,mtN]
  dsimp only
  generalize fg k.a name=B at*
  by_cases c1:n=0∧pa=0∧pl=0
  ·obtain ⟨rfl,rfl,rfl⟩:=c1
   rw[if_pos ⟨rfl,rfl,rfl⟩]
   cases B
   ·refine ab (F:=e7) rfl rfl (am 300 _ _ _ _ ?_)
    repeat' (first|refine ae ?_|(refine aa ?_ ?_<;>intro h))
    all_goals (refine ag ?_;rfl)
   ·refine ab (F:=e7) rfl rfl (am 300 _ _ _ _ ?_)
    repeat' (first|refine ae ?_|(refine aa ?_ ?_<;>intro h))
    all_goals (refine ag ?_;rfl)
  ·rw[if_neg c1]
   refine ab (F:=e7) rfl rfl (am 300 _ _ _ _ ?_)
   repeat' (first|refine ae ?_|(refine aa ?_ ?_<;>intro h))
   all_goals try (exfalso;first|omega|(simp_all;done))
   all_goals (refine ag ?_;rfl)
 by_cases k2:kind=2
 ·subst k2
  rw[mtE,if_neg k1,if_pos rfl,mtN]
  dsimp only
  generalize fg k.b name=B at*
  by_cases c1:n=0∧pa=0∧pl=0
  ·obtain ⟨rfl,rfl,rfl⟩:=c1
   rw[if_pos ⟨rfl,rfl,rfl⟩]
   cases B
   ·refine ab (F:=e7) rfl rfl (am 300 _ _ _ _ ?_)
    repeat' (first|refine ae ?_|(refine aa ?_ ?_<;>intro h))
    all_goals (refine ag ?_;rfl)
   ·refine ab (F:=e7) rfl rfl (am 300 _ _ _ _ ?_)
    repeat' (first|refine ae ?_|(refine aa ?_ ?_<;>intro h))
    all_goals (refine ag ?_;rfl)
  ·rw[if_neg c1]
   refine ab (F:=e7) rfl rfl (am 300 _ _ _ _ ?_)
   repeat' (first|refine ae ?_|(refine aa ?_ ?_<;>intro h))
   all_goals try (exfalso;first|omega|(simp_all;done))
   all_goals (refine ag ?_;rfl)
 by_cases k3:kind=3
 ·subst k3
  rw[mtE,if_neg k1,if_neg k2,if_pos rfl,mtN]
  dsimp only
  generalize fg k.c name=B at*
  by_cases c1:n=0∧pa=0∧pl=0
  ·obtain ⟨rfl,rfl,rfl⟩:=c1
   rw[if_pos ⟨rfl,rfl,rfl⟩]
   cases B
   ·refine ab (F:=e7) rfl rfl (am 300 _ _ _ _ ?_)
    repeat' (first|refine ae ?_|(refine aa ?_ ?_<;>intro h))
    all_goals (refine ag ?_;rfl)
   ·refine ab (F:=e7) rfl rfl (am 300 _ _ _ _ ?_)
    repeat' (first|refine ae ?_|(refine aa ?_ ?_<;>intro h))
    all_goals (refine ag ?_;rfl)
  ·rw[if_neg c1]
   refine ab (F:=e7) rfl rfl (am 300 _ _ _ _ ?_)
   repeat' (first|refine ae ?_|(refine aa ?_ ?_<;>intro h))
   all_goals try (exfalso;first|omega|(simp_all;done))
   all_goals (refine ag ?_;rfl)
 by_cases k7:kind=7
 ·subst k7
  rw[mtE,if_neg k1,if_neg k2,if_neg k3,if_pos rfl,mtH]
  dsimp only
  by_cases c1:name= []∧n=0
  ·obtain ⟨rfl,rfl⟩:=c1
   rw[if_pos ⟨rfl,rfl⟩]
   generalize ba ⟨pa,pl⟩=B at*
   cases B
   ·refine ab (F:=e7) rfl rfl (am 300 _ _ _ _ ?_)
    repeat' (first|refine ae ?_|(refine aa ?_ ?_<;>intro h))
    all_goals (refine ag ?_;rfl)
   ·refine ab (F:=e7) rfl rfl (am 300 _ _ _ _ ?_)
    repeat' (first|refine ae ?_|(refine aa ?_ ?_<;>intro h))
    all_goals (refine ag ?_;rfl)
  ·rw[if_neg c1]
   refine ab (F:=e7) rfl rfl (am 300 _ _ _ _ ?_)
   repeat' (first|refine ae ?_|(refine aa ?_ ?_<;>intro h))
   all_goals try (exfalso;first|omega|(simp_all;done))
   all_goals (refine ag ?_;rfl)
 by_cases k4:kind=4
 ·subst k4
  have h5:=w 1 7
  rw[mtE,if_neg k1,if_neg k2,if_neg k3,if_neg k7,if_pos rfl,mtR]
  dsimp only
  by_cases c1:name= []∧pa=0∧pl=0
  ·obtain ⟨rfl,rfl,rfl⟩:=c1
   rw[if_pos ⟨rfl,rfl,rfl⟩]
   by_cases c2:1≤n∧n≤7
   ·rw[decide_eq_true c2.1,decide_eq_true c2.2] at h5
    rw[if_pos c2]
    refine ab (F:=e7) rfl rfl (am 300 _ _ _ _ ?_)
    repeat' (first|refine ae ?_|(refine aa ?_ ?_<;>intro h))
    all_goals (refine ag ?_;rfl)
   ·have e:(decide (1≤n)&&decide (n≤7))=false:=by rw[←Bool.decide_and,decide_eq_false c2]
    rw[e] at h5
    rw[if_neg c2]
    refine ab (F:=e7) rfl rfl (am 300 _ _ _ _ ?_)
    repeat' (first|refine ae ?_|(refine aa ?_ ?_<;>intro h))
    all_goals (refine ag ?_;rfl)
  ·rw[if_neg c1]
   refine ab (F:=e7) rfl rfl (am 300 _ _ _ _ ?_)
   repeat' (first|refine ae ?_|(refine aa ?_ ?_<;>intro h))
   all_goals try (exfalso;first|omega|(simp_all;done))
   all_goals (refine ag ?_;rfl)
 by_cases k6:kind=6
 ·subst k6
  have h5:=w 0 16777216
  rw[mtE,if_neg k1,if_neg k2,if_neg k3,if_neg k7,if_neg k4,if_pos rfl,mtR]
  dsimp only
  by_cases c1:name= []∧pa=0∧pl=0
  ·obtain ⟨rfl,rfl,rfl⟩:=c1
   rw[if_pos ⟨rfl,rfl,rfl⟩]
   by_cases c2:0≤n∧n≤16777216
   ·rw[decide_eq_true c2.1,decide_eq_true c2.2] at h5
    rw[if_pos c2]
    refine ab (F:=e7) rfl rfl (am 300 _ _ _ _ ?_)
    repeat' (first|refine ae ?_|(refine aa ?_ ?_<;>intro h))
    all_goals (refine ag ?_;rfl)
   ·have e:(decide (0≤n)&&decide (n≤16777216))=false:=by rw[←Bool.decide_and,decide_eq_false c2]
    rw[e] at h5
    rw[if_neg c2]
    refine ab (F:=e7) rfl rfl (am 300 _ _ _ _ ?_)
    repeat' (first|refine ae ?_|(refine aa ?_ ?_<;>intro h))
    all_goals (refine ag ?_;rfl)
  ·rw[if_neg c1]
   refine ab (F:=e7) rfl rfl (am 300 _ _ _ _ ?_)
   repeat' (first|refine ae ?_|(refine aa ?_ ?_<;>intro h))
   all_goals try (exfalso;first|omega|(simp_all;done))
   all_goals (refine ag ?_;rfl)
 by_cases k8:kind=8
 ·subst k8
  have h5:=w 0 2000
  rw[mtE,if_neg k1,if_neg k2,if_neg k3,if_neg k7,if_neg k4,if_neg k6,if_pos rfl,mtR]
  dsimp only
  by_cases c1:name= []∧pa=0∧pl=0
  ·obtain ⟨rfl,rfl,rfl⟩:=c1
   rw[if_pos ⟨rfl,rfl,rfl⟩]
   by_cases c2:0≤n∧n≤2000
   ·rw[decide_eq_true c2.1,decide_eq_true c2.2] at h5
    rw[if_pos c2]
    refine ab (F:=e7) rfl rfl (am 300 _ _ _ _ ?_)
    repeat' (first|refine ae ?_|(refine aa ?_ ?_<;>intro h))
    all_goals (refine ag ?_;rfl)
   ·have e:(decide (0≤n)&&decide (n≤2000))=false:=by rw[←Bool.decide_and,decide_eq_false c2]
    rw[e] at h5
    rw[if_neg c2]
    refine ab (F:=e7) rfl rfl (am 300 _ _ _ _ ?_)
    repeat' (first|refine ae ?_|(refine aa ?_ ?_<;>intro h))
    all_goals (refine ag ?_;rfl)
  ·rw[if_neg c1]
   refine ab (F:=e7) rfl rfl (am 300 _ _ _ _ ?_)
   repeat' (first|refine ae ?_|(refine aa ?_ ?_<;>intro h))
   all_goals try (exfalso;first|omega|(simp_all;done))
   all_goals (refine ag ?_;rfl)
 by_cases k5:kind=5
 ·subst k5
  have h5:=w 0 4294967295
  rw[mtE,if_neg k1,if_neg k2,if_neg k3,if_neg k7,if_neg k4,if_neg k6,if_neg k8,if_pos rfl,mtR]
  dsimp only
  by_cases c1:name= []∧pa=0∧pl=0
  ·obtain ⟨rfl,rfl,rfl⟩:=c1
   rw[if_pos ⟨rfl,rfl,rfl⟩]
   by_cases c2:0≤n∧n≤4294967295
   ·rw[decide_eq_true c2.1,decide_eq_true c2.2] at h5
    rw[if_pos c2]
    refine ab (F:=e7) rfl rfl (am 300 _ _ _ _ ?_)
    repeat' (first|refine ae ?_|(refine aa ?_ ?_<;>intro h))
    all_goals (refine ag ?_;rfl)
   ·have e:(decide (0≤n)&&decide (n≤4294967295))=false:=by rw[←Bool.decide_and,decide_eq_false c2]
    rw[e] at h5
    rw[if_neg c2]
    refine ab (F:=e7) rfl rfl (am 300 _ _ _ _ ?_)
    repeat' (first|refine ae ?_|(refine aa ?_ ?_<;>intro h))
    all_goals (refine ag ?_;rfl)
  ·rw[if_neg c1]
   refine ab (F:=e7) rfl rfl (am 300 _ _ _ _ ?_)
   repeat' (first|refine ae ?_|(refine aa ?_ ?_<;>intro h))
   all_goals try (exfalso;first|omega|(simp_all;done))
   all_goals (refine ag ?_;rfl)
 rw[mtE,if_neg k1,if_neg k2,if_neg k3,if_neg k7,if_neg k4,if_neg k6,if_neg k8,if_neg k5]
 refine ab (F:=e7) rfl rfl (am 300 _ _ _ _ ?_)
 repeat' (first|refine ae ?_|(refine aa ?_ ?_<;>intro h))
 all_goals (refine ag ?_;rfl)
end Go.AM.IR
namespace Go.AM.IR
theorem Nt (a:Actn):aq G 596 [.agg a.enc] [] ⟨.int .i64 (mg a),[]⟩:=by
 have w (n lo hi:Int):=iC n lo hi
 obtain ⟨kind,n,asn,com,addr⟩:=a
 rw[mg]
 dsimp only
 by_cases k1:kind=1
 ·subst k1
  rw[if_pos rfl,fa]
  dsimp only
  have h0:=w n 0 4294967295
  generalize q0:(decide (0≤n)&&decide (n≤4294967295))=B0 at*
  cases B0
  ·simp only[Bool.and_eq_false_iff,decide_eq_false_iff_not] at q0
   refine ab (F:=iq) rfl rfl (am 300 _ _ _ _ ?_)
   repeat' (first|refine ae ?_|(refine aa ?_ ?_<;>intro h))
   all_goals try (exfalso;first|omega|(simp_all;done))
   all_goals
    refine ag ?_
    (repeat' split)<;>first|rfl|(exfalso;(try simp only[ne_eq,Decidable.not_not] at*);omega)
  ·simp only[Bool.and_eq_true,decide_eq_true_eq] at q0
   refine ab (F:=iq) rfl rfl (am 300 _ _ _ _ ?_)
   repeat' (first|refine ae ?_|(refine aa ?_ ?_<;>intro h))
   all_goals try (exfalso;first|omega|(simp_all;done))
   all_goals
    refine ag ?_
    (repeat' split)<;>first|rfl|(exfalso;(try simp only[ne_eq,Decidable.not_not] at*);omega)
 rw[if_neg k1]
 by_cases k2:kind=2
 ·subst k2
  rw[if_pos rfl,fa]
  dsimp only
  have h0:=w n 0 4294967295
  generalize q0:(decide (0≤n)&&decide (n≤4294967295))=B0 at*
  cases B0
  ·simp only[Bool.and_eq_false_iff,decide_eq_false_iff_not] at q0
   refine ab (F:=iq) rfl rfl (am 300 _ _ _ _ ?_)
   repeat' (first|refine ae ?_|(refine aa ?_ ?_<;>intro h))
   all_goals try (exfalso;first|omega|(simp_all;done))
   all_goals
    refine ag ?_
    (repeat' split)<;>first|rfl|(exfalso;(try simp only[ne_eq,Decidable.not_not] at*);omega)
  ·simp only[Bool.and_eq_true,decide_eq_true_eq] at q0
   refine ab (F:=iq) rfl rfl (am 300 _ _ _ _ ?_)
   repeat' (first|refine ae ?_|(refine aa ?_ ?_<;>intro h))
   all_goals try (exfalso;first|omega|(simp_all;done))
   all_goals
    refine ag ?_
    (repeat' split)<;>first|rfl|(exfalso;(try simp only[ne_eq,Decidable.not_not] at*);omega)
 rw[if_neg k2]
 by_cases k4:kind=4
 ·subst k4
  rw[if_pos rfl,fa]
  dsimp only
  have h0:=w n 0 4294967295
  generalize q0:(decide (0≤n)&&decide (n≤4294967295))=B0 at*
  cases B0
  ·simp only[Bool.and_eq_false_iff,decide_eq_false_iff_not] at q0
   refine ab (F:=iq) rfl rfl (am 300 _ _ _ _ ?_)
   repeat' (first|refine ae ?_|(refine aa ?_ ?_<;>intro h))
   all_goals try (exfalso;first|omega|(simp_all;done))
   all_goals
    refine ag ?_
    (repeat' split)<;>first|rfl|(exfalso;(try simp only[ne_eq,Decidable.not_not] at*);omega)
  ·simp only[Bool.and_eq_true,decide_eq_true_eq] at q0
   refine ab (F:=iq) rfl rfl (am 300 _ _ _ _ ?_)
   repeat' (first|refine ae ?_|(refine aa ?_ ?_<;>intro h))
   all_goals try (exfalso;first|omega|(simp_all;done))
   all_goals
    refine ag ?_
    (repeat' split)<;>first|rfl|(exfalso;(try simp only[ne_eq,Decidable.not_not] at*);omega)
 rw[if_neg k4]
 by_cases k3:kind=3
 ·subst k3
  rw[if_pos rfl,qT]
  dsimp only
  have h0:=w n 0 16777216
  generalize q0:(decide (0≤n)&&decide (n≤16777216))=B0 at*
  cases B0
  ·simp only[Bool.and_eq_false_iff,decide_eq_false_iff_not] at q0
   refine ab (F:=iq) rfl rfl (am 300 _ _ _ _ ?_)
   repeat' (first|refine ae ?_|(refine aa ?_ ?_<;>intro h))
   all_goals try (exfalso;first|omega|(simp_all;done))
   all_goals
    refine ag ?_
    (repeat' split)<;>first|rfl|(exfalso;(try simp only[ne_eq,Decidable.not_not] at*);omega)
  ·simp only[Bool.and_eq_true,decide_eq_true_eq] at q0
   refine ab (F:=iq) rfl rfl (am 300 _ _ _ _ ?_)
   repeat' (first|refine ae ?_|(refine aa ?_ ?_<;>intro h))
   all_goals try (exfalso;first|omega|(simp_all;done))
   all_goals
    refine ag ?_
    (repeat' split)<;>first|rfl|(exfalso;(try simp only[ne_eq,Decidable.not_not] at*);omega)
 rw[if_neg k3]
 by_cases k5:kind=5
 ·subst k5
  rw[if_pos rfl,sD]
  dsimp only
  refine ab (F:=iq) rfl rfl (am 300 _ _ _ _ ?_)
  repeat' (first|refine ae ?_|(refine aa ?_ ?_<;>intro h))
  all_goals try (exfalso;first|omega|(simp_all;done))
  all_goals
   refine ag ?_
   (repeat' split)<;>first|rfl|(exfalso;(try simp only[ne_eq,Decidable.not_not] at*);omega)
 rw[if_neg k5]
 by_cases k6:kind=6
 ·subst k6
  rw[if_pos rfl,kj]
  dsimp only
  refine ab (F:=iq) rfl rfl (am 300 _ _ _ _ ?_)
  repeat' (first|refine ae ?_|(refine aa ?_ ?_<;>intro h))
  all_goals try (exfalso;first|omega|(simp_all;done))
  all_goals
   refine ag ?_
   (repeat' split)<;>first|rfl|(exfalso;(try simp only[ne_eq,Decidable.not_not] at*);omega)
 rw[if_neg k6]
 by_cases k7:kind=7
 ·subst k7
  rw[if_pos rfl,kj]
  dsimp only
  refine ab (F:=iq) rfl rfl (am 300 _ _ _ _ ?_)
  repeat' (first|refine ae ?_|(refine aa ?_ ?_<;>intro h))
  all_goals try (exfalso;first|omega|(simp_all;done))
  all_goals
   refine ag ?_
   (repeat' split)<;>first|rfl|(exfalso;(try simp only[ne_eq,Decidable.not_not] at*);omega)
 rw[if_neg k7]
 by_cases k8:kind=8
 ·subst k8
  rw[if_pos rfl,nZ]
  dsimp only
  have h0:=w asn 1 4294967295
  generalize q0:(decide (1≤asn)&&decide (asn≤4294967295))=B0 at*
  have h1:=w n 1 16
  generalize q1:(decide (1≤n)&&decide (n≤16))=B1 at*
  cases B0
  ·simp only[Bool.and_eq_false_iff,decide_eq_false_iff_not] at q0
   cases B1
   ·simp only[Bool.and_eq_false_iff,decide_eq_false_iff_not] at q1
    refine ab (F:=iq) rfl rfl (am 300 _ _ _ _ ?_)
    repeat' (first|refine ae ?_|(refine aa ?_ ?_<;>intro h))
    all_goals try (exfalso;first|omega|(simp_all;done))
    all_goals
     refine ag ?_
     (repeat' split)<;>first|rfl|(exfalso;(try simp only[ne_eq,Decidable.not_not] at*);omega)
   ·simp only[Bool.and_eq_true,decide_eq_true_eq] at q1
    refine ab (F:=iq) rfl rfl (am 300 _ _ _ _ ?_)
    repeat' (first|refine ae ?_|(refine aa ?_ ?_<;>intro h))
    all_goals try (exfalso;first|omega|(simp_all;done))
    all_goals
     refine ag ?_
     (repeat' split)<;>first|rfl|(exfalso;(try simp only[ne_eq,Decidable.not_not] at*);omega)
  ·simp only[Bool.and_eq_true,decide_eq_true_eq] at q0
   cases B1
   ·simp only[Bool.and_eq_false_iff,decide_eq_false_iff_not] at q1
    refine ab (F:=iq) rfl rfl (am 300 _ _ _ _ ?_)
    repeat' (first|refine ae ?_|(refine aa ?_ ?_<;>intro h))
    all_goals try (exfalso;first|omega|(simp_all;done))
    all_goals
     refine ag ?_
     (repeat' split)<;>first|rfl|(exfalso;(try simp only[ne_eq,Decidable.not_not] at*);omega)
   ·simp only[Bool.and_eq_true,decide_eq_true_eq] at q1
    refine ab (F:=iq) rfl rfl (am 300 _ _ _ _ ?_)
    repeat' (first|refine ae ?_|(refine aa ?_ ?_<;>intro h))
    all_goals try (exfalso;first|omega|(simp_all;done))
    all_goals
     refine ag ?_
     (repeat' split)<;>first|rfl|(exfalso;(try simp only[ne_eq,Decidable.not_not] at*);omega)
 rw[if_neg k8]
 refine ab (F:=iq) rfl rfl (am 300 _ _ _ _ ?_)
 repeat' (first|refine ae ?_|(refine aa ?_ ?_<;>intro h))
 all_goals (refine ag ?_;rfl)
end Go.AM.IR
