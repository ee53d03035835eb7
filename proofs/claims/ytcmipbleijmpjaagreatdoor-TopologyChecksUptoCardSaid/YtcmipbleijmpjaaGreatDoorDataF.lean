/- What the functions of this program give, on the abstract machine. -/
import Derived.Test.YtcmipbleijmpjaaGreatDoorDataA
import Derived.Test.YtcmipbleijmpjaaGreatDoorDataB
import Derived.Test.YtcmipbleijmpjaaGreatDoorDataC
import Derived.Test.YtcmipbleijmpjaaGreatDoorMachineC
import Derived.Test.YtcmipbleijmpjaaGreatDoorDataD
import Derived.Test.YtcmipbleijmpjaaGreatDoorDataE
set_option linter.unusedVariables false
set_option linter.unusedSimpArgs false
set_option maxHeartbeats 4000000
set_option maxRecDepth 20000
namespace Go.AM.IR
def pnR (s:List UInt8) (m:Nat):Ret:=⟨pnV (.ifc 276 (.agg [])),[(true,.cells [.str s,.int .i64 (m:Int)])]⟩
def pk (s:List UInt8) (n:Nat):UInt8:=s[n]?.getD 0
theorem fw {s:List UInt8} {n:Nat} {c:UInt8} (hc:c≠0):chr s n c=decide (pk s n=c):=by
 unfold chr pk
 cases h:s[n]? with
 |none=>simp[Ne.symm hc]
 |some b=>simp only[Option.getD_some];by_cases e:b=c<;>simp[e]
theorem fu (s:List UInt8) (hs:s.length<2^40) (n:Nat) (hn:n≤s.length):aq G0 625 [.ref 0 0 0] [.cells [.str s,.int .i64 (n:Int)]] (rpR s (.int .u8 ((pk s n).toNat:Int)) n):=by
 by_cases h:n<s.length
 ·have hb:s[((n:Nat):Int).toNat]? =some s[n]:=by simp[h]
  have hp:pk s n=s[n]:=by simp[pk,h]
  rw[hp]
  generalize s[n]=b at*
  have hbl:=b.toNat_lt
  refine ab (F:=QV) rfl rfl (am 300 _ _ _ _ ?_)
  repeat' (first|refine cg ?_|(refine aa ?_ ?_<;>intro h))
  (conv=>whnf);first|refine bg [(0,_,_)] [] [true] ?_|refine bh [(0,_,_)] [] [true] ?_
  rfl
 ·have hp:pk s n=0:=by simp[pk,List.getElem?_eq_none (show s.length≤n by omega)]
  rw[hp]
  refine ab (F:=QV) rfl rfl (am 300 _ _ _ _ ?_)
  repeat' (first|refine ae ?_|(refine aa ?_ ?_<;>intro h))
  (conv=>whnf);first|refine bg [(0,_,_)] [] [true] ?_|refine bh [(0,_,_)] [] [true] ?_
  rfl
theorem nI (s:List UInt8) (hs:s.length<2^40) (n:Nat) (hn:n≤s.length) (c:UInt8) (hc:c≠0):aq G0 658 [.ref 0 0 0,.int .u8 (c.toNat:Int)] [.cells [.str s,.int .i64 (n:Int)]] (if chr s n c then rpR s (.tup []) (n+1) else pnR s n):=by
 have h1:=fu s hs n hn
 rw[fw hc]
 generalize pk s n=b at*
 by_cases e:b=c
 ·subst e
  rw[decide_eq_true rfl,if_pos rfl]
  have z: ∀ {kv:AV→Prop},kv (.bool false)→ ∃v,bv .neq (.int .u8 (b.toNat:Int)) (.int .u8 (b.toNat:Int))=some v∧kv v:=fun h=>⟨.bool false,by simp[bv],h⟩
  refine ab (F:=QT) rfl rfl (am 300 _ _ _ _ ?_)
  repeat' ((conv=>whnf);first|refine z ?_|refine ay ?_|refine kX [(0,_,_)] [] ⟨rfl,trivial⟩ trivial (h1) ?_|(refine aa ?_ ?_<;>intro h))
  (conv=>whnf);first|refine bg [(0,_,_)] [] [true] ?_|refine bh [(0,_,_)] [] [true] ?_
  rfl
 ·have e2: ¬(b.toNat:Int)=(c.toNat:Int):=fun q=>e (UInt8.toNat_inj.1 (by omega))
  rw[decide_eq_false e,if_neg (by simp)]
  have z: ∀ {kv:AV→Prop},kv (.bool true)→ ∃v,bv .neq (.int .u8 (b.toNat:Int)) (.int .u8 (c.toNat:Int))=some v∧kv v:=fun h=>⟨.bool true,by simp[bv,e2],h⟩
  refine ab (F:=QT) rfl rfl (am 300 _ _ _ _ ?_)
  repeat' ((conv=>whnf);first|refine z ?_|refine ay ?_|refine kX [(0,_,_)] [] ⟨rfl,trivial⟩ trivial (h1) ?_|(refine aa ?_ ?_<;>intro h))
  refine kY ?_
  rfl
end Go.AM.IR
namespace Go.AM.IR
def ld (t:List UInt8):Bool:= !t.isEmpty&& !(decide (1<t.length)&&(t.head?==some 48))
theorem idxA {s done rest:List UInt8} {x:UInt8} {n:Int} (e:s=done++x::rest) (hn:n=done.length):s[n.toNat]? =some x:=by
 rw[e,hn];simp
theorem oU (s:List UInt8) (hs:s.length<2^40) (hd: ∀c∈s,isD c=true): ∀(rest done:List UInt8) (T:List (Nat×AV)) (H:ax) (c:Nat) (n:Int) (e:s=done++rest) (hn:n=done.length),
  Ev G0 ⟨YW,⟨(18,.int .i64 n)::(0,.str s)::(17,.int .i64 s.length)::T,H,c⟩,[.t 2],0⟩ ⟨.bool true,[]⟩
 | [],done,T,H,c,n,e,hn=>by
  have hl:s.length=done.length:=by simp[e]
  refine evl ?_
  repeat' (first|refine ae ?_|(refine aa ?_ ?_<;>intro h))
  refine ag ?_;rfl
 |x::rest,done,T,H,c,n,e,hn=>by
  have hl:s.length=done.length+(rest.length+1):=by simp[e]
  have hb:=idxA e hn
  have hx:48≤x.toNat∧x.toNat≤57:=by
   have:=hd x (by simp[e])
   simpa[isD] using this
  have ih:=fun T H c=>oU s hs hd rest (done++[x]) T H c (n+1) (by simp[e]) (by simp[hn])
  refine evl ?_
  repeat' (first|refine cg ?_|(refine aa ?_ ?_<;>intro h))
  refine ah [18,0,17] [] ?_
  exact ih _ _ _
theorem KC (s:List UInt8) (hs:s.length<2^40) (hd: ∀c∈s,isD c=true):aq G0 347 [.str s] [] ⟨.bool (ld s),[]⟩:=by
 cases s with
 |nil=>
  have z: ∀ {kv:AV→Prop},kv (.bool true)→ ∃v,bv .eql (.str []) (.str [])=some v∧kv v:=fun h=>⟨_,rfl,h⟩
  refine ab (F:=zm) rfl rfl (am 300 _ _ _ _ ?_)
  repeat' ((conv=>whnf);first|refine z ?_|refine ay ?_|(refine aa ?_ ?_<;>intro h))
  refine ag ?_;rfl
 |cons b r=>
  have z: ∀ {kv:AV→Prop},kv (.bool false)→ ∃v,bv .eql (.str (b::r)) (.str [])=some v∧kv v:=fun h=>⟨_,rfl,h⟩
  have hb:(b::r)[(0:Int).toNat]? =some b:=rfl
  have hl:(b::r).length=r.length+1:=rfl
  cases r with
  |nil=>
   rw[show ld [b]=true from by simp[ld]]
   refine ab (F:=zm) rfl rfl (am 300 _ _ _ _ ?_)
   repeat' ((conv=>whnf);first|refine z ?_|refine ay ?_|(refine aa ?_ ?_<;>intro h))
   refine ah [18,0,17] [] ?_
   exact oU [b] hs hd [b] [] _ _ _ 0 rfl rfl
  |cons d q=>
   have hl2:(b::d::q).length=q.length+2:=rfl
   by_cases hz:b=48
   ·subst hz
    rw[show ld (48::d::q)=false from by simp[ld]]
    refine ab (F:=zm) rfl rfl (am 300 _ _ _ _ ?_)
    repeat' ((conv=>whnf);first|refine z ?_|refine zIstr (b:=48) ?_ hb (by omega)|refine ay ?_|(refine aa ?_ ?_<;>intro h))
    refine ag ?_;rfl
   ·have hz2: ¬(b.toNat:Int)=48:=by
     intro e;apply hz;apply UInt8.toNat_inj.1
     show b.toNat=48
     omega
    rw[show ld (b::d::q)=true from by simp[ld,hz]]
    refine ab (F:=zm) rfl rfl (am 300 _ _ _ _ ?_)
    repeat' ((conv=>whnf);first|refine z ?_|refine zIstr (b:=b) ?_ hb (by omega)|refine ay ?_|(refine aa ?_ ?_<;>intro h))
    refine ah [18,0,17] [] ?_
    exact oU (b::d::q) hs hd (b::d::q) [] _ _ _ 0 rfl rfl
def nuR (v e:Int):Ret:=⟨.tup [.int .i64 v,.int .i64 e],[]⟩
theorem w7 (s:List UInt8) (hs:s.length<2^40) (hd: ∀c∈s,isD c=true): ∀(rest done:List UInt8) (a:Int) (T:List (Nat×AV)) (H:ax) (c:Nat) (n:Int) (e:s=done++rest) (hn:n=done.length) (h0:0≤a) (ha:a≤9223372036854775807),
  Ev G0 ⟨Ue,⟨(14,.int .i64 n)::(6,.int .i64 a)::(0,.str s)::(1,.int .i64 4294967295)::(13,.int .i64 s.length)::T,H,c⟩,[.t 4,.t 5],0⟩ (if 4294967295<dt a rest then nuR 0 5 else nuR (dt a rest) 0)
 | [],done,a,T,H,c,n,e,hn,h0,ha=>by
  have hl:s.length=done.length:=by simp[e]
  have hv:dt a []=a:=rfl
  rw[hv]
  by_cases hm:4294967295<a
  ·rw[if_pos hm]
   refine evl ?_
   repeat' (first|refine ae ?_|(refine aa ?_ ?_<;>intro h))
   refine ag ?_;rfl
  ·rw[if_neg hm]
   refine evl ?_
   repeat' (first|refine ae ?_|(refine aa ?_ ?_<;>intro h))
   refine ag ?_;rfl
 |x::rest,done,a,T,H,c,n,e,hn,h0,ha=>by
  have hl:s.length=done.length+(rest.length+1):=by simp[e]
  have hb:=idxA e hn
  have hdx:=hd x (by simp[e])
  have hx:48≤x.toNat∧x.toNat≤57:=by simpa[isD] using hdx
  have hv:=s9 hdx
  have h3:dt a (x::rest)=dt (10*a+fE x) rest:=rfl
  have h4:=yi rest (10*a+fE x) (by omega) (fun y hy=>hd y (by simp[e,hy]))
  rw[h3]
  by_cases ho:a>(9223372036854775807-fE x)/ 10
  ·rw[if_pos (by omega)]
   refine evl ?_
   repeat' ((conv=>whnf);first|refine zIstr ?_ hb (by omega)|refine Ef ?_ hx.1|refine ay ?_|(refine aa ?_ ?_<;>intro h))
   refine ag ?_;rfl
  ·have ih:=fun T H c=>w7 s hs hd rest (done++[x]) (10*a+fE x) T H c (n+1) (by simp[e]) (by simp[hn]) (by omega) (by omega)
   refine evl ?_
   repeat' ((conv=>whnf);first|refine zIstr ?_ hb (by omega)|refine Ef ?_ hx.1|refine ay ?_|(refine aa ?_ ?_<;>intro h))
   refine ah [14,6,0,1,13] [] ?_
   exact ih _ _ _
theorem Mo (s:List UInt8) (hs:s.length<2^40) (hd: ∀c∈s,isD c=true):aq G0 346 [.str s,.int .i64 4294967295] [] (if ld s=true then (if 4294967295<dt 0 s then nuR 0 5 else nuR (dt 0 s) 0) else nuR 0 2):=by
 have hc:=KC s hs hd
 cases hq:ld s
 ·rw[hq] at hc
  rw[if_neg (by simp)]
  exact gvA (F:=Rj)
 ·rw[hq] at hc
  rw[if_pos rfl]
  refine ab (F:=Rj) rfl rfl (am 300 _ _ _ _ ?_)
  repeat' (first|refine ae ?_|(refine aa ?_ ?_<;>intro h))
  refine ah [14,6,0,1,13] [] ?_
  exact w7 s hs hd s [] 0 _ _ _ 0 rfl rfl (by omega) (by omega)
def yP (s:List UInt8) (n:Nat):Nat:=n+((s.drop n).takeWhile isD).length
def Gv (s:List UInt8) (n:Nat):Option (Int×Nat)→Ret
 |some (a,m)=>rpR s (.int .i64 a) m
 |none=>pnR s (yP s n)
theorem abO {s:List UInt8} {n:Nat}:isD (pk s n)=true→n<s.length:=by
 intro h
 rcases Nat.lt_or_ge n s.length with q|q
 ·exact q
 ·rw[pk,List.getElem?_eq_none q] at h;simp[isD] at h
theorem tF (s:List UInt8) (hs:s.length<2^40) (fr:Nat): ∀(f n:Nat) (done:List UInt8) (T:List (Nat×AV)) (H:ax) (c:Nat) (hf:n+f=s.length) (hd: ∀c∈done,isD c=true) (e:s.drop fr=done++s.drop n) (hn:n=fr+done.length),
  Ev G0 ⟨W7,⟨(0,.ref 0 0 0)::(3,.int .i64 (fr:Int))::T,(0,some (0,.cells [.str s,.int .i64 (n:Int)]))::H,c⟩,[.t 2],1⟩ (Gv s fr (fC s fr))
 |f,n,done,T,H,c,hf,hd,e,hn=>by
  have h1:=fu s hs n (by omega)
  by_cases hD:isD (pk s n)=true
  ·have hlt:=abO hD
   have hp:pk s n=s[n]:=by simp[pk,hlt]
   have e2:s.drop n=s[n]::s.drop (n+1):=List.drop_eq_getElem_cons hlt
   rw[←hp] at e2
   have hD':=hD
   obtain ⟨f',rfl⟩: ∃f',f=f'+1:=⟨f-1,by omega⟩
   have ih:=fun T H c=>tF s hs fr f' (n+1) (done++[pk s n]) T H c (by omega) (fun c hc=>by
    rcases List.mem_append.1 hc with hc|hc
    ·exact hd c hc
    ·rw[List.mem_singleton.1 hc];exact hD) (by rw[e,e2];simp) (by simp;omega)
   generalize pk s n=b at*
   have hb:48≤b.toNat∧b.toNat≤57:=by simpa[isD] using hD'
   have hbl:=b.toNat_lt
   refine evl ?_
   repeat' (first|refine ae ?_|refine kX [(0,_,_)] [] ⟨rfl,trivial⟩ trivial (h1) ?_|(refine aa ?_ ?_<;>intro h))
   refine ah [0,3] [0] ?_
   exact ih _ _ _
  ·have ht:(s.drop fr).takeWhile isD=done:=by
    rw[e]
    refine rl hd (fun c hc=>?_)
    have:pk s n=c:=by
     have:s[n]? =some c:=by rw[←hc,List.head?_drop]
     simp[pk,this]
    rw[←this];simpa using hD
   have hm:yP s fr=n:=by rw[yP,ht,hn]
   have hle:fr≤n:=by omega
   have hsl:List.take (n-fr) (List.drop fr s)=done:=by
    rw[e,hn];simp
   have h2:aq G0 346 [.str (List.take (((n:Nat):Int).toNat- ((fr:Nat):Int).toNat) (List.drop ((fr:Nat):Int).toNat s)),.int .i64 4294967295] [] (if ld done=true then (if 4294967295<dt 0 done then nuR 0 5 else nuR (dt 0 done) 0) else nuR 0 2):=by
    have q:List.take (((n:Nat):Int).toNat- ((fr:Nat):Int).toNat) (List.drop ((fr:Nat):Int).toNat s)=done:=by simpa using hsl
    rw[q];exact Mo done (by rw[←hsl];simp;omega) hd
   have hb: ¬(48≤(pk s n).toNat∧(pk s n).toNat≤57):=by simpa[isD] using hD
   have hbl:=(pk s n).toNat_lt
   have hpn:fC s fr=if ld done=true∧dt 0 done≤4294967295 then some (dt 0 done,n) else none:=by
    unfold fC
    rw[ht]
    dsimp only
    unfold ld
    by_cases a1:done= []
    ·simp[a1]
    by_cases a2:1<done.length∧done.head?=some 48
    ·simp[a1,a2]
    ·have hn':fr+done.length=n:=hn.symm
     simp only[if_neg a1,if_neg a2,hn']
     have a3:(!done.isEmpty&& !(decide (1<done.length)&&(done.head?==some 48)))=true:=by
      rw[Bool.and_eq_true]
      refine ⟨by simpa using a1,?_⟩
      simp only[Bool.not_eq_true',Bool.and_eq_false_iff,decide_eq_false_iff_not,beq_eq_false_iff_ne]
      rcases Decidable.em (1<done.length) with q|q
      ·exact .inr fun w=>a2 ⟨q,w⟩
      ·exact .inl q
     simp only[a3]
     by_cases a4:4294967295<dt 0 done
     ·rw[if_pos a4,if_neg (by omega)]
     ·rw[if_neg a4,if_pos ⟨trivial,by omega⟩]
   rw[hpn]
   by_cases k1:ld done=true
   ·rw[if_pos k1] at h2
    by_cases k2:4294967295<dt 0 done
    ·rw[if_pos k2] at h2
     rw[if_neg (by omega),Gv,hm]
     unfold nuR at h2
     refine evl ?_
     repeat' (first|refine ae ?_|refine kX [(0,_,_)] [] ⟨rfl,trivial⟩ trivial (h1) ?_|(refine aa ?_ ?_<;>intro h))
     all_goals try (exfalso;omega)
     all_goals (refine kY ?_;rfl)
    ·rw[if_neg k2] at h2
     rw[if_pos ⟨k1,by omega⟩,Gv]
     generalize dt 0 done=V at*
     unfold nuR at h2
     refine evl ?_
     repeat' (first|refine ae ?_|refine kX [(0,_,_)] [] ⟨rfl,trivial⟩ trivial (h1) ?_|(refine aa ?_ ?_<;>intro h))
     all_goals try (exfalso;omega)
     all_goals
      (conv=>whnf);first|refine bg [(0,_,_)] [] [true] ?_|refine bh [(0,_,_)] [] [true] ?_
      rfl
   ·rw[if_neg k1] at h2
    rw[if_neg (fun q=>k1 q.1),Gv,hm]
    unfold nuR at h2
    refine evl ?_
    repeat' (first|refine ae ?_|refine kX [(0,_,_)] [] ⟨rfl,trivial⟩ trivial (h1) ?_|(refine aa ?_ ?_<;>intro h))
    all_goals try (exfalso;omega)
    all_goals (refine kY ?_;rfl)
theorem nk (s:List UInt8) (hs:s.length<2^40) (n:Nat) (hn:n≤s.length):aq G0 657 [.ref 0 0 0] [.cells [.str s,.int .i64 (n:Int)]] (Gv s n (fC s n)):=by
 refine ab (F:=W8) rfl rfl (am 300 _ _ _ _ ?_)
 repeat' (first|refine ae ?_|(refine aa ?_ ?_<;>intro h))
 refine ah [0,3] [0] ?_
 exact tF s hs n (s.length-n) n [] _ _ _ (by omega) (fun c h=>by cases h) (by simp) (by simp)
end Go.AM.IR
namespace Go.AM.IR
def i6 (f:Nat) (s:List UInt8) (lv:Int) (n:Nat):Option (Rx×Nat)→Prop
 |some (x,m)=>aq G0 f [.ref 0 0 0,.int .i64 lv] [.cells [.str s,.int .i64 (n:Int)]] (rpR s (.agg x.enc) m)
 |none=> ∃m,aq G0 f [.ref 0 0 0,.int .i64 lv] [.cells [.str s,.int .i64 (n:Int)]] (pnR s m)
theorem jb {s:List UInt8} {n:Nat} {c:UInt8} (h:pk s n=c) (hc:c≠0):n<s.length:=by
 rcases Nat.lt_or_ge n s.length with q|q
 ·exact q
 ·rw[pk,List.getElem?_eq_none q] at h;exact absurd h.symm hc
theorem jl {a b:UInt8} (h: ¬a=b): ¬(a.toNat:Int)=(b.toNat:Int):=fun q=>h (UInt8.toNat_inj.1 (by omega))
theorem D9 (s:List UInt8) (hs:s.length<2^40) (alt:PR) (lv:Int) (hl:lv≤32) (hl0:0≤lv) (hp:Pos s alt) (hA: ∀n,n≤s.length→i6 579 s (lv+1) n (alt n)) (n:Nat) (hn:n≤s.length):i6 653 s lv n (cH s (fC s) alt n):=by
 have h1:=fu s hs n hn
 have hbl:=(pk s n).toNat_lt
 unfold cH
 simp only[fw (show (46:UInt8)≠0 by decide),fw (show (33:UInt8)≠0 by decide),fw (show (40:UInt8)≠0 by decide),fw (show (41:UInt8)≠0 by decide),fw (show (91:UInt8)≠0 by decide),fw (show (93:UInt8)≠0 by decide),fw (show (45:UInt8)≠0 by decide),decide_eq_true_eq]
 by_cases c1:pk s n=46
 ·rw[if_pos c1]
  have hlt:=jb c1 (by decide)
  rw[c1] at h1
  show aq G0 653 _ _ (rpR s (.agg (Rx.mk 2 0 0 []).enc) (n+1))
  rw[e0]
  refine ab (F:=jG) rfl rfl (am 300 _ _ _ _ ?_)
  repeat' (first|refine ae ?_|refine kX [(0,_,_)] [] ⟨rfl,trivial⟩ trivial (h1) ?_|(refine aa ?_ ?_<;>intro h))
  refine ec [] [(68,some (_,.cells ([.int .i64 2,.int .i64 0,.int .i64 0,.sl 4 []])))] trivial ⟨⟨rfl,leA⟩,trivial⟩ ?_
  (conv=>whnf);first|refine bg [(0,_,_)] [] [true] ?_|refine bh [(0,_,_)] [] [true] ?_
  refine cG ?_
  rfl
 rw[if_neg c1]
 have d1: ¬((pk s n).toNat:Int)=46:=jl c1
 by_cases c2:pk s n=33
 ·rw[if_pos c2]
  have hlt:=jb c2 (by decide)
  rw[c2] at h1
  show aq G0 653 _ _ (rpR s (.agg (Rx.mk 4 0 0 []).enc) (n+1))
  rw[e0]
  refine ab (F:=jG) rfl rfl (am 300 _ _ _ _ ?_)
  repeat' (first|refine ae ?_|refine kX [(0,_,_)] [] ⟨rfl,trivial⟩ trivial (h1) ?_|(refine aa ?_ ?_<;>intro h))
  refine ec [] [(68,some (_,.cells ([.int .i64 4,.int .i64 0,.int .i64 0,.sl 4 []])))] trivial ⟨⟨rfl,leA⟩,trivial⟩ ?_
  (conv=>whnf);first|refine bg [(0,_,_)] [] [true] ?_|refine bh [(0,_,_)] [] [true] ?_
  refine cG ?_
  rfl
 rw[if_neg c2]
 have d2: ¬((pk s n).toNat:Int)=33:=jl c2
 by_cases c3:pk s n=40
 ·rw[if_pos c3]
  have hlt:=jb c3 (by decide)
  rw[c3] at h1
  have h2:=fu s hs (n+1) (by omega)
  have hbl2:=(pk s (n+1)).toNat_lt
  by_cases c4:pk s (n+1)=41
  ·rw[if_pos c4]
   have hlt2:=jb c4 (by decide)
   rw[c4] at h2
   show aq G0 653 _ _ (rpR s (.agg (Rx.mk 0 0 0 []).enc) (n+1+1))
   rw[e0]
   refine ab (F:=jG) rfl rfl (am 300 _ _ _ _ ?_)
   repeat' (first|refine ae ?_|refine kX [(0,_,_)] [] ⟨rfl,trivial⟩ trivial (h1) ?_|refine kX [(0,_,_)] [] ⟨rfl,trivial⟩ trivial (h2) ?_|(refine aa ?_ ?_<;>intro h))
   refine ec [] [(68,some (_,.cells ([.int .i64 0,.int .i64 0,.int .i64 0,.sl 4 []])))] trivial ⟨⟨rfl,leA⟩,trivial⟩ ?_
   (conv=>whnf);first|refine bg [(0,_,_)] [] [true] ?_|refine bh [(0,_,_)] [] [true] ?_
   refine cG ?_
   rfl
  rw[if_neg c4]
  have d4: ¬((pk s (n+1)).toNat:Int)=41:=jl c4
  have hq:=hA (n+1) (by omega)
  cases ha:alt (n+1) with
  |none=>
   rw[ha] at hq
   obtain ⟨m,hq⟩:=hq
   refine ⟨m,?_⟩
   generalize pk s (n+1)=b2 at*
   refine ab (F:=jG) rfl rfl (am 300 _ _ _ _ ?_)
   repeat' (first|refine ae ?_|refine kX [(0,_,_)] [] ⟨rfl,trivial⟩ trivial (h1) ?_|refine kX [(0,_,_)] [] ⟨rfl,trivial⟩ trivial (h2) ?_|(refine aa ?_ ?_<;>intro h))
   (conv=>whnf)
   refine CallG.stop ?_
   refine dm 579 hq (fun Q hr hg=>?_)
   refine kX [(0,_,_)] [] ⟨rfl,trivial⟩ trivial hg ?_ (hE:=by rw[hr];rfl)
   rfl
  |some q=>
   obtain ⟨x,m⟩:=q
   rw[ha] at hq
   obtain ⟨p1,p2,p3⟩:=hp (n+1) x m (by omega) ha
   have h3:=nI s hs m p2 41 (by decide)
   obtain ⟨k,lo,hi,l⟩:=x
   change aq G0 579 _ _ (rpR s (.agg (Rx.mk k lo hi l).enc) m) at hq
   rw[bi] at hq
   rw[fw (show (41:UInt8)≠0 by decide)] at h3
   generalize pk s (n+1)=b2 at*
   dsimp only
   by_cases c5:pk s m=41
   ·have hlt3:=jb c5 (by decide)
    rw[if_pos c5]
    rw[if_pos (by simpa using c5)] at h3
    show aq G0 653 _ _ (rpR s (.agg (Rx.mk k lo hi l).enc) (m+1))
    rw[bi]
    refine ab (F:=jG) rfl rfl (am 300 _ _ _ _ ?_)
    repeat' (first|refine ae ?_|refine kX [(0,_,_)] [] ⟨rfl,trivial⟩ trivial (h1) ?_|refine kX [(0,_,_)] [] ⟨rfl,trivial⟩ trivial (h2) ?_|refine kX [(0,_,_)] [] ⟨rfl,trivial⟩ trivial (hq) ?_|refine kX [(0,_,_)] [] ⟨rfl,trivial⟩ trivial (h3) ?_|(refine aa ?_ ?_<;>intro h))
    (conv=>whnf);first|refine bg [(0,_,_)] [] [true] ?_|refine bh [(0,_,_)] [] [true] ?_
    refine cG ?_
    rfl
   ·rw[if_neg c5]
    rw[if_neg (by simpa using c5)] at h3
    refine ⟨m,?_⟩
    refine ab (F:=jG) rfl rfl (am 300 _ _ _ _ ?_)
    repeat' (first|refine ae ?_|refine kX [(0,_,_)] [] ⟨rfl,trivial⟩ trivial (h1) ?_|refine kX [(0,_,_)] [] ⟨rfl,trivial⟩ trivial (h2) ?_|refine kX [(0,_,_)] [] ⟨rfl,trivial⟩ trivial (hq) ?_|(refine aa ?_ ?_<;>intro h))
    (conv=>whnf)
    refine CallG.stop ?_
    refine dm 658 h3 (fun Q hr hg=>?_)
    refine kX [(0,_,_)] [] ⟨rfl,trivial⟩ trivial hg ?_ (hE:=by rw[hr];rfl)
    rfl
 rw[if_neg c3]
 have d3: ¬((pk s n).toNat:Int)=40:=jl c3
 by_cases c6:pk s n=91
 ·rw[if_pos c6]
  have hlt:=jb c6 (by decide)
  rw[c6] at h1
  have h2:=nk s hs (n+1) (by omega)
  cases ha:fC s (n+1) with
  |none=>
   rw[ha] at h2
   refine ⟨yP s (n+1),?_⟩
   refine ab (F:=jG) rfl rfl (am 300 _ _ _ _ ?_)
   repeat' (first|refine ae ?_|refine kX [(0,_,_)] [] ⟨rfl,trivial⟩ trivial (h1) ?_|(refine aa ?_ ?_<;>intro h))
   (conv=>whnf)
   refine CallG.stop ?_
   refine dm 657 h2 (fun Q hr hg=>?_)
   refine kX [(0,_,_)] [] ⟨rfl,trivial⟩ trivial hg ?_ (hE:=by rw[hr];rfl)
   rfl
  |some q=>
   obtain ⟨a,m⟩:=q
   rw[ha] at h2
   obtain ⟨p1,p2⟩:=kD s (n+1) a m (by omega) ha
   have h3:=nI s hs m p2 45 (by decide)
   rw[fw (show (45:UInt8)≠0 by decide)] at h3
   dsimp only
   change aq G0 657 _ _ (rpR s (.int .i64 a) m) at h2
   by_cases c7:pk s m=45
   ·have hlt3:=jb c7 (by decide)
    rw[if_pos c7]
    rw[if_pos (by simpa using c7)] at h3
    have h4:=nk s hs (m+1) (by omega)
    cases hb:fC s (m+1) with
    |none=>
     rw[hb] at h4
     refine ⟨yP s (m+1),?_⟩
     refine ab (F:=jG) rfl rfl (am 300 _ _ _ _ ?_)
     repeat' (first|refine ae ?_|refine kX [(0,_,_)] [] ⟨rfl,trivial⟩ trivial (h1) ?_|refine kX [(0,_,_)] [] ⟨rfl,trivial⟩ trivial (h2) ?_|refine kX [(0,_,_)] [] ⟨rfl,trivial⟩ trivial (h3) ?_|(refine aa ?_ ?_<;>intro h))
     (conv=>whnf)
     refine CallG.stop ?_
     refine dm 657 h4 (fun Q hr hg=>?_)
     refine kX [(0,_,_)] [] ⟨rfl,trivial⟩ trivial hg ?_ (hE:=by rw[hr];rfl)
     rfl
    |some q=>
     obtain ⟨b,k⟩:=q
     rw[hb] at h4
     obtain ⟨q1,q2⟩:=kD s (m+1) b k (by omega) hb
     have h5:=nI s hs k q2 93 (by decide)
     rw[fw (show (93:UInt8)≠0 by decide)] at h5
     dsimp only
     change aq G0 657 _ _ (rpR s (.int .i64 b) k) at h4
     by_cases c8:pk s k=93
     ·have hlt4:=jb c8 (by decide)
      rw[if_pos c8]
      rw[if_pos (by simpa using c8)] at h5
      show aq G0 653 _ _ (rpR s (.agg (Rx.mk 1 a b []).enc) (k+1))
      rw[e0]
      refine ab (F:=jG) rfl rfl (am 300 _ _ _ _ ?_)
      repeat' (first|refine ae ?_|refine kX [(0,_,_)] [] ⟨rfl,trivial⟩ trivial (h1) ?_|refine kX [(0,_,_)] [] ⟨rfl,trivial⟩ trivial (h2) ?_|refine kX [(0,_,_)] [] ⟨rfl,trivial⟩ trivial (h3) ?_|refine kX [(0,_,_)] [] ⟨rfl,trivial⟩ trivial (h4) ?_|refine kX [(0,_,_)] [] ⟨rfl,trivial⟩ trivial (h5) ?_|(refine aa ?_ ?_<;>intro h))
      refine ec [] [(68,some (_,.cells ([.int .i64 1,.int .i64 a,.int .i64 b,.sl 4 []])))] trivial ⟨⟨rfl,leA⟩,trivial⟩ ?_
      (conv=>whnf);first|refine bg [(0,_,_)] [] [true] ?_|refine bh [(0,_,_)] [] [true] ?_
      refine cG ?_
      rfl
     ·rw[if_neg c8]
      rw[if_neg (by simpa using c8)] at h5
      refine ⟨k,?_⟩
      refine ab (F:=jG) rfl rfl (am 300 _ _ _ _ ?_)
      repeat' (first|refine ae ?_|refine kX [(0,_,_)] [] ⟨rfl,trivial⟩ trivial (h1) ?_|refine kX [(0,_,_)] [] ⟨rfl,trivial⟩ trivial (h2) ?_|refine kX [(0,_,_)] [] ⟨rfl,trivial⟩ trivial (h3) ?_|refine kX [(0,_,_)] [] ⟨rfl,trivial⟩ trivial (h4) ?_|(refine aa ?_ ?_<;>intro h))
      (conv=>whnf)
      refine CallG.stop ?_
      refine dm 658 h5 (fun Q hr hg=>?_)
      refine kX [(0,_,_)] [] ⟨rfl,trivial⟩ trivial hg ?_ (hE:=by rw[hr];rfl)
      rfl
   ·rw[if_neg c7]
    rw[if_neg (by simpa using c7)] at h3
    refine ⟨m,?_⟩
    refine ab (F:=jG) rfl rfl (am 300 _ _ _ _ ?_)
    repeat' (first|refine ae ?_|refine kX [(0,_,_)] [] ⟨rfl,trivial⟩ trivial (h1) ?_|refine kX [(0,_,_)] [] ⟨rfl,trivial⟩ trivial (h2) ?_|(refine aa ?_ ?_<;>intro h))
    (conv=>whnf)
    refine CallG.stop ?_
    refine dm 658 h3 (fun Q hr hg=>?_)
    refine kX [(0,_,_)] [] ⟨rfl,trivial⟩ trivial hg ?_ (hE:=by rw[hr];rfl)
    rfl
 rw[if_neg c6]
 have d6: ¬((pk s n).toNat:Int)=91:=jl c6
 have h2:=nk s hs n hn
 generalize pk s n=b1 at*
 cases ha:fC s n with
 |none=>
  rw[ha] at h2
  refine ⟨yP s n,?_⟩
  refine ab (F:=jG) rfl rfl (am 300 _ _ _ _ ?_)
  repeat' (first|refine ae ?_|refine kX [(0,_,_)] [] ⟨rfl,trivial⟩ trivial (h1) ?_|(refine aa ?_ ?_<;>intro h))
  (conv=>whnf)
  refine CallG.stop ?_
  refine dm 657 h2 (fun Q hr hg=>?_)
  refine kX [(0,_,_)] [] ⟨rfl,trivial⟩ trivial hg ?_ (hE:=by rw[hr];rfl)
  rfl
 |some q=>
  obtain ⟨a,m⟩:=q
  rw[ha] at h2
  obtain ⟨p1,p2⟩:=kD s n a m hn ha
  dsimp only
  change aq G0 657 _ _ (rpR s (.int .i64 a) m) at h2
  show aq G0 653 _ _ (rpR s (.agg (Rx.mk 1 a a []).enc) (m))
  rw[e0]
  refine ab (F:=jG) rfl rfl (am 300 _ _ _ _ ?_)
  repeat' (first|refine ae ?_|refine kX [(0,_,_)] [] ⟨rfl,trivial⟩ trivial (h1) ?_|refine kX [(0,_,_)] [] ⟨rfl,trivial⟩ trivial (h2) ?_|(refine aa ?_ ?_<;>intro h))
  refine ec [] [(68,some (_,.cells ([.int .i64 1,.int .i64 a,.int .i64 a,.sl 4 []])))] trivial ⟨⟨rfl,leA⟩,trivial⟩ ?_
  (conv=>whnf);first|refine bg [(0,_,_)] [] [true] ?_|refine bh [(0,_,_)] [] [true] ?_
  refine cG ?_
  rfl
theorem DF (s:List UInt8) (hs:s.length<2^40) (atom:PR) (lv:Int) (hp:Pos s atom) (n:Nat) (hn:n≤s.length) (hA:i6 653 s lv n (atom n)):i6 646 s lv n (dQ s atom n):=by
 unfold dQ
 cases ha:atom n with
 |none=>
  rw[ha] at hA
  obtain ⟨m,hq⟩:=hA
  refine ⟨m,?_⟩
  refine ab (F:=uI) rfl rfl (am 300 _ _ _ _ ?_)
  repeat' (first|refine ae ?_|(refine aa ?_ ?_<;>intro h))
  (conv=>whnf)
  refine CallG.stop ?_
  refine dm 653 hq (fun Q hr hg=>?_)
  refine kX [(0,_,_)] [] ⟨rfl,trivial⟩ trivial hg ?_ (hE:=by rw[hr];rfl)
  rfl
 |some q=>
  obtain ⟨x,m⟩:=q
  rw[ha] at hA
  obtain ⟨p1,p2,p3⟩:=hp n x m hn ha
  have h2:=fu s hs m p2
  have hbl:=(pk s m).toNat_lt
  obtain ⟨k,lo,hi,l⟩:=x
  change aq G0 653 _ _ (rpR s (.agg (Rx.mk k lo hi l).enc) m) at hA
  rw[bi] at hA
  dsimp only
  simp only[fw (show (42:UInt8)≠0 by decide),fw (show (43:UInt8)≠0 by decide),fw (show (63:UInt8)≠0 by decide),decide_eq_true_eq]
  by_cases c0:pk s m=42
  ·rw[if_pos c0]
   have hlt:=jb c0 (by decide)
   rw[c0] at h2
   show aq G0 646 _ _ (rpR s (.agg (Rx.mk 5 0 0 [Rx.mk k lo hi l]).enc) (m+1))
   rw[bi,List.map_cons,List.map_nil,bi]
   refine ab (F:=uI) rfl rfl (am 300 _ _ _ _ ?_)
   repeat' (first|refine ae ?_|refine kX [(0,_,_)] [] ⟨rfl,trivial⟩ trivial (hA) ?_|refine kX [(0,_,_)] [] ⟨rfl,trivial⟩ trivial (h2) ?_|(refine aa ?_ ?_<;>intro h))
   refine s8 [(92,_,_)] [4] [68] [0] ⟨rfl,frP,trivial⟩ ?_;repeat ((conv=>whnf);first|refine frA ?_|intro T H)
   (conv=>whnf);first|refine bg [(0,_,_)] [] [true] ?_|refine bh [(0,_,_)] [] [true] ?_
   refine cG ?_
   rfl
  rw[if_neg c0]
  have d0: ¬((pk s m).toNat:Int)=42:=jl c0
  by_cases c1:pk s m=43
  ·rw[if_pos c1]
   have hlt:=jb c1 (by decide)
   rw[c1] at h2
   show aq G0 646 _ _ (rpR s (.agg (Rx.mk 6 0 0 [Rx.mk k lo hi l]).enc) (m+1))
   rw[bi,List.map_cons,List.map_nil,bi]
   refine ab (F:=uI) rfl rfl (am 300 _ _ _ _ ?_)
   repeat' (first|refine ae ?_|refine kX [(0,_,_)] [] ⟨rfl,trivial⟩ trivial (hA) ?_|refine kX [(0,_,_)] [] ⟨rfl,trivial⟩ trivial (h2) ?_|(refine aa ?_ ?_<;>intro h))
   refine s8 [(92,_,_)] [4] [68] [0] ⟨rfl,frP,trivial⟩ ?_;repeat ((conv=>whnf);first|refine frA ?_|intro T H)
   (conv=>whnf);first|refine bg [(0,_,_)] [] [true] ?_|refine bh [(0,_,_)] [] [true] ?_
   refine cG ?_
   rfl
  rw[if_neg c1]
  have d1: ¬((pk s m).toNat:Int)=43:=jl c1
  by_cases c2:pk s m=63
  ·rw[if_pos c2]
   have hlt:=jb c2 (by decide)
   rw[c2] at h2
   show aq G0 646 _ _ (rpR s (.agg (Rx.mk 7 0 0 [Rx.mk k lo hi l]).enc) (m+1))
   rw[bi,List.map_cons,List.map_nil,bi]
   refine ab (F:=uI) rfl rfl (am 300 _ _ _ _ ?_)
   repeat' (first|refine ae ?_|refine kX [(0,_,_)] [] ⟨rfl,trivial⟩ trivial (hA) ?_|refine kX [(0,_,_)] [] ⟨rfl,trivial⟩ trivial (h2) ?_|(refine aa ?_ ?_<;>intro h))
   refine s8 [(92,_,_)] [4] [68] [0] ⟨rfl,frP,trivial⟩ ?_;repeat ((conv=>whnf);first|refine frA ?_|intro T H)
   (conv=>whnf);first|refine bg [(0,_,_)] [] [true] ?_|refine bh [(0,_,_)] [] [true] ?_
   refine cG ?_
   rfl
  rw[if_neg c2]
  have d2: ¬((pk s m).toNat:Int)=63:=jl c2
  show aq G0 646 _ _ (rpR s (.agg (Rx.mk k lo hi l).enc) m)
  rw[bi]
  generalize pk s m=b1 at*
  refine ab (F:=uI) rfl rfl (am 300 _ _ _ _ ?_)
  repeat' (first|refine ae ?_|refine kX [(0,_,_)] [] ⟨rfl,trivial⟩ trivial (hA) ?_|refine kX [(0,_,_)] [] ⟨rfl,trivial⟩ trivial (h2) ?_|(refine aa ?_ ?_<;>intro h))
  (conv=>whnf);first|refine bg [(0,_,_)] [] [true] ?_|refine bh [(0,_,_)] [] [true] ?_
  refine cG ?_
  rfl
end Go.AM.IR
namespace Go.AM.IR
def Wg (s:List UInt8):Option (Rx×Nat)→Ret→Prop
 |some (x,m),t=>t=rpR s (.agg x.enc) m
 |none,t=> ∃m,t=pnR s m
theorem NQ {f:Nat} {s:List UInt8} {lv:Int} {n:Nat} {o:Option (Rx×Nat)} {t:Ret} (h:Wg s o t) (g:aq G0 f [.ref 0 0 0,.int .i64 lv] [.cells [.str s,.int .i64 (n:Int)]] t):i6 f s lv n o:=by
 cases o with
 |none=>obtain ⟨m,rfl⟩:=h;exact ⟨m,g⟩
 |some p=>obtain ⟨x,m⟩:=p;obtain rfl:t=_:=h;exact g
def Kj (s:List UInt8) (item:PR) (c:UInt8) (f:Nat) (acc:List Rx) (m:Nat):Option (List Rx×Nat):=if chr s m c then dY s item c f acc (m+1) else some (acc,m)
theorem pC {s:List UInt8} {item:PR} {c:UInt8} {f:Nat} {acc:List Rx} {n:Nat} {x:Rx} {m:Nat} (h:item n=some (x,m)):dY s item c (f+1) acc n=Kj s item c f (acc++[x]) m:=by
 rw[dY,h];rfl
theorem pB {s:List UInt8} {item:PR} {c:UInt8} {f:Nat} {acc:List Rx} {n:Nat} (h:item n=none):dY s item c (f+1) acc n=none:=by
 rw[dY,h]
theorem wm (s:List UInt8) (hs:s.length<2^32) (item:PR) (lv:Int) (hp:Pos s item) (hA: ∀n,n≤s.length→i6 646 s lv n (item n)): ∀(f:Nat) (acc:List Rx) (m:Nat) (hf:s.length<f+(m+1)) (hm:m≤s.length) (hne:acc≠ []) (hac:acc.length+f≤s.length+1),∃t,Wg s (fY 3 (Kj s item 32 f acc m)) t∧ ∀(T:List (Nat×AV)) (H:ax) (c g g4:Nat) (es:List (List AV)) (k:Nat) (hes:es=acc.map Rx.enc) (hk:k=acc.length),Ev G0 ⟨Xh,⟨(1,.int .i64 lv)::(0,.ref 0 0 0)::(5,.vs 89 g k)::(4,.ref 68 g4 0)::T,(0,some (0,.cells [.str s,.int .i64 (m:Int)]))::(68,some (g4,.cells [.int .i64 0,.int .i64 0,.int .i64 0,.con (.slice none 0 0)]))::(89,some (g,.vec 4 es))::H,c⟩,[.cell 4 (some 4)],1⟩ t
 |f,acc,m,hf,hm,hne,hac=>by
  have h1:=fu s (by omega) m hm
  have hbl:=(pk s m).toNat_lt
  have hl:(acc.map Rx.enc).length=acc.length:=by simp
  unfold Kj
  simp only[fw (show (32:UInt8)≠0 by decide),decide_eq_true_eq]
  by_cases c1:pk s m=32
  ·rw[if_pos c1]
   rw[c1] at h1
   have hlt:=jb c1 (by decide)
   have hq:=hA (m+1) (by omega)
   obtain ⟨f',rfl⟩: ∃f',f=f'+1:=⟨f-1,by omega⟩
   cases ha:item (m+1) with
   |none=>
    rw[ha] at hq
    obtain ⟨m',hq⟩:=hq
    rw[pB ha]
    refine ⟨_,⟨m',rfl⟩,fun T H c g g4 es k hes hk=>?_⟩
    subst hes hk
    refine evl ?_
    repeat' (first|refine ae ?_|refine kX [(0,_,_)] [] ⟨rfl,trivial⟩ trivial (h1) ?_|(refine aa ?_ ?_<;>intro h))
    (conv=>whnf)
    refine CallG.stop ?_
    refine dm 646 hq (fun Q hr hg=>?_)
    refine kX [(0,_,_)] [] ⟨rfl,trivial⟩ trivial hg ?_ (hE:=by rw[hr];rfl)
    rfl
   |some p=>
    obtain ⟨x,m'⟩:=p
    rw[ha] at hq
    obtain ⟨p1,p2,_⟩:=hp _ _ _ (by omega) ha
    rw[pC ha]
    have hpx:=cm x
    have hax:(acc++[x]).map Rx.enc=acc.map Rx.enc++[x.enc]:=by simp
    obtain ⟨t,h2,h3⟩:=wm s hs item lv hp hA f' (acc++[x]) m' (by omega) p2 (by simp) (by simp;omega)
    refine ⟨t,h2,fun T H c g g4 es k hes hk=>?_⟩
    subst hes hk
    rw[hax] at h3
    simp only[i6] at hq
    generalize hxe:x.enc=xe at*
    obtain ⟨k,lo,hi,l⟩:=x
    rw[bi] at hxe
    subst hxe
    refine evl ?_
    repeat' (first|refine ae ?_|refine kX [(0,_,_)] [] ⟨rfl,trivial⟩ trivial (h1) ?_|refine kX [(0,_,_)] [] ⟨rfl,trivial⟩ trivial (hq) ?_|(refine aa ?_ ?_<;>intro h))
    refine ah [1,0,5,4] [0,68,89] ?_
    exact h3 _ _ _ _ _ _ _ rfl (by simp)
  ·rw[if_neg c1]
   have d1: ¬((pk s m).toNat:Int)=32:=jl c1
   generalize pk s m=b1 at*
   cases acc with
   |nil=>exact absurd rfl hne
   |cons x r=>
    cases r with
    |nil=>
     refine ⟨rpR s (.agg x.enc) m,rfl,fun T H c g g4 es k hes hk=>?_⟩
     obtain rfl:es= [x.enc]:=hes
     obtain rfl:k=1:=hk
     generalize hxe:x.enc=xe at*
     obtain ⟨k,lo,hi,l⟩:=x
     rw[bi] at hxe
     subst hxe
     refine evl ?_
     repeat' (first|refine ae ?_|refine kX [(0,_,_)] [] ⟨rfl,trivial⟩ trivial (h1) ?_|refine And.intro (show Int.toNat 0<0+1 from Nat.one_pos) ?_|(refine aa ?_ ?_<;>intro h))
     (conv=>whnf);first|refine bg [(0,_,_)] [] [true] ?_|refine bh [(0,_,_)] [] [true] ?_
     refine cG ?_
     rfl
    |cons y q=>
     refine ⟨rpR s (.agg (Rx.mk 3 0 0 (x::y::q)).enc) m,rfl,fun T H c g g4 es k hes hk=>?_⟩
     subst hes hk
     rw[bi]
     have hl2:(x::y::q).length=q.length+2:=rfl
     refine evl ?_
     repeat' (first|refine ae ?_|refine kX [(0,_,_)] [] ⟨rfl,trivial⟩ trivial (h1) ?_|(refine aa ?_ ?_<;>intro h))
     refine jL [(89,_,_)] [4] [0,68] ⟨rfl,frP,trivial⟩ ?_;repeat ((conv=>whnf);first|refine frA ?_|intro T H)
     (conv=>whnf);first|refine bg [(0,_,_)] [] [true] ?_|refine bh [(0,_,_)] [] [true] ?_
     refine cG ?_
     rfl
theorem LZ (s:List UInt8) (hs:s.length<2^32) (item:PR) (lv:Int) (hp:Pos s item) (hA: ∀n,n≤s.length→i6 646 s lv n (item n)) (n:Nat) (hn:n≤s.length):i6 624 s lv n (fY 3 (dY s item 32 (s.length+1) [] n)):=by
 have hq:=hA n hn
 cases ha:item n with
 |none=>
  rw[ha] at hq
  obtain ⟨m',hq⟩:=hq
  rw[pB ha]
  refine ⟨m',?_⟩
  refine ab (F:=QW) rfl rfl (am 300 _ _ _ _ ?_)
  repeat' (first|refine ae ?_|(refine aa ?_ ?_<;>intro h))
  (conv=>whnf)
  refine CallG.stop ?_
  refine dm 646 hq (fun Q hr hg=>?_)
  refine kX [(0,_,_)] [] ⟨rfl,trivial⟩ trivial hg ?_ (hE:=by rw[hr];rfl)
  rfl
 |some p=>
  obtain ⟨x,m⟩:=p
  rw[ha] at hq
  obtain ⟨p1,p2,_⟩:=hp _ _ _ hn ha
  rw[pC ha]
  have hpx:=cm x
  obtain ⟨t,h1,h2⟩:=wm s hs item lv hp hA s.length [x] m (by omega) p2 (by simp) (by simp;omega)
  refine NQ h1 ?_
  simp only[i6] at hq
  generalize hxe:x.enc=xe at*
  obtain ⟨k,lo,hi,l⟩:=x
  rw[bi] at hxe
  have h3:=fun T H c g g4=>h2 T H c g g4 _ _ rfl rfl
  subst hxe
  simp only[List.map_cons,List.map_nil,bi,List.length_cons,List.length_nil] at h3
  refine ab (F:=QW) rfl rfl (am 300 _ _ _ _ ?_)
  repeat' (first|refine ae ?_|refine kX [(0,_,_)] [] ⟨rfl,trivial⟩ trivial (hq) ?_|(refine aa ?_ ?_<;>intro h))
  (conv=>whnf)
  refine Uh 73 89 [(1,_),(0,_),(5,.vs 89 _ _),(4,_)] [(0,_),(68,_)] rfl puL (by decide) ⟨rfl,rfl,(by show AV.ren _ (.vs 73 _ _)=_;simp only[AV.ren,φM,and_self,if_true];rfl),rfl,trivial⟩ ⟨⟨by decide,by decide,rfl⟩,⟨by decide,by decide,rfl⟩,trivial⟩ ?_
  intro T H
  refine ah [1,0,5,4] [0,68,89] ?_
  exact h3 _ _ _ _ _
theorem wo (s:List UInt8) (hs:s.length<2^32) (item:PR) (lv:Int) (hp:Pos s item) (hA: ∀n,n≤s.length→i6 624 s lv n (item n)): ∀(f:Nat) (acc:List Rx) (m:Nat) (hf:s.length<f+(m+1)) (hm:m≤s.length) (hne:acc≠ []) (hac:acc.length+f≤s.length+1),∃t,Wg s (fY 4 (Kj s item 124 f acc m)) t∧ ∀(T:List (Nat×AV)) (H:ax) (c g g4:Nat) (es:List (List AV)) (k:Nat) (hes:es=acc.map Rx.enc) (hk:k=acc.length),Ev G0 ⟨XO,⟨(1,.int .i64 lv)::(0,.ref 0 0 0)::(5,.vs 93 g k)::(4,.ref 68 g4 0)::T,(0,some (0,.cells [.str s,.int .i64 (m:Int)]))::(68,some (g4,.cells [.int .i64 0,.int .i64 0,.int .i64 0,.con (.slice none 0 0)]))::(93,some (g,.vec 4 es))::H,c⟩,[.cell 4 (some 4)],1⟩ t
 |f,acc,m,hf,hm,hne,hac=>by
  have h1:=fu s (by omega) m hm
  have hbl:=(pk s m).toNat_lt
  have hl:(acc.map Rx.enc).length=acc.length:=by simp
  unfold Kj
  simp only[fw (show (124:UInt8)≠0 by decide),decide_eq_true_eq]
  by_cases c1:pk s m=124
  ·rw[if_pos c1]
   rw[c1] at h1
   have hlt:=jb c1 (by decide)
   have hq:=hA (m+1) (by omega)
   obtain ⟨f',rfl⟩: ∃f',f=f'+1:=⟨f-1,by omega⟩
   cases ha:item (m+1) with
   |none=>
    rw[ha] at hq
    obtain ⟨m',hq⟩:=hq
    rw[pB ha]
    refine ⟨_,⟨m',rfl⟩,fun T H c g g4 es k hes hk=>?_⟩
    subst hes hk
    refine evl ?_
    repeat' (first|refine ae ?_|refine kX [(0,_,_)] [] ⟨rfl,trivial⟩ trivial (h1) ?_|(refine aa ?_ ?_<;>intro h))
    (conv=>whnf)
    refine CallG.stop ?_
    refine dm 624 hq (fun Q hr hg=>?_)
    refine kX [(0,_,_)] [] ⟨rfl,trivial⟩ trivial hg ?_ (hE:=by rw[hr];rfl)
    rfl
   |some p=>
    obtain ⟨x,m'⟩:=p
    rw[ha] at hq
    obtain ⟨p1,p2,_⟩:=hp _ _ _ (by omega) ha
    rw[pC ha]
    have hpx:=cm x
    have hax:(acc++[x]).map Rx.enc=acc.map Rx.enc++[x.enc]:=by simp
    obtain ⟨t,h2,h3⟩:=wo s hs item lv hp hA f' (acc++[x]) m' (by omega) p2 (by simp) (by simp;omega)
    refine ⟨t,h2,fun T H c g g4 es k hes hk=>?_⟩
    subst hes hk
    rw[hax] at h3
    simp only[i6] at hq
    generalize hxe:x.enc=xe at*
    obtain ⟨k,lo,hi,l⟩:=x
    rw[bi] at hxe
    subst hxe
    refine evl ?_
    repeat' (first|refine ae ?_|refine kX [(0,_,_)] [] ⟨rfl,trivial⟩ trivial (h1) ?_|refine kX [(0,_,_)] [] ⟨rfl,trivial⟩ trivial (hq) ?_|(refine aa ?_ ?_<;>intro h))
    refine ah [1,0,5,4] [0,68,93] ?_
    exact h3 _ _ _ _ _ _ _ rfl (by simp)
  ·rw[if_neg c1]
   have d1: ¬((pk s m).toNat:Int)=124:=jl c1
   generalize pk s m=b1 at*
   cases acc with
   |nil=>exact absurd rfl hne
   |cons x r=>
    cases r with
    |nil=>
     refine ⟨rpR s (.agg x.enc) m,rfl,fun T H c g g4 es k hes hk=>?_⟩
     obtain rfl:es= [x.enc]:=hes
     obtain rfl:k=1:=hk
     generalize hxe:x.enc=xe at*
     obtain ⟨k,lo,hi,l⟩:=x
     rw[bi] at hxe
     subst hxe
     refine evl ?_
     repeat' (first|refine ae ?_|refine kX [(0,_,_)] [] ⟨rfl,trivial⟩ trivial (h1) ?_|refine And.intro (show Int.toNat 0<0+1 from Nat.one_pos) ?_|(refine aa ?_ ?_<;>intro h))
     (conv=>whnf);first|refine bg [(0,_,_)] [] [true] ?_|refine bh [(0,_,_)] [] [true] ?_
     refine cG ?_
     rfl
    |cons y q=>
     refine ⟨rpR s (.agg (Rx.mk 4 0 0 (x::y::q)).enc) m,rfl,fun T H c g g4 es k hes hk=>?_⟩
     subst hes hk
     rw[bi]
     have hl2:(x::y::q).length=q.length+2:=rfl
     refine evl ?_
     repeat' (first|refine ae ?_|refine kX [(0,_,_)] [] ⟨rfl,trivial⟩ trivial (h1) ?_|(refine aa ?_ ?_<;>intro h))
     refine jL [(93,_,_)] [4] [0,68] ⟨rfl,frP,trivial⟩ ?_;repeat ((conv=>whnf);first|refine frA ?_|intro T H)
     (conv=>whnf);first|refine bg [(0,_,_)] [] [true] ?_|refine bh [(0,_,_)] [] [true] ?_
     refine cG ?_
     rfl
theorem L6 (s:List UInt8) (hs:s.length<2^32) (item:PR) (lv:Int) (hl:lv≤32) (hp:Pos s item) (hA: ∀n,n≤s.length→i6 624 s lv n (item n)) (n:Nat) (hn:n≤s.length):i6 579 s lv n (fY 4 (dY s item 124 (s.length+1) [] n)):=by
 have hq:=hA n hn
 cases ha:item n with
 |none=>
  rw[ha] at hq
  obtain ⟨m',hq⟩:=hq
  rw[pB ha]
  refine ⟨m',?_⟩
  refine ab (F:=IM) rfl rfl (am 300 _ _ _ _ ?_)
  repeat' (first|refine ae ?_|(refine aa ?_ ?_<;>intro h))
  (conv=>whnf)
  refine CallG.stop ?_
  refine dm 624 hq (fun Q hr hg=>?_)
  refine kX [(0,_,_)] [] ⟨rfl,trivial⟩ trivial hg ?_ (hE:=by rw[hr];rfl)
  rfl
 |some p=>
  obtain ⟨x,m⟩:=p
  rw[ha] at hq
  obtain ⟨p1,p2,_⟩:=hp _ _ _ hn ha
  rw[pC ha]
  have hpx:=cm x
  obtain ⟨t,h1,h2⟩:=wo s hs item lv hp hA s.length [x] m (by omega) p2 (by simp) (by simp;omega)
  refine NQ h1 ?_
  simp only[i6] at hq
  generalize hxe:x.enc=xe at*
  obtain ⟨k,lo,hi,l⟩:=x
  rw[bi] at hxe
  have h3:=fun T H c g g4=>h2 T H c g g4 _ _ rfl rfl
  subst hxe
  simp only[List.map_cons,List.map_nil,bi,List.length_cons,List.length_nil] at h3
  refine ab (F:=IM) rfl rfl (am 300 _ _ _ _ ?_)
  repeat' (first|refine ae ?_|refine kX [(0,_,_)] [] ⟨rfl,trivial⟩ trivial (hq) ?_|(refine aa ?_ ?_<;>intro h))
  (conv=>whnf)
  refine Uh 77 93 [(1,_),(0,_),(5,.vs 93 _ _),(4,_)] [(0,_),(68,_)] rfl puL (by decide) ⟨rfl,rfl,(by show AV.ren _ (.vs 77 _ _)=_;simp only[AV.ren,φM,and_self,if_true];rfl),rfl,trivial⟩ ⟨⟨by decide,by decide,rfl⟩,⟨by decide,by decide,rfl⟩,trivial⟩ ?_
  intro T H
  refine ah [1,0,5,4] [0,68,93] ?_
  exact h3 _ _ _ _ _
end Go.AM.IR
namespace Go.AM.IR
theorem sC (s:List UInt8) (hs:s.length<2^32): ∀(k:Nat) (lv:Int) (hk:lv+k=33) (h0:0≤lv) (n:Nat) (hn:n≤s.length),i6 579 s lv n (cI s (fC s) k n)
 |0,lv,hk,h0,n,hn=>by
  obtain rfl:lv=33:=by omega
  refine ⟨n,?_⟩
  refine ab (F:=IM) rfl rfl (am 300 _ _ _ _ ?_)
  repeat' (first|refine ae ?_|(refine aa ?_ ?_<;>intro h))
  refine kY ?_
  rfl
 |k+1,lv,hk,h0,n,hn=>by
  have ih:=fun n hn=>sC s hs k (lv+1) (by omega) (by omega) n hn
  have pa:=pr hs (kD s) k
  have h1:=fun n hn=>D9 s (by omega) (cI s (fC s) k) lv (by omega) h0 pa ih n hn
  have pt:=vL (kD s) pa
  have h2:=fun n hn=>DF s (by omega) (cH s (fC s) (cI s (fC s) k)) lv pt n hn (h1 n hn)
  have pi:=kO pt
  have h3:=fun n hn=>LZ s hs (dQ s (cH s (fC s) (cI s (fC s) k))) lv pi h2 n hn
  have ps:=sR hs pi
  exact L6 s hs (jA s (dQ s (cH s (fC s) (cI s (fC s) k)))) lv (by omega) ps h3 n hn
end Go.AM.IR
namespace Go.AM.IR
def qv (k n:Int):Bool×Bool:=if k=0∨k=1∨k=2 then (true,n==0) else if k=3 then (true,decide (n≥2)) else if k=4 then (true,n !=1) else if k=5∨k=6∨k=7 then (true,n==1) else (false,false)
theorem DB (k n:Int):aq G0 659 [.int .i64 k,.int .i64 n] [] ⟨.tup [.bool (qv k n).1,.bool (qv k n).2],[]⟩:=by
 unfold qv
 by_cases k0:k=0
 ·subst k0
  rw[if_pos (.inl rfl)]
  exact gvA (F:=nu)
 by_cases k1:k=1
 ·subst k1
  rw[if_pos (.inr (.inl rfl))]
  exact gvA (F:=nu)
 by_cases k2:k=2
 ·subst k2
  rw[if_pos (.inr (.inr rfl))]
  exact gvA (F:=nu)
 by_cases k3:k=3
 ·subst k3
  rw[if_neg (by decide),if_pos rfl]
  exact gvA (F:=nu)
 by_cases k4:k=4
 ·subst k4
  rw[if_neg (by decide),if_neg (by decide),if_pos rfl]
  exact gvA (F:=nu)
 by_cases k5:k=5
 ·subst k5
  rw[if_neg (by decide),if_neg (by decide),if_neg (by decide),if_pos (.inl rfl)]
  exact gvA (F:=nu)
 by_cases k6:k=6
 ·subst k6
  rw[if_neg (by decide),if_neg (by decide),if_neg (by decide),if_pos (.inr (.inl rfl))]
  exact gvA (F:=nu)
 by_cases k7:k=7
 ·subst k7
  rw[if_neg (by decide),if_neg (by decide),if_neg (by decide),if_pos (.inr (.inr rfl))]
  exact gvA (F:=nu)
 rw[if_neg (by omega),if_neg k3,if_neg k4,if_neg (by omega)]
 exact gvA (F:=nu)
def ndE (k lo hi n:Int):Int:=if (qv k n).1=false then 15 else if k=1∧(lo<0∨lo>hi∨hi>4294967295) then 5 else if (k≠1∧(lo≠0∨hi≠0))∨(qv k n).2=false then 1 else 0
theorem adW (k lo hi:Int) (n:Nat):(ndE k lo hi n=0↔bm k lo hi n=true):=by
 unfold ndE qv
 by_cases k1:k=1
 ·subst k1
  by_cases a:lo<0∨lo>hi∨hi>4294967295
  ·simp[bm,a];omega
  ·have a1:0≤lo∧lo≤hi∧hi≤4294967295:=by omega
   by_cases c:(n:Int)=0
   ·simp[bm,a1,c];omega
   ·have c': ¬n=0:=by omega
    simp[bm,a1,c'];omega
 by_cases z:lo=0∧hi=0
 ·obtain ⟨rfl,rfl⟩:=z
  by_cases k0:k=0
  ·subst k0;by_cases c:n=0<;>simp[bm,c]
  by_cases k2:k=2
  ·subst k2;by_cases c:n=0<;>simp[bm,c]
  by_cases k3:k=3
  ·subst k3;by_cases c:2≤n
   ·have c':(2:Int)≤n:=by omega
    simp[bm,c,c']
   ·have c': ¬(2:Int)≤n:=by omega
    simp[bm,c,c']
  by_cases k4:k=4
  ·subst k4;by_cases c:n=1
   ·have c':(n:Int)=1:=by omega
    simp[bm,c]
   ·have c': ¬(n:Int)=1:=by omega
    simp[bm,c,c']
  by_cases k5:k=5∨k=6∨k=7
  ·have k5':5≤k∧k≤7:=by omega
   by_cases c:n=1
   ·have c':(n:Int)=1:=by omega
    simp[bm,k0,k1,k2,k3,k4,k5,k5',c]
   ·have c': ¬(n:Int)=1:=by omega
    simp[bm,k0,k1,k2,k3,k4,k5,k5',c,c']
  ·have k5': ¬(5≤k∧k≤7):=by omega
   simp[bm,k0,k1,k2,k3,k4,k5,k5']
 ·have hN:bm k lo hi n=false:=by simp[bm,k1,z]
  have z':k≠1∧(lo≠0∨hi≠0):=⟨k1,by omega⟩
  rw[hN]
  simp only[Bool.false_eq_true,iff_false]
  (repeat' split)<;>first|decide|omega|simp_all
theorem Mq (k lo hi:Int) (l:List Rx) (hl:l.length<2^40):aq G0 654 [.agg [.int .i64 k,.int .i64 lo,.int .i64 hi,.sl 4 (l.map Rx.enc)]] [] ⟨.int .i64 (ndE k lo hi (l.length:Nat)),[]⟩:=by
 have m1:(l.map Rx.enc).length=l.length:=by simp
 have h1:=DB k (l.length:Nat)
 rw[←m1] at h1
 unfold ndE
 rw[←m1]
 generalize qv k ((l.map Rx.enc).length:Nat)=P at*
 obtain ⟨p,q⟩:=P
 dsimp only at h1⊢
 cases p
 ·rw[if_pos rfl]
  refine ab (F:=uG) rfl rfl (am 300 _ _ _ _ ?_)
  repeat' (first|refine ae ?_|(refine aa ?_ ?_<;>intro h))
  all_goals (refine ag ?_;rfl)
 rw[if_neg (by simp)]
 by_cases a:k=1∧(lo<0∨lo>hi∨hi>4294967295)
 ·rw[if_pos a]
  obtain ⟨rfl,a⟩:=a
  refine ab (F:=uG) rfl rfl (am 300 _ _ _ _ ?_)
  repeat' (first|refine ae ?_|(refine aa ?_ ?_<;>intro h))
  all_goals try (exfalso;omega)
  all_goals (refine ag ?_;rfl)
 rw[if_neg a]
 by_cases b:(k≠1∧(lo≠0∨hi≠0))∨q=false
 ·rw[if_pos b]
  cases q
  ·refine ab (F:=uG) rfl rfl (am 300 _ _ _ _ ?_)
   repeat' (first|refine ae ?_|(refine aa ?_ ?_<;>intro h))
   all_goals try (exfalso;omega)
   all_goals (refine ag ?_;rfl)
  ·have b':k≠1∧(lo≠0∨hi≠0):=by simpa using b
   refine ab (F:=uG) rfl rfl (am 300 _ _ _ _ ?_)
   repeat' (first|refine ae ?_|(refine aa ?_ ?_<;>intro h))
   all_goals try (exfalso;omega)
   all_goals (refine ag ?_;rfl)
 ·rw[if_neg b]
  have b1:q=true:=by cases q<;>simp_all
  subst b1
  have b2: ¬(k≠1∧(lo≠0∨hi≠0)):=fun h=>b (.inl h)
  refine ab (F:=uG) rfl rfl (am 300 _ _ _ _ ?_)
  repeat' (first|refine ae ?_|(refine aa ?_ ?_<;>intro h))
  all_goals try (exfalso;omega)
  all_goals (refine ag ?_;rfl)
def Lu (x:Rx) (lv:Nat):Prop:= ∀c:Nat,c≤64→ ∃n e:Int,RT (chk x lv c) n e∧aq G0 647 [.agg x.enc,.int .i64 (lv:Int),.ref 0 0 0] [.cells [.int .i64 (c:Int)]] ⟨.int .i64 e,[(true,.cells [.int .i64 n])]⟩
theorem ya (l:List Rx) (hl:l.length<2^40) (lv:Nat) (hlv:lv≤16) (hk: ∀y∈l,Lu y (lv+1)): ∀(rest done:List Rx) (c:Nat) (n:Int) (e:l=done++rest) (hn:n=done.length) (hc:c≤64),∃N E:Int,RT (gG rest (lv+1) c) N E∧ ∀(T:List (Nat×AV)) (H:ax) (ct:Nat),
  Ev G0 ⟨SJ,⟨(30,.int .i64 n)::(2,.ref 0 0 0)::(1,.int .i64 (lv:Int))::(28,.sl 4 (l.map Rx.enc))::(29,.int .i64 l.length)::T,(0,some (0,.cells [.int .i64 (c:Int)]))::H,ct⟩,[.t 6],1⟩ ⟨.int .i64 E,[(true,.cells [.int .i64 N])]⟩
 | [],done,c,n,e,hn,hc=>by
  have hd:l.length=done.length:=by simp[e]
  refine ⟨c,0,by rw[gG];exact ⟨rfl,rfl⟩,fun T H ct=>?_⟩
  refine evl ?_
  repeat' (first|refine ae ?_|(refine aa ?_ ?_<;>intro h))
  (conv=>whnf);first|refine bg [(0,_,_)] [] [true] ?_|refine bh [(0,_,_)] [] [true] ?_
  rfl
 |x::r,done,c,n,e,hn,hc=>by
  have hd:l.length=done.length+(r.length+1):=by simp[e]
  have hll:(l.map Rx.enc).length=l.length:=by simp
  have hx:(l.map Rx.enc)[n.toNat]? =some x.enc:=by simp[e,hn]
  obtain ⟨n1,e1,h1,g1⟩:=hk x (by simp[e]) c hc
  have g1:aq G0 647 [.agg x.enc,.int .i64 ((lv:Int)+1),.ref 0 0 0] [.cells [.int .i64 (c:Int)]] ⟨.int .i64 e1,[(true,.cells [.int .i64 n1])]⟩:=g1
  have hpx:=cm x
  rw[gG]
  cases hq:chk x (lv+1) c with
  |none=>
   rw[hq] at h1
   have h1: ¬e1=0:=h1
   refine ⟨n1,e1,h1,fun T H ct=>?_⟩
   generalize hxe:x.enc=xe at*
   obtain ⟨k,lo,hi,q⟩:=x
   rw[bi] at hxe
   subst hxe
   refine evl ?_
   repeat' (first|refine ae ?_|refine kX [(0,_,_)] [] ⟨rfl,trivial⟩ trivial (g1) ?_|(refine aa ?_ ?_<;>intro h))
   (conv=>whnf);first|refine bg [(0,_,_)] [] [true] ?_|refine bh [(0,_,_)] [] [true] ?_
   rfl
  |some c1=>
   rw[hq] at h1
   obtain ⟨rfl,rfl⟩:=h1
   obtain ⟨N,E,h2,h3⟩:=ya l hl lv hlv hk r (done++[x]) c1 (n+1) (by simp[e]) (by simp[hn]) (sv hq)
   refine ⟨N,E,h2,fun T H ct=>?_⟩
   generalize hxe:x.enc=xe at*
   obtain ⟨k,lo,hi,q⟩:=x
   rw[bi] at hxe
   subst hxe
   refine evl ?_
   repeat' (first|refine ae ?_|refine kX [(0,_,_)] [] ⟨rfl,trivial⟩ trivial (g1) ?_|(refine aa ?_ ?_<;>intro h))
   refine ah [30,2,1,28,29] [0] ?_
   exact h3 _ _ _
theorem adp (k lo hi:Int) (l:List Rx) (hs:l.length<2^40) (lv:Nat) (hlv:lv≤17) (hk:lv≤16→ ∀y∈l,Lu y (lv+1)):Lu (.mk k lo hi l) lv:=by
 intro c hc
 have m1:(l.map Rx.enc).length=l.length:=by simp
 have g0:=Mq k lo hi l hs
 have h0:=adW k lo hi l.length
 rw[chk,bi]
 by_cases a:16<lv
 ·rw[if_pos a]
  have a':(lv:Int)>16:=by omega
  refine ⟨c,24,(show (24:Int)≠0 by decide),?_⟩
  refine ab (F:=y9) rfl rfl (am 300 _ _ _ _ ?_)
  repeat' (first|refine ae ?_|(refine aa ?_ ?_<;>intro h))
  (conv=>whnf);first|refine bg [(0,_,_)] [] [true] ?_|refine bh [(0,_,_)] [] [true] ?_
  rfl
 rw[if_neg a]
 by_cases b:64≤c
 ·rw[if_pos b]
  have b':(c:Int)≥64:=by omega
  refine ⟨c,4,(show (4:Int)≠0 by decide),?_⟩
  refine ab (F:=y9) rfl rfl (am 300 _ _ _ _ ?_)
  repeat' (first|refine ae ?_|(refine aa ?_ ?_<;>intro h))
  (conv=>whnf);first|refine bg [(0,_,_)] [] [true] ?_|refine bh [(0,_,_)] [] [true] ?_
  rfl
 rw[if_neg b]
 generalize ndE k lo hi (l.length:Nat)=e0 at*
 by_cases d:bm k lo hi l.length=true
 ·rw[if_pos d]
  obtain rfl:e0=0:=h0.2 d
  obtain ⟨N,E,h2,h3⟩:=ya l hs lv (by omega) (hk (by omega)) l [] (c+1) 0 rfl rfl (by omega)
  refine ⟨N,E,h2,?_⟩
  refine ab (F:=y9) rfl rfl (am 300 _ _ _ _ ?_)
  repeat' (first|refine ae ?_|(refine aa ?_ ?_<;>intro h))
  refine ah [30,2,1,28,29] [0] ?_
  rw[m1]
  exact h3 _ _ _
 ·rw[if_neg d]
  have d': ¬e0=0:=fun q=>d (h0.1 q)
  refine ⟨(c+1:Nat),e0,d',?_⟩
  refine ab (F:=y9) rfl rfl (am 300 _ _ _ _ ?_)
  repeat' (first|refine ae ?_|(refine aa ?_ ?_<;>intro h))
  (conv=>whnf);first|refine bg [(0,_,_)] [] [true] ?_|refine bh [(0,_,_)] [] [true] ?_
  rfl
mutual
theorem Uq: ∀(x:Rx),Sml x→ ∀lv:Nat,lv≤17→Lu x lv
 | .mk k lo hi l,hs,lv,hlv=>adp k lo hi l hs.len lv hlv fun h=>Pc l hs.kid (lv+1) (by omega)
theorem Pc: ∀(l:List Rx),(∀x∈l,Sml x)→ ∀lv:Nat,lv≤17→ ∀y∈l,Lu y lv
 | [],_,_,_=>fun y hy=>by simp at hy
 |x::r,hs,lv,hlv=>fun y hy=>by
  have h1:=Uq x (hs x (by simp)) lv hlv
  rcases List.mem_cons.1 hy with q|q
  ·rw[q];exact h1
  ·exact Pc r (fun z hz=>hs z (by simp[hz])) lv hlv y q
end
theorem zT (x:Rx) (hs:Sml x): ∃e:Int,aq G0 626 [.agg x.enc] [] ⟨.int .i64 e,[]⟩∧(e=0↔ (chk x 1 0).isSome=true):=by
 obtain ⟨n,e,h1,g1⟩:=Uq x hs 1 (by omega) 0 (by omega)
 have g1:aq G0 647 [.agg x.enc,.int .i64 1,.ref 0 0 0] [.cells [.int .i64 0]] ⟨.int .i64 e,[(true,.cells [.int .i64 n])]⟩:=g1
 refine ⟨e,?_,?_⟩
 ·generalize hxe:x.enc=xe at*
  obtain ⟨k,lo,hi,q⟩:=x
  rw[bi] at hxe
  subst hxe
  refine ab (F:=Xg) rfl rfl (am 300 _ _ _ _ ?_)
  repeat' (first|refine ae ?_|refine kX [(67,_,_)] [] ⟨rfl,trivial⟩ trivial (g1) ?_|(refine aa ?_ ?_<;>intro h))
  refine ag ?_;rfl
 ·cases hq:chk x 1 0 with
  |none=>rw[hq] at h1;simp;exact h1
  |some c=>rw[hq] at h1;simp;exact h1.2
end Go.AM.IR
namespace Go.AM.IR
theorem rf (n:Int) (h0:0≤n) (h1:n≤4294967295):aq G0 337 [.int .i64 n] [] ⟨.str (aU n),[]⟩:=by
 have hi:aq G0 246 [.int .i64 n] [] ⟨.str (aU n),[]⟩:=by
  show (if-9223372036854775808≤n∧n≤9223372036854775807 then some (Ret.mk (.str (aU n)) []) else none)=_
  rw[if_pos ⟨by omega,by omega⟩]
 generalize aU n=t at*
 exact gvA (F:=f337)
def yw (k:Int):Bool:=k==5||(k==6||k==7)
theorem NL (k:Int):yw k=decide (5≤k∧k≤7):=by
 unfold yw
 rw[Bool.eq_iff_iff]
 simp only[Bool.or_eq_true,beq_iff_eq,decide_eq_true_eq]
 omega
theorem rx (k:Int):aq G0 660 [.int .i64 k] [] ⟨.bool (yw k),[]⟩:=by
 unfold yw
 by_cases a:k=5
 ·subst a
  exact gvA (F:=y8)
 by_cases b:k=6
 ·subst b
  exact gvA (F:=y8)
 by_cases c:k=7
 ·subst c
  exact gvA (F:=y8)
 have e:(k==5||(k==6||k==7))=false:=by simp[a,b,c]
 rw[e]
 refine ab (F:=y8) rfl rfl (am 300 _ _ _ _ ?_)
 repeat' (first|refine ae ?_|(refine aa ?_ ?_<;>intro h))
 all_goals try (exfalso;omega)
 all_goals (refine ag ?_;first|rfl|simp[a,b,c])
theorem Lx (k k2 lo hi:Int) (l:List Rx) (hl:l.length<2^40):aq G0 655 [.int .i64 k,.agg [.int .i64 k2,.int .i64 lo,.int .i64 hi,.sl 4 (l.map Rx.enc)]] [] ⟨.bool (eN k (.mk k2 lo hi l)),[]⟩:=by
 have m1:(l.map Rx.enc).length=l.length:=by simp
 have h1:=rx k2
 have h2:=rx k
 rw[JV]
 by_cases a3:k2=3
 ·rw[if_pos a3]
  subst a3
  by_cases e:k=4
  ·subst e
   exact gvA (F:=uF)
  ·rw[decide_eq_true e]
   refine ab (F:=uF) rfl rfl (am 300 _ _ _ _ ?_)
   repeat' (first|refine ae ?_|(refine aa ?_ ?_<;>intro h))
   refine ag ?_
   simp[e]
 rw[if_neg a3]
 by_cases a4:k2=4
 ·rw[if_pos a4]
  subst a4
  have hem:(!l.isEmpty)=decide ((l.length:Int)>0):=by cases l<;>simp
  rw[hem]
  refine ab (F:=uF) rfl rfl (am 300 _ _ _ _ ?_)
  repeat' (first|refine ae ?_|(refine aa ?_ ?_<;>intro h))
  refine ag ?_
  rw[m1]
 rw[if_neg a4,←NL,←NL]
 generalize yw k2=A at*
 generalize yw k=B at*
 cases A
 ·exact gvA (F:=uF)
 ·exact gvA (F:=uF)
def ShG (x:Rx):Prop:=aq G0 627 [.agg x.enc] [] ⟨.str (pat aU x),[]⟩
theorem tL (k:Int) (x:Rx) (hx:ShG x) (hs:Sml x) (hb:(pat aU x).length+2<2^31):aq G0 648 [.int .i64 k,.agg x.enc] [] ⟨.str (da k x (pat aU x)),[]⟩:=by
 unfold ShG at hx
 have hpx:=cm x
 have hen: ∀k2 lo2 hi2 l2,x= .mk k2 lo2 hi2 l2→aq G0 655 [.int .i64 k,.agg [.int .i64 k2,.int .i64 lo2,.int .i64 hi2,.sl 4 (l2.map Rx.enc)]] [] ⟨.bool (eN k x),[]⟩:=fun k2 lo2 hi2 l2 hxx=>by
  subst hxx
  exact Lx k k2 lo2 hi2 l2 hs.len
 have z1:([40]:List UInt8).length=1:=rfl
 have z2:([41]:List UInt8).length=1:=rfl
 cases hc:eN k x with
 |true=>
  have hin:da k x (pat aU x)= [40]++pat aU x++[41]:=by unfold da;rw[if_pos hc];rfl
  rw[hin]
  rw[hc] at hen
  generalize pat aU x=w at*
  generalize hxe:x.enc=xe at*
  obtain ⟨k2,lo2,hi2,l2⟩:=x
  rw[bi] at hxe
  subst hxe
  have hen:=hen k2 lo2 hi2 l2 rfl
  have hwl:([40]++w).length=w.length+1:=by simp
  refine ab (F:=QU) rfl rfl (am 300 _ _ _ _ ?_)
  repeat' ((conv=>whnf);first|refine ii ?_|refine kV hx ?_ hpx|refine ay ?_|(refine aa ?_ ?_<;>intro h))
  refine ag ?_;rfl
 |false=>
  have hin:da k x (pat aU x)=pat aU x:=by unfold da;rw[if_neg (by rw[hc];simp)]
  rw[hin]
  rw[hc] at hen
  generalize pat aU x=w at*
  generalize hxe:x.enc=xe at*
  obtain ⟨k2,lo2,hi2,l2⟩:=x
  rw[bi] at hxe
  subst hxe
  have hen:=hen k2 lo2 hi2 l2 rfl
  refine ab (F:=QU) rfl rfl (am 300 _ _ _ _ ?_)
  repeat' ((conv=>whnf);first|refine kV hx ?_ hpx|refine ay ?_|(refine aa ?_ ?_<;>intro h))
  refine ag ?_;rfl
theorem py (k lo hi:Int) (l:List Rx) (hl:l.length<2^40) (hb:dU (bt aU k l)<2^30) (hk: ∀y∈l,ShG y∧Sml y) (c:UInt8) (g1:Nat): ∀(rest done:List Rx) (acc R:List UInt8) (T:List (Nat×AV)) (H:ax) (ct:Nat) (n:Int) (e:l=done++rest) (hn:n=done.length) (hb:acc.length+dU (bt aU k rest)<2^40) (hR:R=if done= [] then cP c (bt aU k rest) else acc++jr c (bt aU k rest)) (hd0:done= []→acc= []),
  Ev G0 ⟨SM,⟨(72,.int .i64 n)::(1,.ref 65 g1 0)::(3,.str [c])::(4,.str acc)::(70,.sl 4 (l.map Rx.enc))::(71,.int .i64 l.length)::T,(65,some (g1,.cells [.int .i64 k,.int .i64 lo,.int .i64 hi,.sl 4 (l.map Rx.enc)]))::H,ct⟩,[.t 2],0⟩ ⟨.str R,[]⟩
 | [],done,acc,R,T,H,ct,n,e,hn,hb,hR,hd0=>by
  have hd:l.length=done.length:=by simp[e]
  obtain rfl:R=acc:=by
   rw[hR]
   by_cases h:done= []
   ·rw[if_pos h,hd0 h,bt];rfl
   ·rw[if_neg h,bt];simp[jr]
  refine evl ?_
  repeat' (first|refine ae ?_|(refine aa ?_ ?_<;>intro h))
  refine ag ?_;rfl
 |x::r,done,acc,R,T,H,ct,n,e,hn,hb2,hR,hd0=>by
  have hd:l.length=done.length+(r.length+1):=by simp[e]
  have hll:(l.map Rx.enc).length=l.length:=by simp
  have hx:(l.map Rx.enc)[n.toNat]? =some x.enc:=by simp[e,hn]
  obtain ⟨hp,hs⟩:=hk x (by simp[e])
  have hpx:=cm x
  have hlx:(da k x (pat aU x)).length+1≤dU (bt aU k l):=by
   have h1:bt aU k l=bt aU k done++(da k x (pat aU x)::bt aU k r):=by rw[e,qi,bt]
   rw[h1,t8,dU];omega
  have hbx:(pat aU x).length+2<2^31:=by
   have:(pat aU x).length≤(da k x (pat aU x)).length:=by unfold da;split<;>simp;omega
   omega
  have hin:=tL k x hp hs hbx
  rw[bt,dU] at hb2
  rw[bt] at hR
  have h1: [c].length=1:=rfl
  generalize da k x (pat aU x)=w at*
  generalize hxe:x.enc=xe at*
  by_cases h:done= []
  ·have h0:=hd0 h
   subst h h0
   obtain rfl:n=0:=hn
   rw[if_pos rfl,uz] at hR
   have hz:([]:List UInt8).length=0:=rfl
   have ih:=fun T H ct=>py k lo hi l hl hb hk c g1 r [x] w R T H ct 1 (by simpa using e) rfl (by simp at hb2;omega) (by rw[if_neg (by simp)];exact hR) (by simp)
   obtain ⟨k2,lo2,hi2,l2⟩:=x
   rw[bi] at hxe
   subst hxe
   refine evl ?_
   repeat' ((conv=>whnf);first|refine ii ?_|refine kV hin ?_ hpx|refine ay ?_|(refine aa ?_ ?_<;>intro h))
   refine ah [72,1,3,4,70,71] [65] ?_
   exact ih _ _ _
  ·rw[if_neg h,jr] at hR
   have hp:(0:Int)<n:=by
    have:done.length≠0:=fun q=>h (List.eq_nil_of_length_eq_zero q)
    omega
   have h2:(acc++[c]).length=acc.length+1:=by simp
   have ih:=fun T H ct=>py k lo hi l hl hb hk c g1 r (done++[x]) (acc++[c]++w) R T H ct (n+1) (by simp[e]) (by simp[hn]) (by simp;omega) (by rw[if_neg (by simp),hR];simp) (by simp)
   obtain ⟨k2,lo2,hi2,l2⟩:=x
   rw[bi] at hxe
   subst hxe
   refine evl ?_
   repeat' ((conv=>whnf);first|refine ii ?_|refine kV hin ?_ hpx|refine ay ?_|(refine aa ?_ ?_<;>intro h))
   refine ah [72,1,3,4,70,71] [65] ?_
   exact ih _ _ _
theorem abe (k lo hi:Int) (l:List Rx) (hn:bm k lo hi l.length=true) (hl:l.length<2^40) (hb:dU (bt aU k l)<2^30) (hk: ∀y∈l,ShG y∧Sml y):ShG (.mk k lo hi l):=by
 have hll:(l.map Rx.enc).length=l.length:=by simp
 unfold ShG
 rw[bi,pat]
 have hL:=fun c R T H ct g1=>py k lo hi l hl hb hk c g1 l [] [] R T H ct 0 rfl rfl (by simp;omega)
 unfold bm at hn
 by_cases k1:k=1
 ·rw[if_pos k1] at hn
  obtain ⟨q1,q2,q3,q4⟩:=of_decide_eq_true hn
  subst k1
  have d1:=rf lo q1 (by omega)
  have d2:=rf hi (by omega) q3
  have i1:=kM (a:=lo) q1 (by omega)
  have i2:=kM (a:=hi) (by omega) q3
  by_cases e:lo=hi
  ·rw[show de aU 1 lo hi (bt aU 1 l)=aU lo from by unfold de;rw[if_neg (by omega),if_pos rfl,if_pos e]]
   generalize aU lo=w1 at*
   exact gvA (F:=l9)
  ·rw[show de aU 1 lo hi (bt aU 1 l)=91::(aU lo++45::(aU hi++[93])) from by unfold de;rw[if_neg (by omega),if_pos rfl,if_neg e]]
   generalize aU lo=w1 at*
   generalize aU hi=w2 at*
   have z1:([91]:List UInt8).length=1:=rfl
   have z2:([45]:List UInt8).length=1:=rfl
   have z3:([93]:List UInt8).length=1:=rfl
   refine ab (F:=l9) rfl rfl (am 300 _ _ _ _ ?_)
   repeat' ((conv=>whnf);first|refine ii ?_|refine ay ?_|(refine aa ?_ ?_<;>intro h))
   refine ag ?_
   simp
 rw[if_neg k1,Bool.and_eq_true] at hn
 obtain ⟨hz,hn⟩:=hn
 obtain ⟨rfl,rfl⟩:=of_decide_eq_true hz
 by_cases k0:k=0
 ·subst k0
  exact gvA (F:=l9)
 by_cases k2:k=2
 ·subst k2
  exact gvA (F:=l9)
 rw[if_neg (by omega)] at hn
 by_cases k3:k=3
 ·subst k3
  rw[show de aU 3 0 0 (bt aU 3 l)=cP 32 (bt aU 3 l) from rfl]
  refine ab (F:=l9) rfl rfl (am 300 _ _ _ _ ?_)
  repeat' (first|refine ae ?_|(refine aa ?_ ?_<;>intro h))
  refine ah [72,1,3,4,70,71] [65] ?_
  rw[hll]
  exact hL 32 _ _ _ _ _ (by rw[if_pos rfl]) (fun _=>rfl)
 rw[if_neg k3] at hn
 by_cases k4:k=4
 ·subst k4
  by_cases hz:l= []
  ·subst hz
   have z0:([]:List Rx).length=0:=rfl
   exact gvA (F:=l9)
  ·have hpz:l.length≠0:=fun q=>hz (List.eq_nil_of_length_eq_zero q)
   have hq:bt aU 4 l≠ []:=fun q=>by
    have:(bt aU 4 l).length=l.length:=nd l
    rw[q] at this;exact hpz this.symm
   rw[show de aU 4 0 0 (bt aU 4 l)=cP 124 (bt aU 4 l) from by unfold de;rw[if_neg (by omega),if_neg (by omega),if_neg (by omega),if_neg (by omega),if_pos rfl,if_neg (by cases hh:bt aU 4 l<;>simp_all)]]
   refine ab (F:=l9) rfl rfl (am 300 _ _ _ _ ?_)
   repeat' (first|refine ae ?_|(refine aa ?_ ?_<;>intro h))
   refine ah [72,1,3,4,70,71] [65] ?_
   rw[hll]
   exact hL 124 _ _ _ _ _ (by rw[if_pos rfl]) (fun _=>rfl)
 rw[if_neg k4] at hn
 by_cases k5:5≤k∧k≤7
 ·rw[if_pos k5] at hn
  have hn:=of_decide_eq_true hn
  obtain ⟨y,rfl⟩: ∃y,l= [y]:=by
   match l,hn with
   | [y],_=>exact ⟨y,rfl⟩
  obtain ⟨hp,hs⟩:=hk y (by simp)
  have hpx:=cm y
  have hpl:bt aU k [y]= [da k y (pat aU y)]:=by rw[bt,bt]
  rw[hpl] at hb⊢
  simp only[dU] at hb
  have hbx:(pat aU y).length+2<2^31:=by
   have:(pat aU y).length≤(da k y (pat aU y)).length:=by unfold da;split<;>simp;omega
   omega
  have hin:=tL k y hp hs hbx
  clear hL
  have z1:([y].map Rx.enc).length=1:=rfl
  have z2:([42]:List UInt8).length=1:=rfl
  have z3:([43]:List UInt8).length=1:=rfl
  have z4:([63]:List UInt8).length=1:=rfl
  generalize da k y (pat aU y)=p at*
  have hx:([y].map Rx.enc)[(0:Int).toNat]? =some y.enc:=rfl
  simp only[List.map_cons,List.map_nil] at hx z1⊢
  generalize hxe:y.enc=xe at*
  obtain ⟨k2,lo2,hi2,l2⟩:=y
  rw[bi] at hxe
  subst hxe
  rcases (by omega:k=5∨k=6∨k=7) with rfl|rfl|rfl
  ·rw[show de aU 5 0 0 [p]=p++[42] from rfl]
   refine ab (F:=l9) rfl rfl (am 300 _ _ _ _ ?_)
   repeat' ((conv=>whnf);first|refine ii ?_|refine kV hin ?_ hpx|refine ay ?_|(refine aa ?_ ?_<;>intro h))
   refine ag ?_;rfl
  ·rw[show de aU 6 0 0 [p]=p++[43] from rfl]
   refine ab (F:=l9) rfl rfl (am 300 _ _ _ _ ?_)
   repeat' ((conv=>whnf);first|refine ii ?_|refine kV hin ?_ hpx|refine ay ?_|(refine aa ?_ ?_<;>intro h))
   refine ag ?_;rfl
  ·rw[show de aU 7 0 0 [p]=p++[63] from rfl]
   refine ab (F:=l9) rfl rfl (am 300 _ _ _ _ ?_)
   repeat' ((conv=>whnf);first|refine ii ?_|refine kV hin ?_ hpx|refine ay ?_|(refine aa ?_ ?_<;>intro h))
   refine ag ?_;rfl
 ·rw[if_neg k5] at hn;cases hn
mutual
theorem Sb: ∀(x:Rx) {lv c c':Nat},Sml x→chk x lv c=some c'→ShG x
 | .mk k lo hi l,lv,c,c',hs,h=>by
  have hc':=sv h
  rw[chk] at h
  split at h
  ·cases h
  ·split at h
   ·cases h
   ·split at h
    ·rename_i hn
     have h1:=n6 k l h
     have h2:=ND l hs.kid h
     exact abe k lo hi l hn hs.len (by omega) h2
    ·cases h
theorem ND: ∀(l:List Rx) {lv c c':Nat},(∀x∈l,Sml x)→gG l lv c=some c'→ ∀y∈l,ShG y∧Sml y
 | [],_,_,_,_,_=>fun y hy=>by simp at hy
 |x::r,lv,c,c',hs,h=>fun y hy=>by
  rw[gG] at h
  split at h
  ·rename_i c1 h1
   have h2:=Sb x (hs x (by simp)) h1
   rcases List.mem_cons.1 hy with q|q
   ·rw[q];exact ⟨h2,hs x (by simp)⟩
   ·exact ND r (fun z hz=>hs z (by simp[hz])) h y q
  ·cases h
end
end Go.AM.IR
namespace Go.AM.IR
theorem yM (x:Rx) (hs:Sml x): ∃(w:List UInt8) (e:Int),aq G0 580 [.agg x.enc] [] ⟨.tup [.str w,.int .i64 e],[]⟩∧(e=0↔ (chk x 1 0).isSome=true)∧(e=0→w=pat aU x):=by
 obtain ⟨e,g1,h1⟩:=zT x hs
 have hpx:=cm x
 by_cases h0:e=0
 ·subst h0
  have h2:(chk x 1 0).isSome=true:=h1.1 rfl
  obtain ⟨c',hc⟩:=Option.isSome_iff_exists.1 h2
  have g2:=Sb x hs hc
  unfold ShG at g2
  refine ⟨pat aU x,0,?_,by simp[h2],fun _=>rfl⟩
  generalize pat aU x=w at*
  generalize hxe:x.enc=xe at*
  obtain ⟨k,lo,hi,l⟩:=x
  rw[bi] at hxe
  subst hxe
  refine ab (F:=QZ) rfl rfl (am 300 _ _ _ _ ?_)
  repeat' ((conv=>whnf);first|refine kV g2 ?_ hpx|refine ay ?_|(refine aa ?_ ?_<;>intro h))
  refine ag ?_;rfl
 ·refine ⟨[],e,?_,h1,fun q=>absurd q h0⟩
  generalize hxe:x.enc=xe at*
  obtain ⟨k,lo,hi,l⟩:=x
  rw[bi] at hxe
  subst hxe
  exact gvA (F:=QZ)
def Vv:AV→Option (List (List AV))
 | .ifc _ _=>some [rx0.enc,[.int .i64 2]]
 |_=>none
theorem Mi (s:List UInt8) (hs:s.length<2^32): ∃A caps,WZ.pre G0 [.str s] []=some A∧bB A.tm D0= .fn 578 caps∧caps.length=2∧Ev G0 (WZ.cfg Vv A 0) (sU (oY s)):=by
 refine ⟨_,_,rfl,rfl,rfl,?_⟩
 have h1:=sC s hs 33 0 (by omega) (by omega) 0 (by omega)
 have hp:=pr hs (kD s) 33
 unfold oY
 cases ha:cI s (fC s) 33 0 with
 |none=>
  rw[ha] at h1
  obtain ⟨m,h1⟩:=h1
  refine wk3 ?_
  repeat' (first|refine ae ?_|(refine aa ?_ ?_<;>intro h))
  (conv=>whnf)
  refine CallG.stop ?_
  refine dm 579 h1 (fun Q hr hg=>?_)
  refine kX [(75,_,_)] [] ⟨rfl,trivial⟩ trivial hg ?_ (hE:=by rw[hr];rfl)
  rfl
 |some p=>
  obtain ⟨x,m⟩:=p
  rw[ha] at h1
  obtain ⟨_,_,hx⟩:=hp 0 x m (by omega) ha
  obtain ⟨w,e,g2,h2,h3⟩:=yM x hx
  have hpx:=cm x
  dsimp only
  simp only[i6] at h1
  by_cases hq:(chk x 1 0).isSome=true∧pat aU x=s
  ·rw[if_pos hq]
   obtain rfl:e=0:=h2.2 hq.1
   obtain rfl:w=s:=by rw[h3 rfl,hq.2]
   unfold sU
   generalize hxe:x.enc=xe at*
   obtain ⟨k,lo,hi,l⟩:=x
   rw[bi] at hxe
   subst hxe
   refine wk3 ?_
   repeat' ((conv=>whnf);first|refine Vz ?_|refine ay ?_|refine kX [(75,_,_)] [] ⟨rfl,trivial⟩ trivial (h1) ?_|(refine aa ?_ ?_<;>intro h))
   refine ag ?_
   repeat ((conv=>whnf);refine Go.AM.finC ?_)
   dsimp only
   rw[bi]
  ·rw[if_neg hq]
   by_cases h0:e=0
   ·subst h0
    have hw: ¬w=s:=fun q=>hq ⟨h2.1 rfl,by rw[←h3 rfl,q]⟩
    generalize hxe:x.enc=xe at*
    obtain ⟨k,lo,hi,l⟩:=x
    rw[bi] at hxe
    subst hxe
    refine wk3 ?_
    repeat' ((conv=>whnf);first|refine ig hw ?_|refine ay ?_|refine kX [(75,_,_)] [] ⟨rfl,trivial⟩ trivial (h1) ?_|(refine aa ?_ ?_<;>intro h))
    refine kY ?_
    rfl
   ·generalize hxe:x.enc=xe at*
    obtain ⟨k,lo,hi,l⟩:=x
    rw[bi] at hxe
    subst hxe
    refine wk3 ?_
    repeat' (first|refine ae ?_|refine kX [(75,_,_)] [] ⟨rfl,trivial⟩ trivial (h1) ?_|(refine aa ?_ ?_<;>intro h))
    refine kY ?_
    rfl
end Go.AM.IR
