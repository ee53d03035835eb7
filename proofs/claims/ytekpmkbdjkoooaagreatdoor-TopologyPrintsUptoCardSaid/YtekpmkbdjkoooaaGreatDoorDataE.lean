/- What the functions of this program give, on the abstract machine. -/
import Derived.Test.YtekpmkbdjkoooaaGreatDoorDataA
import Derived.Test.YtekpmkbdjkoooaaGreatDoorDataB
import Derived.Test.YtekpmkbdjkoooaaGreatDoorDataC
import Derived.Test.YtekpmkbdjkoooaaGreatDoorMachineC
import Derived.Test.YtekpmkbdjkoooaaGreatDoorDataD
set_option linter.unusedVariables false
set_option linter.unusedSimpArgs false
set_option maxHeartbeats 4000000
set_option maxRecDepth 20000
namespace Go.AM.IR
def pnR (s:List UInt8)(m:Nat):Ret:=⟨pnV (.ifc 263 (.agg [])),[(true,.cells [.str s,.int .i64 (m:Int)])]⟩
def pk (s:List UInt8)(n:Nat):UInt8:=s[n]?.getD 0
theorem fT {s:List UInt8}{n:Nat}{c:UInt8}(hc:c≠0):chr s n c=decide (pk s n=c):=by
 unfold chr pk;cases h:s[n]? with
 |none=>simp[Ne.symm hc]
 |some b=>simp only[Option.getD_some];by_cases e:b=c<;>simp[e]
theorem fM (s:List UInt8)(hs:s.length<2^40)(n:Nat)(hn:n≤s.length):ah G0 625 [.ref 0 0 0] [.cells [.str s,.int .i64 (n:Int)]] (rpR s (.int .u8 ((pk s n).toNat:Int)) n):=by
 by_cases h:n<s.length
 ·have hb:s[((n:Nat):Int).toNat]? =some s[n]:=by simp[h]
  have hp:pk s n=s[n]:=by simp[pk,h]
  rw[hp];generalize s[n]=b at*;have hbl:=b.toNat_lt;refine gvC (F:=Vn) ?_
  repeat' (first|refine cg ?_|(refine ae ?_ ?_<;>intro h))
  refine fX1 ?_;rfl
 ·have hp:pk s n=0:=by simp[pk,AC (show s.length≤n by omega)]
  rw[hp];refine gvB (F:=Vn) ?_;refine fX1 ?_;rfl
theorem pd (s:List UInt8)(hs:s.length<2^40)(n:Nat)(hn:n≤s.length)(c:UInt8)(hc:c≠0):ah G0 658 [.ref 0 0 0,.int .u8 (c.toNat:Int)] [.cells [.str s,.int .i64 (n:Int)]] (if chr s n c then rpR s (.tup []) (n+1) else pnR s n):=by
 have h1:=fM s hs n hn;rw[fT hc];generalize pk s n=b at*
 by_cases e:b=c
 ·subst e
  rw[Al rfl,Ad rfl];have z: ∀{kv:AV→Prop},kv (.bool false)→ ∃v,bv .neq (.int .u8 (b.toNat:Int)) (.int .u8 (b.toNat:Int))=some v∧kv v:=fun h=>⟨.bool false,by simp[bv],h⟩
  refine gvC (F:=Vh) ?_
  repeat' ((conv=>whnf);first|refine z ?_|refine au ?_|refine kX [(0,_,_)] [] ⟨rfl,trivial⟩ trivial (h1) ?_|(refine ae ?_ ?_<;>intro h))
  refine fX1 ?_;rfl
 ·have e2: ¬(b.toNat:Int)=(c.toNat:Int):=fun q=>e (A7.1 (by omega))
  rw[An e,Ac (by simp)]
  have z: ∀{kv:AV→Prop},kv (.bool true)→ ∃v,bv .neq (.int .u8 (b.toNat:Int)) (.int .u8 (c.toNat:Int))=some v∧kv v:=fun h=>⟨.bool true,by simp[bv,e2],h⟩
  refine gvC (F:=Vh) ?_
  repeat' ((conv=>whnf);first|refine z ?_|refine au ?_|refine kX [(0,_,_)] [] ⟨rfl,trivial⟩ trivial (h1) ?_|(refine ae ?_ ?_<;>intro h))
  refine mg ?_;rfl
end Go.AM.IR
namespace Go.AM.IR
def mo (t:List UInt8):Bool:= !t.isEmpty&& !(decide (1<t.length)&&(t.head?==some 48))
theorem idxA {s done rest:List UInt8}{x:UInt8}{n:Int}(e:s=done++x::rest)(hn:n=done.length):s[n.toNat]? =some x:=by
 rw[e,hn];simp
theorem qF (s:List UInt8)(hs:s.length<2^40)(hd: ∀c∈s,isD c=true): ∀(rest done:List UInt8)(T:TV)(H:aw)(c:Nat)(n:Int)(e:s=done++rest)(hn:n=done.length),
  Ev G0 ⟨adq,⟨(18,.int .i64 n)::(0,.str s)::(17,.int .i64 s.length)::T,H,c⟩,[.t 2],0⟩ ⟨.bool true,[]⟩
 | [],done,T,H,c,n,e,hn=>by
  have hl:=md0 e;refine evA ?_;refine ag ?_;rfl
 |x::rest,done,T,H,c,n,e,hn=>by
  have hl:=md e;have hb:=idxA e hn
  have hx:48≤x.toNat∧x.toNat≤57:=by
   have:=hd x (by simp[e])
   simpa[isD] using this
  have ih:=fun T H c=>qF s hs hd rest (done++[x]) T H c (n+1) (by simp[e]) (by simp[hn])
  refine evl ?_
  repeat' (first|refine cg ?_|(refine ae ?_ ?_<;>intro h))
  refine ab [18,0,17] [] ?_;exact ih _ _ _
theorem OV (s:List UInt8)(hs:s.length<2^40)(hd: ∀c∈s,isD c=true):ah G0 347 [.str s] [] ⟨.bool (mo s),[]⟩:=by
 cases s with
 |nil=>
  have z: ∀{kv:AV→Prop},kv (.bool true)→ ∃v,bv .eql (.str []) (.str [])=some v∧kv v:=fun h=>⟨_,rfl,h⟩
  refine gvC (F:=xx) ?_
  repeat' ((conv=>whnf);first|refine z ?_|refine au ?_|(refine ae ?_ ?_<;>intro h))
  refine ag ?_;rfl
 |cons b r=>
  have z: ∀{kv:AV→Prop},kv (.bool false)→ ∃v,bv .eql (.str (b::r)) (.str [])=some v∧kv v:=fun h=>⟨_,rfl,h⟩
  have hb:(b::r)[(0:Int).toNat]? =some b:=rfl;have hl:(b::r).length=r.length+1:=rfl;cases r with
  |nil=>
   rw[show mo [b]=true from by simp[mo]]
   refine gvC (F:=xx) ?_
   repeat' ((conv=>whnf);first|refine z ?_|refine au ?_|(refine ae ?_ ?_<;>intro h))
   refine ab [18,0,17] [] ?_;exact qF [b] hs hd [b] [] _ _ _ 0 rfl rfl
  |cons d q=>
   have hl2:(b::d::q).length=q.length+2:=rfl
   by_cases hz:b=48
   ·subst hz
    rw[show mo (48::d::q)=false from by simp[mo]]
    refine gvC (F:=xx) ?_
    repeat' ((conv=>whnf);first|refine z ?_|refine zIstr (b:=48) ?_ hb (by omega)|refine au ?_|(refine ae ?_ ?_<;>intro h))
    refine ag ?_;rfl
   ·have hz2: ¬(b.toNat:Int)=48:=by
     intro e;apply hz;apply A7.1
     show b.toNat=48
     omega
    rw[show mo (b::d::q)=true from by simp[mo,hz]]
    refine gvC (F:=xx) ?_
    repeat' ((conv=>whnf);first|refine z ?_|refine zIstr (b:=b) ?_ hb (by omega)|refine au ?_|(refine ae ?_ ?_<;>intro h))
    refine ab [18,0,17] [] ?_;exact qF (b::d::q) hs hd (b::d::q) [] _ _ _ 0 rfl rfl
def nuR (v e:Int):Ret:=⟨.tup [.int .i64 v,.int .i64 e],[]⟩
theorem y5 (s:List UInt8)(hs:s.length<2^40)(hd: ∀c∈s,isD c=true): ∀(rest done:List UInt8)(a:Int)(T:TV)(H:aw)(c:Nat)(n:Int)(e:s=done++rest)(hn:n=done.length)(h0:0≤a)(ha:a≤9223372036854775807),
  Ev G0 ⟨aan,⟨(14,.int .i64 n)::(6,.int .i64 a)::(0,.str s)::(1,.int .i64 4294967295)::(13,.int .i64 s.length)::T,H,c⟩,[.t 4,.t 5],0⟩ (if 4294967295<dJ a rest then nuR 0 5 else nuR (dJ a rest) 0)
 | [],done,a,T,H,c,n,e,hn,h0,ha=>by
  have hl:=md0 e;have hv:dJ a []=a:=rfl;rw[hv]
  by_cases hm:4294967295<a
  ·rw[Ad hm]
   refine evA ?_;refine ag ?_;rfl
  ·rw[Ac hm]
   refine evA ?_;refine ag ?_;rfl
 |x::rest,done,a,T,H,c,n,e,hn,h0,ha=>by
  have hl:=md e;have hb:=idxA e hn;have hdx:=hd x (by simp[e])
  have hx:48≤x.toNat∧x.toNat≤57:=by simpa[isD] using hdx
  have hv:=u6 hdx;have h3:dJ a (x::rest)=dJ (10*a+f7 x) rest:=rfl;have h4:=Bu rest (10*a+f7 x) (by omega) (fun y hy=>hd y (by simp[e,hy]))
  rw[h3]
  by_cases ho:a>(9223372036854775807-f7 x)/ 10
  ·rw[Ad (by omega)]
   refine evl ?_
   repeat' ((conv=>whnf);first|refine zIstr ?_ hb (by omega)|refine JK ?_ hx.1|refine au ?_|(refine ae ?_ ?_<;>intro h))
   refine ag ?_;rfl
  ·have ih:=fun T H c=>y5 s hs hd rest (done++[x]) (10*a+f7 x) T H c (n+1) (by simp[e]) (by simp[hn]) (by omega) (by omega)
   refine evl ?_
   repeat' ((conv=>whnf);first|refine zIstr ?_ hb (by omega)|refine JK ?_ hx.1|refine au ?_|(refine ae ?_ ?_<;>intro h))
   refine ab [14,6,0,1,13] [] ?_;exact ih _ _ _
theorem QL (s:List UInt8)(hs:s.length<2^40)(hd: ∀c∈s,isD c=true):ah G0 346 [.str s,.int .i64 4294967295] [] (if mo s=true then (if 4294967295<dJ 0 s then nuR 0 5 else nuR (dJ 0 s) 0) else nuR 0 2):=by
 have hc:=OV s hs hd;cases hq:mo s
 ·rw[hq] at hc
  rw[Ac (by simp)]
  exact gvA (F:=NV)
 ·rw[hq] at hc
  rw[Ad rfl];refine gvB (F:=NV) ?_;refine ab [14,6,0,1,13] [] ?_;exact y5 s hs hd s [] 0 _ _ _ 0 rfl rfl (by omega) (by omega)
def Cj (s:List UInt8)(n:Nat):Nat:=n+((s.drop n).takeWhile isD).length
def L8 (s:List UInt8)(n:Nat):Option (Int×Nat)→Ret
 |some (a,m)=>rpR s (.int .i64 a) m
 |none=>pnR s (Cj s n)
theorem afX {s:List UInt8}{n:Nat}:isD (pk s n)=true→n<s.length:=by
 intro h;rcases AZ n s.length with q|q
 ·exact q
 ·rw[pk,AC q] at h;simp[isD] at h
theorem vE (s:List UInt8)(hs:s.length<2^40)(fr:Nat): ∀(f n:Nat)(done:List UInt8)(T:TV)(H:aw)(c:Nat)(hf:n+f=s.length)(hd: ∀c∈done,isD c=true)(e:s.drop fr=done++s.drop n)(hn:n=fr+done.length),
  Ev G0 ⟨ab7,⟨(0,.ref 0 0 0)::(3,.int .i64 (fr:Int))::T,(0,some (0,.cells [.str s,.int .i64 (n:Int)]))::H,c⟩,[.t 2],1⟩ (L8 s fr (fX s fr))
 |f,n,done,T,H,c,hf,hd,e,hn=>by
  have h1:=fM s hs n (by omega)
  by_cases hD:isD (pk s n)=true
  ·have hlt:=afX hD
   have hp:pk s n=s[n]:=by simp[pk,hlt]
   have e2:s.drop n=s[n]::s.drop (n+1):=List.drop_eq_getElem_cons hlt;rw[←hp] at e2;have hD':=hD;obtain ⟨f',rfl⟩: ∃f',f=f'+1:=⟨f-1,by omega⟩
   have ih:=fun T H c=>vE s hs fr f' (n+1) (done++[pk s n]) T H c (by omega) (fun c hc=>by
    rcases B4.1 hc with hc|hc
    ·exact hd c hc
    ·rw[B5.1 hc];exact hD) (by rw[e,e2];simp) (by simp;omega)
   generalize pk s n=b at*;have hb:48≤b.toNat∧b.toNat≤57:=by simpa[isD] using hD'
   have hbl:=b.toNat_lt;refine evl ?_
   repeat' (first|refine bc ?_|refine kX [(0,_,_)] [] ⟨rfl,trivial⟩ trivial (h1) ?_|(refine ae ?_ ?_<;>intro h))
   refine ab [0,3] [0] ?_;exact ih _ _ _
  ·have ht:(s.drop fr).takeWhile isD=done:=by
    rw[e];refine s5 hd (fun c hc=>?_)
    have:pk s n=c:=by
     have:s[n]? =some c:=by rw[←hc,List.head?_drop]
     simp[pk,this]
    rw[←this];simpa using hD
   have hm:Cj s fr=n:=by rw[Cj,ht,hn]
   have hle:fr≤n:=by omega
   have hsl:List.take (n-fr) (List.drop fr s)=done:=by
    rw[e,hn];simp
   have h2:ah G0 346 [.str (List.take (((n:Nat):Int).toNat- ((fr:Nat):Int).toNat) (List.drop ((fr:Nat):Int).toNat s)),.int .i64 4294967295] [] (if mo done=true then (if 4294967295<dJ 0 done then nuR 0 5 else nuR (dJ 0 done) 0) else nuR 0 2):=by
    have q:List.take (((n:Nat):Int).toNat- ((fr:Nat):Int).toNat) (List.drop ((fr:Nat):Int).toNat s)=done:=by simpa using hsl
    rw[q];exact QL done (by rw[←hsl];simp;omega) hd
   have hb: ¬(48≤(pk s n).toNat∧(pk s n).toNat≤57):=by simpa[isD] using hD
   have hbl:=(pk s n).toNat_lt
   have hpn:fX s fr=if mo done=true∧dJ 0 done≤4294967295 then some (dJ 0 done,n) else none:=by
    unfold fX;rw[ht];dsimp only;unfold mo
    by_cases a1:done= []
    ·simp[a1]
    by_cases a2:1<done.length∧done.head?=some 48
    ·simp[a1,a2]
    ·have hn':fr+done.length=n:=hn.symm
     simp only[Ac a1,Ac a2,hn']
     have a3:(!done.isEmpty&& !(decide (1<done.length)&&(done.head?==some 48)))=true:=by
      rw[Av];refine ⟨by simpa using a1,?_⟩
      simp only[Bool.not_eq_true',Bool.and_eq_false_iff,AP,beq_eq_false_iff_ne];rcases Decidable.em (1<done.length) with q|q
      ·exact .inr fun w=>a2 ⟨q,w⟩
      ·exact .inl q
     simp only[a3]
     by_cases a4:4294967295<dJ 0 done
     ·rw[Ad a4,Ac (by omega)]
     ·rw[Ac a4,Ad ⟨trivial,by omega⟩]
   rw[hpn]
   by_cases k1:mo done=true
   ·rw[Ad k1] at h2
    by_cases k2:4294967295<dJ 0 done
    ·rw[Ad k2] at h2
     rw[Ac (by omega),L8,hm]
     unfold nuR at h2;refine evl ?_
     repeat' (first|refine bc ?_|refine kX [(0,_,_)] [] ⟨rfl,trivial⟩ trivial (h1) ?_|(refine ae ?_ ?_<;>intro h))
     all_goals try (exfalso;omega)
     all_goals (refine mg ?_;rfl)
    ·rw[Ac k2] at h2
     rw[Ad ⟨k1,by omega⟩,L8]
     generalize dJ 0 done=V at*;unfold nuR at h2;refine evl ?_
     repeat' (first|refine bc ?_|refine kX [(0,_,_)] [] ⟨rfl,trivial⟩ trivial (h1) ?_|(refine ae ?_ ?_<;>intro h))
     all_goals try (exfalso;omega)
     all_goals
      refine fX1 ?_;rfl
   ·rw[Ac k1] at h2
    rw[Ac (fun q=>k1 q.1),L8,hm]
    unfold nuR at h2;refine evl ?_
    repeat' (first|refine bc ?_|refine kX [(0,_,_)] [] ⟨rfl,trivial⟩ trivial (h1) ?_|(refine ae ?_ ?_<;>intro h))
    all_goals try (exfalso;omega)
    all_goals (refine mg ?_;rfl)
theorem oH (s:List UInt8)(hs:s.length<2^40)(n:Nat)(hn:n≤s.length):ah G0 657 [.ref 0 0 0] [.cells [.str s,.int .i64 (n:Int)]] (L8 s n (fX s n)):=by
 refine gvB (F:=Vi) ?_;refine ab [0,3] [0] ?_;exact vE s hs n (s.length-n) n [] _ _ _ (by omega) (fun c h=>by cases h) (by simp) (by simp)
end Go.AM.IR
namespace Go.AM.IR
def jv (f:Nat)(s:List UInt8)(lv:Int)(n:Nat):Option (Rx×Nat)→Prop
 |some (x,m)=>ah G0 f [.ref 0 0 0,.int .i64 lv] [.cells [.str s,.int .i64 (n:Int)]] (rpR s (.agg x.enc) m)
 |none=> ∃m,ah G0 f [.ref 0 0 0,.int .i64 lv] [.cells [.str s,.int .i64 (n:Int)]] (pnR s m)
theorem jz {s:List UInt8}{n:Nat}{c:UInt8}(h:pk s n=c)(hc:c≠0):n<s.length:=by
 rcases AZ n s.length with q|q
 ·exact q
 ·rw[pk,AC q] at h;exact absurd h.symm hc
theorem jQ {a b:UInt8}(h: ¬a=b): ¬(a.toNat:Int)=(b.toNat:Int):=fun q=>h (A7.1 (by omega))
theorem JH (s:List UInt8)(hs:s.length<2^40)(alt:PR)(lv:Int)(hl:lv≤32)(hl0:0≤lv)(hp:Pos s alt)(hA: ∀n,n≤s.length→jv 579 s (lv+1) n (alt n))(n:Nat)(hn:n≤s.length):jv 653 s lv n (cK s (fX s) alt n):=by
 have h1:=fM s hs n hn;have hbl:=(pk s n).toNat_lt;unfold cK;simp only[fT (show (46:UInt8)≠0 by decide),fT (show (33:UInt8)≠0 by decide),fT (show (40:UInt8)≠0 by decide),fT (show (41:UInt8)≠0 by decide),fT (show (91:UInt8)≠0 by decide),fT (show (93:UInt8)≠0 by decide),fT (show (45:UInt8)≠0 by decide),AO]
 by_cases c1:pk s n=46
 ·rw[Ad c1]
  have hlt:=jz c1 (by decide)
  rw[c1] at h1;show ah G0 653 _ _ (rpR s (.agg (Rx.mk 2 0 0 []).enc) (n+1))
  rw[e0];refine gvC (F:=kg) ?_
  repeat' (first|refine bc ?_|refine kX [(0,_,_)] [] ⟨rfl,trivial⟩ trivial (h1) ?_|(refine ae ?_ ?_<;>intro h))
  refine eU [] [(68,some (_,.cells ([.int .i64 2,.int .i64 0,.int .i64 0,.sl 4 []])))] trivial ⟨⟨rfl,leA⟩,trivial⟩ ?_;refine fX1 ?_;refine cJ ?_;rfl
 rw[Ac c1];have d1: ¬((pk s n).toNat:Int)=46:=jQ c1
 by_cases c2:pk s n=33
 ·rw[Ad c2]
  have hlt:=jz c2 (by decide)
  rw[c2] at h1;show ah G0 653 _ _ (rpR s (.agg (Rx.mk 4 0 0 []).enc) (n+1))
  rw[e0];refine gvC (F:=kg) ?_
  repeat' (first|refine bc ?_|refine kX [(0,_,_)] [] ⟨rfl,trivial⟩ trivial (h1) ?_|(refine ae ?_ ?_<;>intro h))
  refine eU [] [(68,some (_,.cells ([.int .i64 4,.int .i64 0,.int .i64 0,.sl 4 []])))] trivial ⟨⟨rfl,leA⟩,trivial⟩ ?_;refine fX1 ?_;refine cJ ?_;rfl
 rw[Ac c2];have d2: ¬((pk s n).toNat:Int)=33:=jQ c2
 by_cases c3:pk s n=40
 ·rw[Ad c3]
  have hlt:=jz c3 (by decide)
  rw[c3] at h1;have h2:=fM s hs (n+1) (by omega)
  have hbl2:=(pk s (n+1)).toNat_lt
  by_cases c4:pk s (n+1)=41
  ·rw[Ad c4]
   have hlt2:=jz c4 (by decide)
   rw[c4] at h2;show ah G0 653 _ _ (rpR s (.agg (Rx.mk 0 0 0 []).enc) (n+1+1))
   rw[e0];refine gvC (F:=kg) ?_
   repeat' (first|refine bc ?_|refine kX [(0,_,_)] [] ⟨rfl,trivial⟩ trivial (h1) ?_|refine kX [(0,_,_)] [] ⟨rfl,trivial⟩ trivial (h2) ?_|(refine ae ?_ ?_<;>intro h))
   refine eU [] [(68,some (_,.cells ([.int .i64 0,.int .i64 0,.int .i64 0,.sl 4 []])))] trivial ⟨⟨rfl,leA⟩,trivial⟩ ?_;refine fX1 ?_;refine cJ ?_;rfl
  rw[Ac c4];have d4: ¬((pk s (n+1)).toNat:Int)=41:=jQ c4;have hq:=hA (n+1) (by omega)
  cases ha:alt (n+1) with
  |none=>
   rw[ha] at hq;obtain ⟨m,hq⟩:=hq;refine ⟨m,?_⟩;generalize pk s (n+1)=b2 at*;refine gvC (F:=kg) ?_
   repeat' (first|refine bc ?_|refine kX [(0,_,_)] [] ⟨rfl,trivial⟩ trivial (h1) ?_|refine kX [(0,_,_)] [] ⟨rfl,trivial⟩ trivial (h2) ?_|(refine ae ?_ ?_<;>intro h))
   (conv=>whnf)
   refine CallG.stop ?_;refine dF 579 hq (fun Q hr hg=>?_)
   refine kX [(0,_,_)] [] ⟨rfl,trivial⟩ trivial hg ?_ (hE:=by rw[hr];rfl)
   rfl
  |some q=>
   obtain ⟨x,m⟩:=q;rw[ha] at hq;obtain ⟨p1,p2,p3⟩:=hp (n+1) x m (by omega) ha
   have h3:=pd s hs m p2 41 (by decide)
   obtain ⟨k,lo,hi,l⟩:=x
   change ah G0 579 _ _ (rpR s (.agg (Rx.mk k lo hi l).enc) m) at hq
   rw[bi] at hq;rw[fT (show (41:UInt8)≠0 by decide)] at h3
   generalize pk s (n+1)=b2 at*;dsimp only
   by_cases c5:pk s m=41
   ·have hlt3:=jz c5 (by decide)
    rw[Ad c5];rw[Ad (by simpa using c5)] at h3
    show ah G0 653 _ _ (rpR s (.agg (Rx.mk k lo hi l).enc) (m+1))
    rw[bi];refine gvC (F:=kg) ?_
    repeat' (first|refine bc ?_|refine kX [(0,_,_)] [] ⟨rfl,trivial⟩ trivial (h1) ?_|refine kX [(0,_,_)] [] ⟨rfl,trivial⟩ trivial (h2) ?_|refine kX [(0,_,_)] [] ⟨rfl,trivial⟩ trivial (hq) ?_|refine kX [(0,_,_)] [] ⟨rfl,trivial⟩ trivial (h3) ?_|(refine ae ?_ ?_<;>intro h))
    refine fX1 ?_;refine cJ ?_;rfl
   ·rw[Ac c5]
    rw[Ac (by simpa using c5)] at h3
    refine ⟨m,?_⟩;refine gvC (F:=kg) ?_
    repeat' (first|refine bc ?_|refine kX [(0,_,_)] [] ⟨rfl,trivial⟩ trivial (h1) ?_|refine kX [(0,_,_)] [] ⟨rfl,trivial⟩ trivial (h2) ?_|refine kX [(0,_,_)] [] ⟨rfl,trivial⟩ trivial (hq) ?_|(refine ae ?_ ?_<;>intro h))
    (conv=>whnf)
    refine CallG.stop ?_;refine dF 658 h3 (fun Q hr hg=>?_)
    refine kX [(0,_,_)] [] ⟨rfl,trivial⟩ trivial hg ?_ (hE:=by rw[hr];rfl)
    rfl
 rw[Ac c3];have d3: ¬((pk s n).toNat:Int)=40:=jQ c3
 by_cases c6:pk s n=91
 ·rw[Ad c6]
  have hlt:=jz c6 (by decide)
  rw[c6] at h1;have h2:=oH s hs (n+1) (by omega)
  cases ha:fX s (n+1) with
  |none=>
   rw[ha] at h2;refine ⟨Cj s (n+1),?_⟩;refine gvC (F:=kg) ?_
   repeat' (first|refine bc ?_|refine kX [(0,_,_)] [] ⟨rfl,trivial⟩ trivial (h1) ?_|(refine ae ?_ ?_<;>intro h))
   (conv=>whnf)
   refine CallG.stop ?_;refine dF 657 h2 (fun Q hr hg=>?_)
   refine kX [(0,_,_)] [] ⟨rfl,trivial⟩ trivial hg ?_ (hE:=by rw[hr];rfl)
   rfl
  |some q=>
   obtain ⟨a,m⟩:=q;rw[ha] at h2;obtain ⟨p1,p2⟩:=lX s (n+1) a m (by omega) ha
   have h3:=pd s hs m p2 45 (by decide)
   rw[fT (show (45:UInt8)≠0 by decide)] at h3
   dsimp only
   change ah G0 657 _ _ (rpR s (.int .i64 a) m) at h2
   by_cases c7:pk s m=45
   ·have hlt3:=jz c7 (by decide)
    rw[Ad c7];rw[Ad (by simpa using c7)] at h3
    have h4:=oH s hs (m+1) (by omega)
    cases hb:fX s (m+1) with
    |none=>
     rw[hb] at h4;refine ⟨Cj s (m+1),?_⟩;refine gvC (F:=kg) ?_
     repeat' (first|refine bc ?_|refine kX [(0,_,_)] [] ⟨rfl,trivial⟩ trivial (h1) ?_|refine kX [(0,_,_)] [] ⟨rfl,trivial⟩ trivial (h2) ?_|refine kX [(0,_,_)] [] ⟨rfl,trivial⟩ trivial (h3) ?_|(refine ae ?_ ?_<;>intro h))
     (conv=>whnf)
     refine CallG.stop ?_;refine dF 657 h4 (fun Q hr hg=>?_)
     refine kX [(0,_,_)] [] ⟨rfl,trivial⟩ trivial hg ?_ (hE:=by rw[hr];rfl)
     rfl
    |some q=>
     obtain ⟨b,k⟩:=q;rw[hb] at h4;obtain ⟨q1,q2⟩:=lX s (m+1) b k (by omega) hb
     have h5:=pd s hs k q2 93 (by decide)
     rw[fT (show (93:UInt8)≠0 by decide)] at h5
     dsimp only
     change ah G0 657 _ _ (rpR s (.int .i64 b) k) at h4
     by_cases c8:pk s k=93
     ·have hlt4:=jz c8 (by decide)
      rw[Ad c8];rw[Ad (by simpa using c8)] at h5
      show ah G0 653 _ _ (rpR s (.agg (Rx.mk 1 a b []).enc) (k+1))
      rw[e0];refine gvC (F:=kg) ?_
      repeat' (first|refine bc ?_|refine kX [(0,_,_)] [] ⟨rfl,trivial⟩ trivial (h1) ?_|refine kX [(0,_,_)] [] ⟨rfl,trivial⟩ trivial (h2) ?_|refine kX [(0,_,_)] [] ⟨rfl,trivial⟩ trivial (h3) ?_|refine kX [(0,_,_)] [] ⟨rfl,trivial⟩ trivial (h4) ?_|refine kX [(0,_,_)] [] ⟨rfl,trivial⟩ trivial (h5) ?_|(refine ae ?_ ?_<;>intro h))
      refine eU [] [(68,some (_,.cells ([.int .i64 1,.int .i64 a,.int .i64 b,.sl 4 []])))] trivial ⟨⟨rfl,leA⟩,trivial⟩ ?_;refine fX1 ?_;refine cJ ?_;rfl
     ·rw[Ac c8]
      rw[Ac (by simpa using c8)] at h5
      refine ⟨k,?_⟩;refine gvC (F:=kg) ?_
      repeat' (first|refine bc ?_|refine kX [(0,_,_)] [] ⟨rfl,trivial⟩ trivial (h1) ?_|refine kX [(0,_,_)] [] ⟨rfl,trivial⟩ trivial (h2) ?_|refine kX [(0,_,_)] [] ⟨rfl,trivial⟩ trivial (h3) ?_|refine kX [(0,_,_)] [] ⟨rfl,trivial⟩ trivial (h4) ?_|(refine ae ?_ ?_<;>intro h))
      (conv=>whnf)
      refine CallG.stop ?_;refine dF 658 h5 (fun Q hr hg=>?_)
      refine kX [(0,_,_)] [] ⟨rfl,trivial⟩ trivial hg ?_ (hE:=by rw[hr];rfl)
      rfl
   ·rw[Ac c7]
    rw[Ac (by simpa using c7)] at h3
    refine ⟨m,?_⟩;refine gvC (F:=kg) ?_
    repeat' (first|refine bc ?_|refine kX [(0,_,_)] [] ⟨rfl,trivial⟩ trivial (h1) ?_|refine kX [(0,_,_)] [] ⟨rfl,trivial⟩ trivial (h2) ?_|(refine ae ?_ ?_<;>intro h))
    (conv=>whnf)
    refine CallG.stop ?_;refine dF 658 h3 (fun Q hr hg=>?_)
    refine kX [(0,_,_)] [] ⟨rfl,trivial⟩ trivial hg ?_ (hE:=by rw[hr];rfl)
    rfl
 rw[Ac c6];have d6: ¬((pk s n).toNat:Int)=91:=jQ c6;have h2:=oH s hs n hn;generalize pk s n=b1 at*;cases ha:fX s n with
 |none=>
  rw[ha] at h2;refine ⟨Cj s n,?_⟩;refine gvC (F:=kg) ?_
  repeat' (first|refine bc ?_|refine kX [(0,_,_)] [] ⟨rfl,trivial⟩ trivial (h1) ?_|(refine ae ?_ ?_<;>intro h))
  (conv=>whnf)
  refine CallG.stop ?_;refine dF 657 h2 (fun Q hr hg=>?_)
  refine kX [(0,_,_)] [] ⟨rfl,trivial⟩ trivial hg ?_ (hE:=by rw[hr];rfl)
  rfl
 |some q=>
  obtain ⟨a,m⟩:=q;rw[ha] at h2;obtain ⟨p1,p2⟩:=lX s n a m hn ha;dsimp only
  change ah G0 657 _ _ (rpR s (.int .i64 a) m) at h2
  show ah G0 653 _ _ (rpR s (.agg (Rx.mk 1 a a []).enc) (m))
  rw[e0];refine gvC (F:=kg) ?_
  repeat' (first|refine bc ?_|refine kX [(0,_,_)] [] ⟨rfl,trivial⟩ trivial (h1) ?_|refine kX [(0,_,_)] [] ⟨rfl,trivial⟩ trivial (h2) ?_|(refine ae ?_ ?_<;>intro h))
  refine eU [] [(68,some (_,.cells ([.int .i64 1,.int .i64 a,.int .i64 a,.sl 4 []])))] trivial ⟨⟨rfl,leA⟩,trivial⟩ ?_;refine fX1 ?_;refine cJ ?_;rfl
theorem Jn (s:List UInt8)(hs:s.length<2^40)(atom:PR)(lv:Int)(hp:Pos s atom)(n:Nat)(hn:n≤s.length)(hA:jv 653 s lv n (atom n)):jv 646 s lv n (en s atom n):=by
 unfold en;cases ha:atom n with
 |none=>
  rw[ha] at hA;obtain ⟨m,hq⟩:=hA;refine ⟨m,?_⟩;refine gvB (F:=xb) ?_
  (conv=>whnf)
  refine CallG.stop ?_;refine dF 653 hq (fun Q hr hg=>?_)
  refine kX [(0,_,_)] [] ⟨rfl,trivial⟩ trivial hg ?_ (hE:=by rw[hr];rfl)
  rfl
 |some q=>
  obtain ⟨x,m⟩:=q;rw[ha] at hA;obtain ⟨p1,p2,p3⟩:=hp n x m hn ha;have h2:=fM s hs m p2;have hbl:=(pk s m).toNat_lt;obtain ⟨k,lo,hi,l⟩:=x
  change ah G0 653 _ _ (rpR s (.agg (Rx.mk k lo hi l).enc) m) at hA
  rw[bi] at hA;dsimp only;simp only[fT (show (42:UInt8)≠0 by decide),fT (show (43:UInt8)≠0 by decide),fT (show (63:UInt8)≠0 by decide),AO]
  by_cases c0:pk s m=42
  ·rw[Ad c0]
   have hlt:=jz c0 (by decide)
   rw[c0] at h2;show ah G0 646 _ _ (rpR s (.agg (Rx.mk 5 0 0 [Rx.mk k lo hi l]).enc) (m+1))
   rw[bi,Ao,A9,bi];refine gvC (F:=xb) ?_
   repeat' (first|refine bc ?_|refine kX [(0,_,_)] [] ⟨rfl,trivial⟩ trivial (hA) ?_|refine kX [(0,_,_)] [] ⟨rfl,trivial⟩ trivial (h2) ?_|(refine ae ?_ ?_<;>intro h))
   refine u5 [(92,_,_)] [4] [68] [0] ⟨rfl,frP,trivial⟩ ?_;repeat ((conv=>whnf);first|refine frA ?_|intro T H)
   refine fX1 ?_;refine cJ ?_;rfl
  rw[Ac c0];have d0: ¬((pk s m).toNat:Int)=42:=jQ c0
  by_cases c1:pk s m=43
  ·rw[Ad c1]
   have hlt:=jz c1 (by decide)
   rw[c1] at h2;show ah G0 646 _ _ (rpR s (.agg (Rx.mk 6 0 0 [Rx.mk k lo hi l]).enc) (m+1))
   rw[bi,Ao,A9,bi];refine gvC (F:=xb) ?_
   repeat' (first|refine bc ?_|refine kX [(0,_,_)] [] ⟨rfl,trivial⟩ trivial (hA) ?_|refine kX [(0,_,_)] [] ⟨rfl,trivial⟩ trivial (h2) ?_|(refine ae ?_ ?_<;>intro h))
   refine u5 [(92,_,_)] [4] [68] [0] ⟨rfl,frP,trivial⟩ ?_;repeat ((conv=>whnf);first|refine frA ?_|intro T H)
   refine fX1 ?_;refine cJ ?_;rfl
  rw[Ac c1];have d1: ¬((pk s m).toNat:Int)=43:=jQ c1
  by_cases c2:pk s m=63
  ·rw[Ad c2]
   have hlt:=jz c2 (by decide)
   rw[c2] at h2;show ah G0 646 _ _ (rpR s (.agg (Rx.mk 7 0 0 [Rx.mk k lo hi l]).enc) (m+1))
   rw[bi,Ao,A9,bi];refine gvC (F:=xb) ?_
   repeat' (first|refine bc ?_|refine kX [(0,_,_)] [] ⟨rfl,trivial⟩ trivial (hA) ?_|refine kX [(0,_,_)] [] ⟨rfl,trivial⟩ trivial (h2) ?_|(refine ae ?_ ?_<;>intro h))
   refine u5 [(92,_,_)] [4] [68] [0] ⟨rfl,frP,trivial⟩ ?_;repeat ((conv=>whnf);first|refine frA ?_|intro T H)
   refine fX1 ?_;refine cJ ?_;rfl
  rw[Ac c2];have d2: ¬((pk s m).toNat:Int)=63:=jQ c2;show ah G0 646 _ _ (rpR s (.agg (Rx.mk k lo hi l).enc) m)
  rw[bi];generalize pk s m=b1 at*;refine gvC (F:=xb) ?_
  repeat' (first|refine bc ?_|refine kX [(0,_,_)] [] ⟨rfl,trivial⟩ trivial (hA) ?_|refine kX [(0,_,_)] [] ⟨rfl,trivial⟩ trivial (h2) ?_|(refine ae ?_ ?_<;>intro h))
  refine fX1 ?_;refine cJ ?_;rfl
end Go.AM.IR
namespace Go.AM.IR
def abt (s:List UInt8):Option (Rx×Nat)→Ret→Prop
 |some (x,m),t=>t=rpR s (.agg x.enc) m
 |none,t=> ∃m,t=pnR s m
theorem Sw {f:Nat}{s:List UInt8}{lv:Int}{n:Nat}{o:Option (Rx×Nat)}{t:Ret}(h:abt s o t)(g:ah G0 f [.ref 0 0 0,.int .i64 lv] [.cells [.str s,.int .i64 (n:Int)]] t):jv f s lv n o:=by
 cases o with
 |none=>obtain ⟨m,rfl⟩:=h;exact ⟨m,g⟩
 |some p=>obtain ⟨x,m⟩:=p;obtain rfl:t=_:=h;exact g
def OA (s:List UInt8)(item:PR)(c:UInt8)(f:Nat)(acc:List Rx)(m:Nat):Option (List Rx×Nat):=if chr s m c then eF s item c f acc (m+1) else some (acc,m)
theorem rk {s:List UInt8}{item:PR}{c:UInt8}{f:Nat}{acc:List Rx}{n:Nat}{x:Rx}{m:Nat}(h:item n=some (x,m)):eF s item c (f+1) acc n=OA s item c f (acc++[x]) m:=by
 rw[eF,h];rfl
theorem rj {s:List UInt8}{item:PR}{c:UInt8}{f:Nat}{acc:List Rx}{n:Nat}(h:item n=none):eF s item c (f+1) acc n=none:=by
 rw[eF,h]
theorem yi (s:List UInt8)(hs:s.length<2^32)(item:PR)(lv:Int)(hp:Pos s item)(hA: ∀n,n≤s.length→jv 646 s lv n (item n)): ∀(f:Nat)(acc:List Rx)(m:Nat)(hf:s.length<f+(m+1))(hm:m≤s.length)(hne:acc≠ [])(hac:acc.length+f≤s.length+1),∃t,abt s (gv 3 (OA s item 32 f acc m)) t∧ ∀(T:TV)(H:aw)(c g g4:Nat)(es:List (List AV))(k:Nat)(hes:es=acc.map Rx.enc)(hk:k=acc.length),Ev G0 ⟨acd,⟨(1,.int .i64 lv)::(0,.ref 0 0 0)::(5,.vs 89 g k)::(4,.ref 68 g4 0)::T,(0,some (0,.cells [.str s,.int .i64 (m:Int)]))::(68,some (g4,.cells [.int .i64 0,.int .i64 0,.int .i64 0,.con (.slice none 0 0)]))::(89,some (g,.vec 4 es))::H,c⟩,[.cell 4 (some 4)],1⟩ t
 |f,acc,m,hf,hm,hne,hac=>by
  have h1:=fM s (by omega) m hm
  have hbl:=(pk s m).toNat_lt;have hl:=ml acc Rx.enc;unfold OA;simp only[fT (show (32:UInt8)≠0 by decide),AO]
  by_cases c1:pk s m=32
  ·rw[Ad c1]
   rw[c1] at h1;have hlt:=jz c1 (by decide)
   have hq:=hA (m+1) (by omega)
   obtain ⟨f',rfl⟩: ∃f',f=f'+1:=⟨f-1,by omega⟩
   cases ha:item (m+1) with
   |none=>
    rw[ha] at hq;obtain ⟨m',hq⟩:=hq;rw[rj ha];refine ⟨_,⟨m',rfl⟩,fun T H c g g4 es k hes hk=>?_⟩
    subst hes hk;refine evl ?_
    repeat' (first|refine bc ?_|refine kX [(0,_,_)] [] ⟨rfl,trivial⟩ trivial (h1) ?_|(refine ae ?_ ?_<;>intro h))
    (conv=>whnf)
    refine CallG.stop ?_;refine dF 646 hq (fun Q hr hg=>?_)
    refine kX [(0,_,_)] [] ⟨rfl,trivial⟩ trivial hg ?_ (hE:=by rw[hr];rfl)
    rfl
   |some p=>
    obtain ⟨x,m'⟩:=p;rw[ha] at hq;obtain ⟨p1,p2,_⟩:=hp _ _ _ (by omega) ha
    rw[rk ha];have hpx:=cq x;have hax:(acc++[x]).map Rx.enc=acc.map Rx.enc++[x.enc]:=by simp
    obtain ⟨t,h2,h3⟩:=yi s hs item lv hp hA f' (acc++[x]) m' (by omega) p2 (by simp) (by simp;omega)
    refine ⟨t,h2,fun T H c g g4 es k hes hk=>?_⟩
    subst hes hk;rw[hax] at h3;simp only[jv] at hq;generalize hxe:x.enc=xe at*;obtain ⟨k,lo,hi,l⟩:=x;rw[bi] at hxe;subst hxe;refine evl ?_
    repeat' (first|refine bc ?_|refine kX [(0,_,_)] [] ⟨rfl,trivial⟩ trivial (h1) ?_|refine kX [(0,_,_)] [] ⟨rfl,trivial⟩ trivial (hq) ?_|(refine ae ?_ ?_<;>intro h))
    refine ab [1,0,5,4] [0,68,89] ?_;exact h3 _ _ _ _ _ _ _ rfl (by simp)
  ·rw[Ac c1]
   have d1: ¬((pk s m).toNat:Int)=32:=jQ c1;generalize pk s m=b1 at*;cases acc with
   |nil=>exact absurd rfl hne
   |cons x r=>
    cases r with
    |nil=>
     refine ⟨rpR s (.agg x.enc) m,rfl,fun T H c g g4 es k hes hk=>?_⟩
     obtain rfl:es= [x.enc]:=hes;obtain rfl:k=1:=hk;generalize hxe:x.enc=xe at*;obtain ⟨k,lo,hi,l⟩:=x;rw[bi] at hxe;subst hxe;refine evl ?_
     repeat' (first|refine bc ?_|refine kX [(0,_,_)] [] ⟨rfl,trivial⟩ trivial (h1) ?_|refine And.intro (show Int.toNat 0<0+1 from Nat.one_pos) ?_|(refine ae ?_ ?_<;>intro h))
     refine fX1 ?_;refine cJ ?_;rfl
    |cons y q=>
     refine ⟨rpR s (.agg (Rx.mk 3 0 0 (x::y::q)).enc) m,rfl,fun T H c g g4 es k hes hk=>?_⟩
     subst hes hk;rw[bi];have hl2:(x::y::q).length=q.length+2:=rfl;refine evl ?_
     repeat' (first|refine bc ?_|refine kX [(0,_,_)] [] ⟨rfl,trivial⟩ trivial (h1) ?_|(refine ae ?_ ?_<;>intro h))
     refine kn [(89,_,_)] [4] [0,68] ⟨rfl,frP,trivial⟩ ?_;repeat ((conv=>whnf);first|refine frA ?_|intro T H)
     refine fX1 ?_;refine cJ ?_;rfl
theorem Qu (s:List UInt8)(hs:s.length<2^32)(item:PR)(lv:Int)(hp:Pos s item)(hA: ∀n,n≤s.length→jv 646 s lv n (item n))(n:Nat)(hn:n≤s.length):jv 624 s lv n (gv 3 (eF s item 32 (s.length+1) [] n)):=by
 have hq:=hA n hn;cases ha:item n with
 |none=>
  rw[ha] at hq;obtain ⟨m',hq⟩:=hq;rw[rj ha];refine ⟨m',?_⟩;refine gvB (F:=Nk) ?_
  (conv=>whnf)
  refine CallG.stop ?_;refine dF 646 hq (fun Q hr hg=>?_)
  refine kX [(0,_,_)] [] ⟨rfl,trivial⟩ trivial hg ?_ (hE:=by rw[hr];rfl)
  rfl
 |some p=>
  obtain ⟨x,m⟩:=p;rw[ha] at hq;obtain ⟨p1,p2,_⟩:=hp _ _ _ hn ha;rw[rk ha];have hpx:=cq x;obtain ⟨t,h1,h2⟩:=yi s hs item lv hp hA s.length [x] m (by omega) p2 (by simp) (by simp;omega)
  refine Sw h1 ?_;simp only[jv] at hq;generalize hxe:x.enc=xe at*;obtain ⟨k,lo,hi,l⟩:=x;rw[bi] at hxe;have h3:=fun T H c g g4=>h2 T H c g g4 _ _ rfl rfl
  subst hxe;simp only[Ao,A9,bi,As,A8] at h3;refine gvC (F:=Nk) ?_
  repeat' (first|refine bc ?_|refine kX [(0,_,_)] [] ⟨rfl,trivial⟩ trivial (hq) ?_|(refine ae ?_ ?_<;>intro h))
  (conv=>whnf)
  refine aaq 73 89 [(1,_),(0,_),(5,.vs 89 _ _),(4,_)] [(0,_),(68,_)] rfl puL (by decide) ⟨rfl,rfl,(by show AV.ren _ (.vs 73 _ _)=_;simp only[AV.ren,φM,and_self,if_true];rfl),rfl,trivial⟩ ⟨⟨by decide,by decide,rfl⟩,⟨by decide,by decide,rfl⟩,trivial⟩ ?_
  intro T H;refine ab [1,0,5,4] [0,68,89] ?_;exact h3 _ _ _ _ _
theorem yk (s:List UInt8)(hs:s.length<2^32)(item:PR)(lv:Int)(hp:Pos s item)(hA: ∀n,n≤s.length→jv 624 s lv n (item n)): ∀(f:Nat)(acc:List Rx)(m:Nat)(hf:s.length<f+(m+1))(hm:m≤s.length)(hne:acc≠ [])(hac:acc.length+f≤s.length+1),∃t,abt s (gv 4 (OA s item 124 f acc m)) t∧ ∀(T:TV)(H:aw)(c g g4:Nat)(es:List (List AV))(k:Nat)(hes:es=acc.map Rx.enc)(hk:k=acc.length),Ev G0 ⟨acm,⟨(1,.int .i64 lv)::(0,.ref 0 0 0)::(5,.vs 93 g k)::(4,.ref 68 g4 0)::T,(0,some (0,.cells [.str s,.int .i64 (m:Int)]))::(68,some (g4,.cells [.int .i64 0,.int .i64 0,.int .i64 0,.con (.slice none 0 0)]))::(93,some (g,.vec 4 es))::H,c⟩,[.cell 4 (some 4)],1⟩ t
 |f,acc,m,hf,hm,hne,hac=>by
  have h1:=fM s (by omega) m hm
  have hbl:=(pk s m).toNat_lt;have hl:=ml acc Rx.enc;unfold OA;simp only[fT (show (124:UInt8)≠0 by decide),AO]
  by_cases c1:pk s m=124
  ·rw[Ad c1]
   rw[c1] at h1;have hlt:=jz c1 (by decide)
   have hq:=hA (m+1) (by omega)
   obtain ⟨f',rfl⟩: ∃f',f=f'+1:=⟨f-1,by omega⟩
   cases ha:item (m+1) with
   |none=>
    rw[ha] at hq;obtain ⟨m',hq⟩:=hq;rw[rj ha];refine ⟨_,⟨m',rfl⟩,fun T H c g g4 es k hes hk=>?_⟩
    subst hes hk;refine evl ?_
    repeat' (first|refine bc ?_|refine kX [(0,_,_)] [] ⟨rfl,trivial⟩ trivial (h1) ?_|(refine ae ?_ ?_<;>intro h))
    (conv=>whnf)
    refine CallG.stop ?_;refine dF 624 hq (fun Q hr hg=>?_)
    refine kX [(0,_,_)] [] ⟨rfl,trivial⟩ trivial hg ?_ (hE:=by rw[hr];rfl)
    rfl
   |some p=>
    obtain ⟨x,m'⟩:=p;rw[ha] at hq;obtain ⟨p1,p2,_⟩:=hp _ _ _ (by omega) ha
    rw[rk ha];have hpx:=cq x;have hax:(acc++[x]).map Rx.enc=acc.map Rx.enc++[x.enc]:=by simp
    obtain ⟨t,h2,h3⟩:=yk s hs item lv hp hA f' (acc++[x]) m' (by omega) p2 (by simp) (by simp;omega)
    refine ⟨t,h2,fun T H c g g4 es k hes hk=>?_⟩
    subst hes hk;rw[hax] at h3;simp only[jv] at hq;generalize hxe:x.enc=xe at*;obtain ⟨k,lo,hi,l⟩:=x;rw[bi] at hxe;subst hxe;refine evl ?_
    repeat' (first|refine bc ?_|refine kX [(0,_,_)] [] ⟨rfl,trivial⟩ trivial (h1) ?_|refine kX [(0,_,_)] [] ⟨rfl,trivial⟩ trivial (hq) ?_|(refine ae ?_ ?_<;>intro h))
    refine ab [1,0,5,4] [0,68,93] ?_;exact h3 _ _ _ _ _ _ _ rfl (by simp)
  ·rw[Ac c1]
   have d1: ¬((pk s m).toNat:Int)=124:=jQ c1;generalize pk s m=b1 at*;cases acc with
   |nil=>exact absurd rfl hne
   |cons x r=>
    cases r with
    |nil=>
     refine ⟨rpR s (.agg x.enc) m,rfl,fun T H c g g4 es k hes hk=>?_⟩
     obtain rfl:es= [x.enc]:=hes;obtain rfl:k=1:=hk;generalize hxe:x.enc=xe at*;obtain ⟨k,lo,hi,l⟩:=x;rw[bi] at hxe;subst hxe;refine evl ?_
     repeat' (first|refine bc ?_|refine kX [(0,_,_)] [] ⟨rfl,trivial⟩ trivial (h1) ?_|refine And.intro (show Int.toNat 0<0+1 from Nat.one_pos) ?_|(refine ae ?_ ?_<;>intro h))
     refine fX1 ?_;refine cJ ?_;rfl
    |cons y q=>
     refine ⟨rpR s (.agg (Rx.mk 4 0 0 (x::y::q)).enc) m,rfl,fun T H c g g4 es k hes hk=>?_⟩
     subst hes hk;rw[bi];have hl2:(x::y::q).length=q.length+2:=rfl;refine evl ?_
     repeat' (first|refine bc ?_|refine kX [(0,_,_)] [] ⟨rfl,trivial⟩ trivial (h1) ?_|(refine ae ?_ ?_<;>intro h))
     refine kn [(93,_,_)] [4] [0,68] ⟨rfl,frP,trivial⟩ ?_;repeat ((conv=>whnf);first|refine frA ?_|intro T H)
     refine fX1 ?_;refine cJ ?_;rfl
theorem Qv (s:List UInt8)(hs:s.length<2^32)(item:PR)(lv:Int)(hl:lv≤32)(hp:Pos s item)(hA: ∀n,n≤s.length→jv 624 s lv n (item n))(n:Nat)(hn:n≤s.length):jv 579 s lv n (gv 4 (eF s item 124 (s.length+1) [] n)):=by
 have hq:=hA n hn;cases ha:item n with
 |none=>
  rw[ha] at hq;obtain ⟨m',hq⟩:=hq;rw[rj ha];refine ⟨m',?_⟩;refine gvB (F:=CR) ?_
  (conv=>whnf)
  refine CallG.stop ?_;refine dF 624 hq (fun Q hr hg=>?_)
  refine kX [(0,_,_)] [] ⟨rfl,trivial⟩ trivial hg ?_ (hE:=by rw[hr];rfl)
  rfl
 |some p=>
  obtain ⟨x,m⟩:=p;rw[ha] at hq;obtain ⟨p1,p2,_⟩:=hp _ _ _ hn ha;rw[rk ha];have hpx:=cq x;obtain ⟨t,h1,h2⟩:=yk s hs item lv hp hA s.length [x] m (by omega) p2 (by simp) (by simp;omega)
  refine Sw h1 ?_;simp only[jv] at hq;generalize hxe:x.enc=xe at*;obtain ⟨k,lo,hi,l⟩:=x;rw[bi] at hxe;have h3:=fun T H c g g4=>h2 T H c g g4 _ _ rfl rfl
  subst hxe;simp only[Ao,A9,bi,As,A8] at h3;refine gvC (F:=CR) ?_
  repeat' (first|refine bc ?_|refine kX [(0,_,_)] [] ⟨rfl,trivial⟩ trivial (hq) ?_|(refine ae ?_ ?_<;>intro h))
  (conv=>whnf)
  refine aaq 77 93 [(1,_),(0,_),(5,.vs 93 _ _),(4,_)] [(0,_),(68,_)] rfl puL (by decide) ⟨rfl,rfl,(by show AV.ren _ (.vs 77 _ _)=_;simp only[AV.ren,φM,and_self,if_true];rfl),rfl,trivial⟩ ⟨⟨by decide,by decide,rfl⟩,⟨by decide,by decide,rfl⟩,trivial⟩ ?_
  intro T H;refine ab [1,0,5,4] [0,68,93] ?_;exact h3 _ _ _ _ _
end Go.AM.IR
namespace Go.AM.IR
theorem uC (s:List UInt8)(hs:s.length<2^32): ∀(k:Nat)(lv:Int)(hk:lv+k=33)(h0:0≤lv)(n:Nat)(hn:n≤s.length),jv 579 s lv n (cM s (fX s) k n)
 |0,lv,hk,h0,n,hn=>by
  obtain rfl:lv=33:=by omega
  refine ⟨n,?_⟩;refine gvB (F:=CR) ?_;refine mg ?_;rfl
 |k+1,lv,hk,h0,n,hn=>by
  have ih:=fun n hn=>uC s hs k (lv+1) (by omega) (by omega) n hn
  have pa:=rf hs (lX s) k;have h1:=fun n hn=>JH s (by omega) (cM s (fX s) k) lv (by omega) h0 pa ih n hn
  have pt:=xN (lX s) pa;have h2:=fun n hn=>Jn s (by omega) (cK s (fX s) (cM s (fX s) k)) lv pt n hn (h1 n hn)
  have pi:=mc pt;have h3:=fun n hn=>Qu s hs (en s (cK s (fX s) (cM s (fX s) k))) lv pi h2 n hn
  have ps:=uL hs pi;exact Qv s hs (kc s (en s (cK s (fX s) (cM s (fX s) k)))) lv (by omega) ps h3 n hn
end Go.AM.IR
namespace Go.AM.IR
def r4 (k n:Int):Bool×Bool:=if k=0∨k=1∨k=2 then (true,n==0) else if k=3 then (true,decide (n≥2)) else if k=4 then (true,n !=1) else if k=5∨k=6∨k=7 then (true,n==1) else (false,false)
theorem Ji (k n:Int):ah G0 659 [.int .i64 k,.int .i64 n] [] ⟨.tup [.bool (r4 k n).1,.bool (r4 k n).2],[]⟩:=by
 unfold r4
 by_cases k0:k=0
 ·subst k0
  rw[Ad (.inl rfl)];exact gvA (F:=oU)
 by_cases k1:k=1
 ·subst k1
  rw[Ad (.inr (.inl rfl))];exact gvA (F:=oU)
 by_cases k2:k=2
 ·subst k2
  rw[Ad (.inr (.inr rfl))];exact gvA (F:=oU)
 by_cases k3:k=3
 ·subst k3
  rw[Ac (by decide),Ad rfl]
  exact gvA (F:=oU)
 by_cases k4:k=4
 ·subst k4
  rw[Ac (by decide),Ac (by decide),Ad rfl]
  exact gvA (F:=oU)
 by_cases k5:k=5
 ·subst k5
  rw[Ac (by decide),Ac (by decide),Ac (by decide),Ad (.inl rfl)]
  exact gvA (F:=oU)
 by_cases k6:k=6
 ·subst k6
  rw[Ac (by decide),Ac (by decide),Ac (by decide),Ad (.inr (.inl rfl))]
  exact gvA (F:=oU)
 by_cases k7:k=7
 ·subst k7
  rw[Ac (by decide),Ac (by decide),Ac (by decide),Ad (.inr (.inr rfl))]
  exact gvA (F:=oU)
 rw[Ac (by omega),Ac k3,Ac k4,Ac (by omega)]
 exact gvA (F:=oU)
def ndE (k lo hi n:Int):Int:=if (r4 k n).1=false then 15 else if k=1∧(lo<0∨lo>hi∨hi>4294967295) then 5 else if (k≠1∧(lo≠0∨hi≠0))∨(r4 k n).2=false then 1 else 0
theorem ahO (k lo hi:Int)(n:Nat):(ndE k lo hi n=0↔bm k lo hi n=true):=by
 unfold ndE r4
 by_cases k1:k=1
 ·subst k1
  by_cases a:lo<0∨lo>hi∨hi>4294967295
  ·simp[bm,a];omega
  ·have a1:0≤lo∧lo≤hi∧hi≤4294967295:=by omega
   by_cases c:(n:Int)=0
   ·simp[bm,a1,c];omega
   ·have c': ¬n=0:=by omega
    simp[bm,a1,c'];omega
 by_cases z:lo=0∧hi=0
 ·obtain ⟨rfl,rfl⟩:=z
  by_cases k0:k=0
  ·subst k0;by_cases c:n=0<;>simp[bm,c]
  by_cases k2:k=2
  ·subst k2;by_cases c:n=0<;>simp[bm,c]
  by_cases k3:k=3
  ·subst k3;by_cases c:2≤n
   ·have c':(2:Int)≤n:=by omega
    simp[bm,c,c']
   ·have c': ¬(2:Int)≤n:=by omega
    simp[bm,c,c']
  by_cases k4:k=4
  ·subst k4;by_cases c:n=1
   ·have c':(n:Int)=1:=by omega
    simp[bm,c]
   ·have c': ¬(n:Int)=1:=by omega
    simp[bm,c,c']
  by_cases k5:k=5∨k=6∨k=7
  ·have k5':5≤k∧k≤7:=by omega
   by_cases c:n=1
   ·have c':(n:Int)=1:=by omega
    simp[bm,k0,k1,k2,k3,k4,k5,k5',c]
   ·have c': ¬(n:Int)=1:=by omega
    simp[bm,k0,k1,k2,k3,k4,k5,k5',c,c']
  ·have k5': ¬(5≤k∧k≤7):=by omega
   simp[bm,k0,k1,k2,k3,k4,k5,k5']
 ·have hN:bm k lo hi n=false:=by simp[bm,k1,z]
  have z':k≠1∧(lo≠0∨hi≠0):=⟨k1,by omega⟩
  rw[hN];simp only[A4,iff_false]
  (repeat' split)<;>first|decide|omega|simp_all
theorem QM (k lo hi:Int)(l:List Rx)(hl:l.length<2^40):ah G0 654 [.agg [.int .i64 k,.int .i64 lo,.int .i64 hi,.sl 4 (l.map Rx.enc)]] [] ⟨.int .i64 (ndE k lo hi (l.length:Nat)),[]⟩:=by
 have m1:=ml l Rx.enc;have h1:=Ji k (l.length:Nat);rw[←m1] at h1;unfold ndE;rw[←m1];generalize r4 k ((l.map Rx.enc).length:Nat)=P at*;obtain ⟨p,q⟩:=P;dsimp only at h1⊢;cases p
 ·rw[Ad rfl]
  refine gvC (F:=wY) ?_
  repeat' (first|refine bc ?_|(refine ae ?_ ?_<;>intro h))
  all_goals (refine ag ?_;rfl)
 rw[Ac (by simp)]
 by_cases a:k=1∧(lo<0∨lo>hi∨hi>4294967295)
 ·rw[Ad a]
  obtain ⟨rfl,a⟩:=a;refine gvC (F:=wY) ?_
  repeat' (first|refine bc ?_|(refine ae ?_ ?_<;>intro h))
  all_goals try (exfalso;omega)
  all_goals (refine ag ?_;rfl)
 rw[Ac a]
 by_cases b:(k≠1∧(lo≠0∨hi≠0))∨q=false
 ·rw[Ad b]
  cases q
  ·refine gvC (F:=wY) ?_
   repeat' (first|refine bc ?_|(refine ae ?_ ?_<;>intro h))
   all_goals try (exfalso;omega)
   all_goals (refine ag ?_;rfl)
  ·have b':k≠1∧(lo≠0∨hi≠0):=by simpa using b
   refine gvC (F:=wY) ?_
   repeat' (first|refine bc ?_|(refine ae ?_ ?_<;>intro h))
   all_goals try (exfalso;omega)
   all_goals (refine ag ?_;rfl)
 ·rw[Ac b]
  have b1:q=true:=by cases q<;>simp_all
  subst b1;have b2: ¬(k≠1∧(lo≠0∨hi≠0)):=fun h=>b (.inl h)
  refine gvC (F:=wY) ?_
  repeat' (first|refine bc ?_|(refine ae ?_ ?_<;>intro h))
  all_goals try (exfalso;omega)
  all_goals (refine ag ?_;rfl)
def Qc (x:Rx)(lv:Nat):Prop:= ∀c:Nat,c≤64→ ∃n e:Int,Xo (chk x lv c) n e∧ah G0 647 [.agg x.enc,.int .i64 (lv:Int),.ref 0 0 0] [.cells [.int .i64 (c:Int)]] ⟨.int .i64 e,[(true,.cells [.int .i64 n])]⟩
theorem AH (l:List Rx)(hl:l.length<2^40)(lv:Nat)(hlv:lv≤16)(hk: ∀y∈l,Qc y (lv+1)): ∀(rest done:List Rx)(c:Nat)(n:Int)(e:l=done++rest)(hn:n=done.length)(hc:c≤64),∃N E:Int,Xo (ir rest (lv+1) c) N E∧ ∀(T:TV)(H:aw)(ct:Nat),
  Ev G0 ⟨Yv,⟨(30,.int .i64 n)::(2,.ref 0 0 0)::(1,.int .i64 (lv:Int))::(28,.sl 4 (l.map Rx.enc))::(29,.int .i64 l.length)::T,(0,some (0,.cells [.int .i64 (c:Int)]))::H,ct⟩,[.t 6],1⟩ ⟨.int .i64 E,[(true,.cells [.int .i64 N])]⟩
 | [],done,c,n,e,hn,hc=>by
  have hd:=md0 e;refine ⟨c,0,by rw[ir];exact ⟨rfl,rfl⟩,fun T H ct=>?_⟩
  refine evA ?_;refine fX1 ?_;rfl
 |x::r,done,c,n,e,hn,hc=>by
  have hd:=md e;have hll:=ml l Rx.enc;have hx:=mx Rx.enc e hn;obtain ⟨n1,e1,h1,g1⟩:=hk x (by simp[e]) c hc
  have g1:ah G0 647 [.agg x.enc,.int .i64 ((lv:Int)+1),.ref 0 0 0] [.cells [.int .i64 (c:Int)]] ⟨.int .i64 e1,[(true,.cells [.int .i64 n1])]⟩:=g1;have hpx:=cq x;rw[ir];cases hq:chk x (lv+1) c with
  |none=>
   rw[hq] at h1;have h1: ¬e1=0:=h1;refine ⟨n1,e1,h1,fun T H ct=>?_⟩
   generalize hxe:x.enc=xe at*;obtain ⟨k,lo,hi,q⟩:=x;rw[bi] at hxe;subst hxe;refine evl ?_
   repeat' (first|refine bc ?_|refine kX [(0,_,_)] [] ⟨rfl,trivial⟩ trivial (g1) ?_|(refine ae ?_ ?_<;>intro h))
   refine fX1 ?_;rfl
  |some c1=>
   rw[hq] at h1;obtain ⟨rfl,rfl⟩:=h1;obtain ⟨N,E,h2,h3⟩:=AH l hl lv hlv hk r (done++[x]) c1 (n+1) (by simp[e]) (by simp[hn]) (uv hq)
   refine ⟨N,E,h2,fun T H ct=>?_⟩
   generalize hxe:x.enc=xe at*;obtain ⟨k,lo,hi,q⟩:=x;rw[bi] at hxe;subst hxe;refine evl ?_
   repeat' (first|refine bc ?_|refine kX [(0,_,_)] [] ⟨rfl,trivial⟩ trivial (g1) ?_|(refine ae ?_ ?_<;>intro h))
   refine ab [30,2,1,28,29] [0] ?_;exact h3 _ _ _
theorem ahb (k lo hi:Int)(l:List Rx)(hs:l.length<2^40)(lv:Nat)(hlv:lv≤17)(hk:lv≤16→ ∀y∈l,Qc y (lv+1)):Qc (.mk k lo hi l) lv:=by
 intro c hc;have m1:=ml l Rx.enc;have g0:=QM k lo hi l hs;have h0:=ahO k lo hi l.length;rw[chk,bi]
 by_cases a:16<lv
 ·rw[Ad a]
  have a':(lv:Int)>16:=by omega
  refine ⟨c,24,(show (24:Int)≠0 by decide),?_⟩
  refine gvB (F:=xa) ?_;refine fX1 ?_;rfl
 rw[Ac a]
 by_cases b:64≤c
 ·rw[Ad b]
  have b':(c:Int)≥64:=by omega
  refine ⟨c,4,(show (4:Int)≠0 by decide),?_⟩
  refine gvB (F:=xa) ?_;refine fX1 ?_;rfl
 rw[Ac b];generalize ndE k lo hi (l.length:Nat)=e0 at*
 by_cases d:bm k lo hi l.length=true
 ·rw[Ad d]
  obtain rfl:e0=0:=h0.2 d;obtain ⟨N,E,h2,h3⟩:=AH l hs lv (by omega) (hk (by omega)) l [] (c+1) 0 rfl rfl (by omega)
  refine ⟨N,E,h2,?_⟩;refine gvB (F:=xa) ?_;refine ab [30,2,1,28,29] [0] ?_;rw[m1];exact h3 _ _ _
 ·rw[Ac d]
  have d': ¬e0=0:=fun q=>d (h0.1 q)
  refine ⟨(c+1:Nat),e0,d',?_⟩;refine gvB (F:=xa) ?_;refine fX1 ?_;rfl
mutual
theorem aay: ∀(x:Rx),Sml x→ ∀lv:Nat,lv≤17→Qc x lv
 | .mk k lo hi l,hs,lv,hlv=>ahb k lo hi l hs.len lv hlv fun h=>S7 l hs.kid (lv+1) (by omega)
theorem S7: ∀(l:List Rx),(∀x∈l,Sml x)→ ∀lv:Nat,lv≤17→ ∀y∈l,Qc y lv
 | [],_,_,_=>fun y hy=>by simp at hy
 |x::r,hs,lv,hlv=>fun y hy=>by
  have h1:=aay x (hs x (by simp)) lv hlv
  rcases AK.1 hy with q|q
  ·rw[q];exact h1
  ·exact S7 r (fun z hz=>hs z (by simp[hz])) lv hlv y q
end
theorem DQ (x:Rx)(hs:Sml x): ∃e:Int,ah G0 626 [.agg x.enc] [] ⟨.int .i64 e,[]⟩∧(e=0↔ (chk x 1 0).isSome=true):=by
 obtain ⟨n,e,h1,g1⟩:=aay x hs 1 (by omega) 0 (by omega)
 have g1:ah G0 647 [.agg x.enc,.int .i64 1,.ref 0 0 0] [.cells [.int .i64 0]] ⟨.int .i64 e,[(true,.cells [.int .i64 n])]⟩:=g1;refine ⟨e,?_,?_⟩
 ·generalize hxe:x.enc=xe at*
  obtain ⟨k,lo,hi,q⟩:=x;rw[bi] at hxe;subst hxe;refine gvC (F:=acb) ?_
  repeat' (first|refine bc ?_|refine kX [(67,_,_)] [] ⟨rfl,trivial⟩ trivial (g1) ?_|(refine ae ?_ ?_<;>intro h))
  refine ag ?_;rfl
 ·cases hq:chk x 1 0 with
  |none=>rw[hq] at h1;simp;exact h1
  |some c=>rw[hq] at h1;simp;exact h1.2
end Go.AM.IR
namespace Go.AM.IR
theorem sI (n:Int)(h0:0≤n)(h1:n≤4294967295):ah G0 337 [.int .i64 n] [] ⟨.str (aa n),[]⟩:=by
 have hi:ah G0 246 [.int .i64 n] [] ⟨.str (aa n),[]⟩:=by
  show (if-9223372036854775808≤n∧n≤9223372036854775807 then some (Ret.mk (.str (aa n)) []) else none)=_
  rw[Ad ⟨by omega,by omega⟩]
 generalize aa n=t at*;exact gvA (F:=f337)
def BN (k:Int):Bool:=k==5||(k==6||k==7)
theorem Su (k:Int):BN k=decide (5≤k∧k≤7):=by
 unfold BN;rw[Bool.eq_iff_iff];simp only[BO,beq_iff_eq,AO];omega
theorem tf (k:Int):ah G0 660 [.int .i64 k] [] ⟨.bool (BN k),[]⟩:=by
 unfold BN
 by_cases a:k=5
 ·subst a
  exact gvA (F:=CQ)
 by_cases b:k=6
 ·subst b
  exact gvA (F:=CQ)
 by_cases c:k=7
 ·subst c
  exact gvA (F:=CQ)
 have e:(k==5||(k==6||k==7))=false:=by simp[a,b,c]
 rw[e];refine gvB (F:=CQ) ?_
 all_goals try (exfalso;omega)
 all_goals (refine ag ?_;first|rfl|simp[a,b,c])
theorem Qe (k k2 lo hi:Int)(l:List Rx)(hl:l.length<2^40):ah G0 655 [.int .i64 k,.agg [.int .i64 k2,.int .i64 lo,.int .i64 hi,.sl 4 (l.map Rx.enc)]] [] ⟨.bool (ff k (.mk k2 lo hi l)),[]⟩:=by
 have m1:=ml l Rx.enc;have h1:=tf k2;have h2:=tf k;rw[N6]
 by_cases a3:k2=3
 ·rw[Ad a3]
  subst a3
  by_cases e:k=4
  ·subst e
   exact gvA (F:=wU)
  ·rw[Al e]
   refine gvB (F:=wU) ?_;refine ag ?_;simp[e]
 rw[Ac a3]
 by_cases a4:k2=4
 ·rw[Ad a4]
  subst a4;have hem:(!l.isEmpty)=decide ((l.length:Int)>0):=by cases l<;>simp
  rw[hem];refine gvB (F:=wU) ?_;refine ag ?_;rw[m1]
 rw[Ac a4,←Su,←Su];generalize BN k2=A at*;generalize BN k=B at*;cases A
 ·exact gvA (F:=wU)
 ·exact gvA (F:=wU)
def ShG (x:Rx):Prop:=ah G0 627 [.agg x.enc] [] ⟨.str (pat aa x),[]⟩
theorem vK (k:Int)(x:Rx)(hx:ShG x)(hs:Sml x)(hb:(pat aa x).length+2<2^31):ah G0 648 [.int .i64 k,.agg x.enc] [] ⟨.str (dh k x (pat aa x)),[]⟩:=by
 unfold ShG at hx;have hpx:=cq x
 have hen: ∀k2 lo2 hi2 l2,x= .mk k2 lo2 hi2 l2→ah G0 655 [.int .i64 k,.agg [.int .i64 k2,.int .i64 lo2,.int .i64 hi2,.sl 4 (l2.map Rx.enc)]] [] ⟨.bool (ff k x),[]⟩:=fun k2 lo2 hi2 l2 hxx=>by
  subst hxx;exact Qe k k2 lo2 hi2 l2 hs.len
 have z1:([40]:List UInt8).length=1:=rfl;have z2:([41]:List UInt8).length=1:=rfl;cases hc:ff k x with
 |true=>
  have hin:dh k x (pat aa x)= [40]++pat aa x++[41]:=by unfold dh;rw[Ad hc];rfl
  rw[hin];rw[hc] at hen;generalize pat aa x=w at*;generalize hxe:x.enc=xe at*;obtain ⟨k2,lo2,hi2,l2⟩:=x;rw[bi] at hxe;subst hxe;have hen:=hen k2 lo2 hi2 l2 rfl;have hwl:([40]++w).length=w.length+1:=by simp
  refine gvC (F:=Vj) ?_
  repeat' ((conv=>whnf);first|refine bp ?_|refine kV hx ?_ hpx|refine au ?_|(refine ae ?_ ?_<;>intro h))
  refine ag ?_;rfl
 |false=>
  have hin:dh k x (pat aa x)=pat aa x:=by unfold dh;rw[Ac (by rw[hc];simp)]
  rw[hin];rw[hc] at hen;generalize pat aa x=w at*;generalize hxe:x.enc=xe at*;obtain ⟨k2,lo2,hi2,l2⟩:=x;rw[bi] at hxe;subst hxe;have hen:=hen k2 lo2 hi2 l2 rfl;refine gvC (F:=Vj) ?_
  repeat' ((conv=>whnf);first|refine kV hx ?_ hpx|refine au ?_|(refine ae ?_ ?_<;>intro h))
  refine ag ?_;rfl
theorem ri (k lo hi:Int)(l:List Rx)(hl:l.length<2^40)(hb:eu (bw aa k l)<2^30)(hk: ∀y∈l,ShG y∧Sml y)(c:UInt8)(g1:Nat): ∀(rest done:List Rx)(acc R:List UInt8)(T:TV)(H:aw)(ct:Nat)(n:Int)(e:l=done++rest)(hn:n=done.length)(hb:acc.length+eu (bw aa k rest)<2^40)(hR:R=if done= [] then cR c (bw aa k rest) else acc++jr c (bw aa k rest))(hd0:done= []→acc= []),
  Ev G0 ⟨Yx,⟨(72,.int .i64 n)::(1,.ref 65 g1 0)::(3,.str [c])::(4,.str acc)::(70,.sl 4 (l.map Rx.enc))::(71,.int .i64 l.length)::T,(65,some (g1,.cells [.int .i64 k,.int .i64 lo,.int .i64 hi,.sl 4 (l.map Rx.enc)]))::H,ct⟩,[.t 2],0⟩ ⟨.str R,[]⟩
 | [],done,acc,R,T,H,ct,n,e,hn,hb,hR,hd0=>by
  have hd:=md0 e
  obtain rfl:R=acc:=by
   rw[hR]
   by_cases h:done= []
   ·rw[Ad h,hd0 h,bw];rfl
   ·rw[Ac h,bw];simp[jr]
  refine evA ?_;refine ag ?_;rfl
 |x::r,done,acc,R,T,H,ct,n,e,hn,hb2,hR,hd0=>by
  have hd:=md e;have hll:=ml l Rx.enc;have hx:=mx Rx.enc e hn;obtain ⟨hp,hs⟩:=hk x (by simp[e])
  have hpx:=cq x
  have hlx:(dh k x (pat aa x)).length+1≤eu (bw aa k l):=by
   have h1:bw aa k l=bw aa k done++(dh k x (pat aa x)::bw aa k r):=by rw[e,rE,bw]
   rw[h1,we,eu];omega
  have hbx:(pat aa x).length+2<2^31:=by
   have:(pat aa x).length≤(dh k x (pat aa x)).length:=by unfold dh;split<;>simp;omega
   omega
  have hin:=vK k x hp hs hbx;rw[bw,eu] at hb2;rw[bw] at hR;have h1: [c].length=1:=rfl;generalize dh k x (pat aa x)=w at*;generalize hxe:x.enc=xe at*
  by_cases h:done= []
  ·have h0:=hd0 h
   subst h h0;obtain rfl:n=0:=hn;rw[Ad rfl,wL] at hR;have hz:([]:List UInt8).length=0:=rfl;have ih:=fun T H ct=>ri k lo hi l hl hb hk c g1 r [x] w R T H ct 1 (by simpa using e) rfl (by simp at hb2;omega) (by rw[Ac (by simp)];exact hR) (by simp)
   obtain ⟨k2,lo2,hi2,l2⟩:=x;rw[bi] at hxe;subst hxe;refine evl ?_
   repeat' ((conv=>whnf);first|refine bp ?_|refine kV hin ?_ hpx|refine au ?_|(refine ae ?_ ?_<;>intro h))
   refine ab [72,1,3,4,70,71] [65] ?_;exact ih _ _ _
  ·rw[Ac h,jr] at hR
   have hp:(0:Int)<n:=by
    have:done.length≠0:=fun q=>h (AI q)
    omega
   have h2:(acc++[c]).length=acc.length+1:=by simp
   have ih:=fun T H ct=>ri k lo hi l hl hb hk c g1 r (done++[x]) (acc++[c]++w) R T H ct (n+1) (by simp[e]) (by simp[hn]) (by simp;omega) (by rw[Ac (by simp),hR];simp) (by simp)
   obtain ⟨k2,lo2,hi2,l2⟩:=x;rw[bi] at hxe;subst hxe;refine evl ?_
   repeat' ((conv=>whnf);first|refine bp ?_|refine kV hin ?_ hpx|refine au ?_|(refine ae ?_ ?_<;>intro h))
   refine ab [72,1,3,4,70,71] [65] ?_;exact ih _ _ _
theorem afM (k lo hi:Int)(l:List Rx)(hn:bm k lo hi l.length=true)(hl:l.length<2^40)(hb:eu (bw aa k l)<2^30)(hk: ∀y∈l,ShG y∧Sml y):ShG (.mk k lo hi l):=by
 have hll:=ml l Rx.enc;unfold ShG;rw[bi,pat];have hL:=fun c R T H ct g1=>ri k lo hi l hl hb hk c g1 l [] [] R T H ct 0 rfl rfl (by simp;omega)
 unfold bm at hn
 by_cases k1:k=1
 ·rw[Ad k1] at hn
  obtain ⟨q1,q2,q3,q4⟩:=of_decide_eq_true hn;subst k1;have d1:=sI lo q1 (by omega)
  have d2:=sI hi (by omega) q3
  have i1:=mb (a:=lo) q1 (by omega)
  have i2:=mb (a:=hi) (by omega) q3
  by_cases e:lo=hi
  ·rw[show dk aa 1 lo hi (bw aa 1 l)=aa lo from by unfold dk;rw[Ac (by omega),Ad rfl,Ad e]]
   generalize aa lo=w1 at*;exact gvA (F:=me)
  ·rw[show dk aa 1 lo hi (bw aa 1 l)=91::(aa lo++45::(aa hi++[93])) from by unfold dk;rw[Ac (by omega),Ad rfl,Ac e]]
   generalize aa lo=w1 at*;generalize aa hi=w2 at*;have z1:([91]:List UInt8).length=1:=rfl;have z2:([45]:List UInt8).length=1:=rfl;have z3:([93]:List UInt8).length=1:=rfl;refine gvC (F:=me) ?_
   repeat' ((conv=>whnf);first|refine bp ?_|refine au ?_|(refine ae ?_ ?_<;>intro h))
   refine ag ?_;simp
 rw[Ac k1,Av] at hn;obtain ⟨hz,hn⟩:=hn;obtain ⟨rfl,rfl⟩:=of_decide_eq_true hz
 by_cases k0:k=0
 ·subst k0
  exact gvA (F:=me)
 by_cases k2:k=2
 ·subst k2
  exact gvA (F:=me)
 rw[Ac (by omega)] at hn
 by_cases k3:k=3
 ·subst k3
  rw[show dk aa 3 0 0 (bw aa 3 l)=cR 32 (bw aa 3 l) from rfl]
  refine gvB (F:=me) ?_;refine ab [72,1,3,4,70,71] [65] ?_;rw[hll];exact hL 32 _ _ _ _ _ (by rw[Ad rfl]) (fun _=>rfl)
 rw[Ac k3] at hn
 by_cases k4:k=4
 ·subst k4
  by_cases hz:l= []
  ·subst hz
   have z0:([]:List Rx).length=0:=rfl;exact gvA (F:=me)
  ·have hpz:l.length≠0:=fun q=>hz (AI q)
   have hq:bw aa 4 l≠ []:=fun q=>by
    have:(bw aa 4 l).length=l.length:=oA l;rw[q] at this;exact hpz this.symm
   rw[show dk aa 4 0 0 (bw aa 4 l)=cR 124 (bw aa 4 l) from by unfold dk;rw[Ac (by omega),Ac (by omega),Ac (by omega),Ac (by omega),Ad rfl,Ac (by cases hh:bw aa 4 l<;>simp_all)]]
   refine gvB (F:=me) ?_;refine ab [72,1,3,4,70,71] [65] ?_;rw[hll];exact hL 124 _ _ _ _ _ (by rw[Ad rfl]) (fun _=>rfl)
 rw[Ac k4] at hn
 by_cases k5:5≤k∧k≤7
 ·rw[Ad k5] at hn
  have hn:=of_decide_eq_true hn
  obtain ⟨y,rfl⟩: ∃y,l= [y]:=by
   match l,hn with
   | [y],_=>exact ⟨y,rfl⟩
  obtain ⟨hp,hs⟩:=hk y (by simp)
  have hpx:=cq y;have hpl:bw aa k [y]= [dh k y (pat aa y)]:=by rw[bw,bw]
  rw[hpl] at hb⊢;simp only[eu] at hb
  have hbx:(pat aa y).length+2<2^31:=by
   have:(pat aa y).length≤(dh k y (pat aa y)).length:=by unfold dh;split<;>simp;omega
   omega
  have hin:=vK k y hp hs hbx;clear hL;have z1:([y].map Rx.enc).length=1:=rfl;have z2:([42]:List UInt8).length=1:=rfl;have z3:([43]:List UInt8).length=1:=rfl;have z4:([63]:List UInt8).length=1:=rfl;generalize dh k y (pat aa y)=p at*;have hx:([y].map Rx.enc)[(0:Int).toNat]? =some y.enc:=rfl;simp only[Ao,A9] at hx z1⊢;generalize hxe:y.enc=xe at*;obtain ⟨k2,lo2,hi2,l2⟩:=y;rw[bi] at hxe;subst hxe;rcases (by omega:k=5∨k=6∨k=7) with rfl|rfl|rfl
  ·rw[show dk aa 5 0 0 [p]=p++[42] from rfl]
   refine gvC (F:=me) ?_
   repeat' ((conv=>whnf);first|refine bp ?_|refine kV hin ?_ hpx|refine au ?_|(refine ae ?_ ?_<;>intro h))
   refine ag ?_;rfl
  ·rw[show dk aa 6 0 0 [p]=p++[43] from rfl]
   refine gvC (F:=me) ?_
   repeat' ((conv=>whnf);first|refine bp ?_|refine kV hin ?_ hpx|refine au ?_|(refine ae ?_ ?_<;>intro h))
   refine ag ?_;rfl
  ·rw[show dk aa 7 0 0 [p]=p++[63] from rfl]
   refine gvC (F:=me) ?_
   repeat' ((conv=>whnf);first|refine bp ?_|refine kV hin ?_ hpx|refine au ?_|(refine ae ?_ ?_<;>intro h))
   refine ag ?_;rfl
 ·rw[Ac k5] at hn;cases hn
mutual
theorem XU: ∀(x:Rx){lv c c':Nat},Sml x→chk x lv c=some c'→ShG x
 | .mk k lo hi l,lv,c,c',hs,h=>by
  have hc':=uv h;rw[chk] at h;split at h
  ·cases h
  ·split at h
   ·cases h
   ·split at h
    ·rename_i hn
     have h1:=pR k l h;have h2:=Sd l hs.kid h;exact afM k lo hi l hn hs.len (by omega) h2
    ·cases h
theorem Sd: ∀(l:List Rx){lv c c':Nat},(∀x∈l,Sml x)→ir l lv c=some c'→ ∀y∈l,ShG y∧Sml y
 | [],_,_,_,_,_=>fun y hy=>by simp at hy
 |x::r,lv,c,c',hs,h=>fun y hy=>by
  rw[ir] at h;split at h
  ·rename_i c1 h1
   have h2:=XU x (hs x (by simp)) h1
   rcases AK.1 hy with q|q
   ·rw[q];exact ⟨h2,hs x (by simp)⟩
   ·exact Sd r (fun z hz=>hs z (by simp[hz])) h y q
  ·cases h
end
end Go.AM.IR
namespace Go.AM.IR
theorem Cd (x:Rx)(hs:Sml x): ∃(w:List UInt8)(e:Int),ah G0 580 [.agg x.enc] [] ⟨.tup [.str w,.int .i64 e],[]⟩∧(e=0↔ (chk x 1 0).isSome=true)∧(e=0→w=pat aa x):=by
 obtain ⟨e,g1,h1⟩:=DQ x hs;have hpx:=cq x
 by_cases h0:e=0
 ·subst h0
  have h2:(chk x 1 0).isSome=true:=h1.1 rfl;obtain ⟨c',hc⟩:=Be.1 h2;have g2:=XU x hs hc;unfold ShG at g2;refine ⟨pat aa x,0,?_,by simp[h2],fun _=>rfl⟩
  generalize pat aa x=w at*;generalize hxe:x.enc=xe at*;obtain ⟨k,lo,hi,l⟩:=x;rw[bi] at hxe;subst hxe;refine gvC (F:=VM) ?_
  repeat' ((conv=>whnf);first|refine kV g2 ?_ hpx|refine au ?_|(refine ae ?_ ?_<;>intro h))
  refine ag ?_;rfl
 ·refine ⟨[],e,?_,h1,fun q=>absurd q h0⟩
  generalize hxe:x.enc=xe at*;obtain ⟨k,lo,hi,l⟩:=x;rw[bi] at hxe;subst hxe;exact gvA (F:=VM)
def aa9:AV→Option (List (List AV))
 | .ifc _ _=>some [rx0.enc,[.int .i64 2]]
 |_=>none
theorem QH (s:List UInt8)(hs:s.length<2^32): ∃A caps,ab5.pre G0 [.str s] []=some A∧bJ A.tm D0= .fn 578 caps∧caps.length=2∧Ev G0 (ab5.cfg aa9 A 0) (uO (qP s)):=by
 refine ⟨_,_,rfl,rfl,rfl,?_⟩;have h1:=uC s hs 33 0 (by omega) (by omega) 0 (by omega)
 have hp:=rf hs (lX s) 33;unfold qP;cases ha:cM s (fX s) 33 0 with
 |none=>
  rw[ha] at h1;obtain ⟨m,h1⟩:=h1;refine wk3 ?_
  repeat' (first|refine bc ?_|(refine ae ?_ ?_<;>intro h))
  (conv=>whnf)
  refine CallG.stop ?_;refine dF 579 h1 (fun Q hr hg=>?_)
  refine kX [(75,_,_)] [] ⟨rfl,trivial⟩ trivial hg ?_ (hE:=by rw[hr];rfl)
  rfl
 |some p=>
  obtain ⟨x,m⟩:=p;rw[ha] at h1;obtain ⟨_,_,hx⟩:=hp 0 x m (by omega) ha
  obtain ⟨w,e,g2,h2,h3⟩:=Cd x hx;have hpx:=cq x;dsimp only;simp only[jv] at h1
  by_cases hq:(chk x 1 0).isSome=true∧pat aa x=s
  ·rw[Ad hq]
   obtain rfl:e=0:=h2.2 hq.1;obtain rfl:w=s:=by rw[h3 rfl,hq.2]
   unfold uO;generalize hxe:x.enc=xe at*;obtain ⟨k,lo,hi,l⟩:=x;rw[bi] at hxe;subst hxe;refine wk3 ?_
   repeat' ((conv=>whnf);first|refine abb ?_|refine au ?_|refine kX [(75,_,_)] [] ⟨rfl,trivial⟩ trivial (h1) ?_|(refine ae ?_ ?_<;>intro h))
   refine ag ?_
   repeat ((conv=>whnf);refine Go.AM.finC ?_)
   dsimp only;rw[bi]
  ·rw[Ac hq]
   by_cases h0:e=0
   ·subst h0
    have hw: ¬w=s:=fun q=>hq ⟨h2.1 rfl,by rw[←h3 rfl,q]⟩
    generalize hxe:x.enc=xe at*;obtain ⟨k,lo,hi,l⟩:=x;rw[bi] at hxe;subst hxe;refine wk3 ?_
    repeat' ((conv=>whnf);first|refine gy hw ?_|refine au ?_|refine kX [(75,_,_)] [] ⟨rfl,trivial⟩ trivial (h1) ?_|(refine ae ?_ ?_<;>intro h))
    refine mg ?_;rfl
   ·generalize hxe:x.enc=xe at*
    obtain ⟨k,lo,hi,l⟩:=x;rw[bi] at hxe;subst hxe;refine wk3 ?_
    repeat' (first|refine bc ?_|refine kX [(75,_,_)] [] ⟨rfl,trivial⟩ trivial (h1) ?_|(refine ae ?_ ?_<;>intro h))
    refine mg ?_;rfl
end Go.AM.IR
