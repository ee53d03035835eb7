/- What functions of this program give. -/
import Derived.Test.YtomphmeopjpejaaGreatDoorDataC
set_option linter.unusedSectionVars false
set_option linter.unusedVariables false
set_option linter.unusedSimpArgs false
set_option maxHeartbeats 4000000
set_option maxRecDepth 20000
namespace Go.AM.IR
section
variable (s:B5)
def pnR (m:Nat):Ret:=⟨pnV (.ifc 129 (.agg [])),[(true,.cells [.str s,.int .i64 (m:Int)])]⟩
def pk (n:Nat):UInt8:=s[n]?.getD 0
theorem gz {s:B5}{n:Nat}{c:UInt8}(hc:c≠0):chr s n c=decide (pk s n=c):=by
 unfold chr pk;cases h:s[n]? with
 |none=>simp[Ne.symm hc]
 |some b=>simp only[Option.getD_some];by_cases e:b=c<;>simp[e]
section
variable (hs:s.length<2^40)(n:Nat)(hn:n<=s.length)
include hs hn
theorem gw:ag G0 625 [.ref 0 0 0] [.cells [.str s,.int .i64 (n:Int)]] (rpR s (.int .u8 ((pk s n).toNat:Int)) n):=by
 by_cases h:n<s.length
 ·have hb:s[((n:Nat):Int).toNat]? =some s[n]:=by simp[h]
  have hp:pk s n=s[n]:=by simp[pk,h]
  rw[hp];generalize s[n]=b at*;have hbl:=b.toNat_lt;refine gvC (F:=Rc) ?_
  repeat' (first|refine bp ?_|apply ae<;>intro h)
  refine fX1 ?_;rfl
 ·have hp:pk s n=0:=by simp[pk,AA (show s.length<=n by omega)]
  rw[hp];refine gvB (F:=Rc) ?_;refine fX1 ?_;rfl
theorem pB (c:UInt8)(hc:c≠0):ag G0 658 [.ref 0 0 0,.int .u8 (c.toNat:Int)] [.cells [.str s,.int .i64 (n:Int)]] (if chr s n c then rpR s (.tup []) (n+1) else pnR s n):=by
 have h1:=gw s hs n hn;rw[gz hc];generalize pk s n=b at*
 by_cases e:b=c
 ·subst e
  rw[Ak rfl,Ac rfl];have z: ∀{kv:AV->Prop},kv (.bool false)-> ∃v,bm .neq (.int .u8 (b.toNat:Int)) (.int .u8 (b.toNat:Int))=some v/\kv v:=λh=>⟨.bool false,by simp[bm],h⟩
  refine gvC (F:=QM) ?_
  repeat' ((conv=>whnf);first|refine z ?_|refine aq ?_|refine kX1 0 rfl (h1) ?_|apply ae<;>intro h)
  refine fX1 ?_;rfl
 ·have e2: ¬(b.toNat:Int)=(c.toNat:Int):=λq=>e (A5.1 (by omega))
  rw[Al e,Aa (by simp)]
  have z: ∀{kv:AV->Prop},kv (.bool true)-> ∃v,bm .neq (.int .u8 (b.toNat:Int)) (.int .u8 (c.toNat:Int))=some v/\kv v:=λh=>⟨.bool true,by simp[bm,e2],h⟩
  refine gvC (F:=QM) ?_
  repeat' ((conv=>whnf);first|refine z ?_|refine aq ?_|refine kX1 0 rfl (h1) ?_|apply ae<;>intro h)
  refine jN ?_;rfl
end
def nk (t:B5):Bool:= !t.isEmpty&& !(decide (1<t.length)&&(t.head?==some 48))
theorem idxA {s done rest:B5}{x:UInt8}{n:Int}(e:s=done++x::rest)(hn:n=done.length):s[n.toNat]? =some x:=by
 grind
theorem qT (s:B5)(hs:s.length<2^40)(hd: ∀c∈s,isD c=true): ∀(rest done:B5)(T:TV)(H:az)(c:Nat)(n:Int)(e:s=done++rest)(hn:n=done.length),
  Ev G0 ⟨JK,⟨(18,.int .i64 n)::(0,.str s)::(17,.int .i64 s.length)::T,H,c⟩,[.t 2],0⟩ ⟨.bool true,[]⟩
 | [],done,T,H,c,n,e,hn=>by
  have hl:=md0 e;refine evA ?_;refine ap ?_;rfl
 |x::rest,done,T,H,c,n,e,hn=>by
  have hl:=md e;have hb:=idxA e hn
  have hx:48<=x.toNat/\x.toNat<=57:=by
   have:=hd x (by simp[e])
   simpa[isD] using this
  have ih:=λT H c=>qT s hs hd rest (done++[x]) T H c (n+1) (by simp[e]) (by simp[hn])
  refine evl ?_
  repeat' (first|refine bp ?_|apply ae<;>intro h)
  refine au [18,0,17] [] ?_;exact ih _ _ _
theorem KM (hs:s.length<2^40)(hd: ∀c∈s,isD c=true):ag G0 347 [.str s] [] ⟨.bool (nk s),[]⟩:=by
 cases s with
 |nil=>
  have z: ∀{kv:AV->Prop},kv (.bool true)-> ∃v,bm .eql (.str []) (.str [])=some v/\kv v:=λh=>⟨_,rfl,h⟩
  refine gvC (F:=pq) ?_
  repeat' ((conv=>whnf);first|refine z ?_|refine aq ?_|apply ae<;>intro h)
  refine ap ?_;rfl
 |cons b r=>
  have z: ∀{kv:AV->Prop},kv (.bool false)-> ∃v,bm .eql (.str (b::r)) (.str [])=some v/\kv v:=λh=>⟨_,rfl,h⟩
  have hb:(b::r)[(0:Int).toNat]? =some b:=rfl;have hl:(b::r).length=r.length+1:=rfl;cases r with
  |nil=>
   rw[show nk [b]=true from by simp[nk]]
   refine gvC (F:=pq) ?_
   repeat' ((conv=>whnf);first|refine z ?_|refine aq ?_|apply ae<;>intro h)
   refine au [18,0,17] [] ?_;exact qT [b] hs hd [b] [] _ _ _ 0 rfl rfl
  |cons d q=>
   have hl2:(b::d::q).length=q.length+2:=rfl
   by_cases hz:b=48
   ·subst hz
    rw[show nk (48::d::q)=false from by simp[nk]]
    refine gvC (F:=pq) ?_
    repeat' ((conv=>whnf);first|refine z ?_|refine zIstr (b:=48) ?_ hb (by omega)|refine aq ?_|apply ae<;>intro h)
    refine ap ?_;rfl
   ·have hz2: ¬(b.toNat:Int)=48:=by
     intro e;apply hz;apply A5.1
     show b.toNat=48
     omega
    rw[show nk (b::d::q)=true from by simp[nk,hz]]
    refine gvC (F:=pq) ?_
    repeat' ((conv=>whnf);first|refine z ?_|refine zIstr (b:=b) ?_ hb (by omega)|refine aq ?_|apply ae<;>intro h)
    refine au [18,0,17] [] ?_;exact qT (b::d::q) hs hd (b::d::q) [] _ _ _ 0 rfl rfl
def nuR (v e:Int):Ret:=⟨.tup [.int .i64 v,.int .i64 e],[]⟩
theorem yF (s:B5)(hs:s.length<2^40)(hd: ∀c∈s,isD c=true): ∀(rest done:B5)(a:Int)(T:TV)(H:az)(c:Nat)(n:Int)(e:s=done++rest)(hn:n=done.length)(h0:0<=a)(ha:a<=9223372036854775807),
  Ev G0 ⟨DH,⟨(14,.int .i64 n)::(6,.int .i64 a)::(0,.str s)::(1,.int .i64 4294967295)::(13,.int .i64 s.length)::T,H,c⟩,[.t 4,.t 5],0⟩ (if 4294967295<dW a rest then nuR 0 5 else nuR (dW a rest) 0)
 | [],done,a,T,H,c,n,e,hn,h0,ha=>by
  have hl:=md0 e;have hv:dW a []=a:=rfl;rw[hv]
  by_cases hm:4294967295<a
  ·rw[Ac hm]
   refine evA ?_;refine ap ?_;rfl
  ·rw[Aa hm]
   refine evA ?_;refine ap ?_;rfl
 |x::rest,done,a,T,H,c,n,e,hn,h0,ha=>by
  have hl:=md e;have hb:=idxA e hn;have hdx:=hd x (by simp[e])
  have hx:48<=x.toNat/\x.toNat<=57:=by simpa[isD] using hdx
  have hv:=vI hdx;have h3:dW a (x::rest)=dW (10*a+gN x) rest:=rfl;have h4:=zU rest (10*a+gN x) (by omega) (λy hy=>hd y (by simp[e,hy]))
  rw[h3]
  by_cases ho:a>(9223372036854775807-gN x)/ 10
  ·rw[Ac (by omega)]
   refine evl ?_
   repeat' ((conv=>whnf);first|refine zIstr ?_ hb (by omega)|refine FP ?_ hx.1|refine aq ?_|apply ae<;>intro h)
   refine ap ?_;rfl
  ·have ih:=λT H c=>yF s hs hd rest (done++[x]) (10*a+gN x) T H c (n+1) (by simp[e]) (by simp[hn]) (by omega) (by omega)
   refine evl ?_
   repeat' ((conv=>whnf);first|refine zIstr ?_ hb (by omega)|refine FP ?_ hx.1|refine aq ?_|apply ae<;>intro h)
   refine au [14,6,0,1,13] [] ?_;exact ih _ _ _
theorem Mu (hs:s.length<2^40)(hd: ∀c∈s,isD c=true):ag G0 346 [.str s,.int .i64 4294967295] [] (if nk s=true then (if 4294967295<dW 0 s then nuR 0 5 else nuR (dW 0 s) 0) else nuR 0 2):=by
 have hc:=KM s hs hd;cases hq:nk s
 ·rw[hq] at hc
  rw[Aa (by simp)]
  exact gvA (F:=xw)
 ·rw[hq] at hc
  rw[Ac rfl];refine gvB (F:=xw) ?_;refine au [14,6,0,1,13] [] ?_;exact yF s hs hd s [] 0 _ _ _ 0 rfl rfl (by omega) (by omega)
def Bg (n:Nat):Nat:=n+((s.drop n).takeWhile isD).length
def Jb (n:Nat):Option (Int×Nat)->Ret
 |some (a,m)=>rpR s (.int .i64 a) m
 |none=>pnR s (Bg s n)
theorem aeh {s:B5}{n:Nat}:isD (pk s n)=true->n<s.length:=by
 intro h;rcases AO n s.length with q|q
 all_goals simp_all[pk,isD]
theorem wc (s:B5)(hs:s.length<2^40)(fr:Nat): ∀(f n:Nat)(done:B5)(T:TV)(H:az)(c:Nat)(hf:n+f=s.length)(hd: ∀c∈done,isD c=true)(e:s.drop fr=done++s.drop n)(hn:n=fr+done.length),
  Ev G0 ⟨Zu,⟨(0,.ref 0 0 0)::(3,.int .i64 (fr:Int))::T,(0,some (0,.cells [.str s,.int .i64 (n:Int)]))::H,c⟩,[.t 2],1⟩ (Jb s fr (gH s fr))
 |f,n,done,T,H,c,hf,hd,e,hn=>by
  have h1:=gw s hs n (by omega)
  by_cases hD:isD (pk s n)=true
  ·have hlt:=aeh hD
   have hp:pk s n=s[n]:=by simp[pk,hlt]
   have e2:s.drop n=s[n]::s.drop (n+1):=List.drop_eq_getElem_cons hlt;rw[<-hp] at e2;have hD':=hD;obtain ⟨f',rfl⟩: ∃f',f=f'+1:=⟨f-1,by omega⟩
   have ih:=λT H c=>wc s hs fr f' (n+1) (done++[pk s n]) T H c (by omega) (λc hc=>by
    rcases BE.1 hc with hc|hc
    ·exact hd c hc
    ·rw[BO.1 hc];exact hD) (by rw[e,e2];simp) (by simp;omega)
   generalize pk s n=b at*;have hb:48<=b.toNat/\b.toNat<=57:=by simpa[isD] using hD'
   have hbl:=b.toNat_lt;refine evl ?_
   repeat' (first|refine aW ?_|refine kX1 0 rfl (h1) ?_|apply ae<;>intro h)
   refine au [0,3] [0] ?_;exact ih _ _ _
  ·have ht:(s.drop fr).takeWhile isD=done:=by
    rw[e];refine tu hd (λc hc=>?_)
    have:pk s n=c:=by
     have:s[n]? =some c:=by rw[<-hc,List.head?_drop]
     simp[pk,this]
    rw[<-this];simpa using hD
   have hm:Bg s fr=n:=by rw[Bg,ht,hn]
   have hle:fr<=n:=by omega
   have hsl:List.take (n-fr) (List.drop fr s)=done:=by
    rw[e,hn];simp
   have h2:ag G0 346 [.str (List.take (((n:Nat):Int).toNat- ((fr:Nat):Int).toNat) (List.drop ((fr:Nat):Int).toNat s)),.int .i64 4294967295] [] (if nk done=true then (if 4294967295<dW 0 done then nuR 0 5 else nuR (dW 0 done) 0) else nuR 0 2):=by
    have q:List.take (((n:Nat):Int).toNat- ((fr:Nat):Int).toNat) (List.drop ((fr:Nat):Int).toNat s)=done:=by simpa using hsl
    rw[q];exact Mu done (by rw[<-hsl];simp;omega) hd
   have hb: ¬(48<=(pk s n).toNat/\(pk s n).toNat<=57):=by simpa[isD] using hD
   have hbl:=(pk s n).toNat_lt
   have hpn:gH s fr=if nk done=true/\dW 0 done<=4294967295 then some (dW 0 done,n) else none:=by
    unfold gH;rw[ht];dsimp only;unfold nk
    by_cases a1:done= []
    ·simp[a1]
    by_cases a2:1<done.length/\done.head?=some 48
    ·simp[a1,a2]
    ·have hn':fr+done.length=n:=hn.symm
     simp only[Aa a1,Aa a2,hn']
     have a3:(!done.isEmpty&& !(decide (1<done.length)&&(done.head?==some 48)))=true:=by
      rw[At];refine ⟨by simpa using a1,?_⟩
      simp only[Bool.not_eq_true',Bool.and_eq_false_iff,AL,beq_eq_false_iff_ne];rcases Decidable.em (1<done.length) with q|q
      ·exact .inr λw=>a2 ⟨q,w⟩
      ·exact .inl q
     simp only[a3]
     by_cases a4:4294967295<dW 0 done
     ·rw[Ac a4,Aa (by omega)]
     ·rw[Aa a4,Ac ⟨trivial,by omega⟩]
   rw[hpn]
   by_cases k1:nk done=true
   ·rw[Ac k1] at h2
    by_cases k2:4294967295<dW 0 done
    ·rw[Ac k2] at h2
     rw[Aa (by omega),Jb,hm]
     unfold nuR at h2;refine evl ?_
     repeat' (first|refine aW ?_|refine kX1 0 rfl (h1) ?_|apply ae<;>intro h)
     all_goals try (exfalso;omega)
     all_goals (refine jN ?_;rfl)
    ·rw[Aa k2] at h2
     rw[Ac ⟨k1,by omega⟩,Jb]
     generalize dW 0 done=V at*;unfold nuR at h2;refine evl ?_
     repeat' (first|refine aW ?_|refine kX1 0 rfl (h1) ?_|apply ae<;>intro h)
     all_goals try (exfalso;omega)
     all_goals
      refine fX1 ?_;rfl
   ·rw[Aa k1] at h2
    rw[Aa (λq=>k1 q.1),Jb,hm]
    unfold nuR at h2;refine evl ?_
    repeat' (first|refine aW ?_|refine kX1 0 rfl (h1) ?_|apply ae<;>intro h)
    all_goals try (exfalso;omega)
    all_goals (refine jN ?_;rfl)
theorem o6 (hs:s.length<2^40)(n:Nat)(hn:n<=s.length):ag G0 657 [.ref 0 0 0] [.cells [.str s,.int .i64 (n:Int)]] (Jb s n (gH s n)):=by
 refine gvB (F:=QN) ?_;refine au [0,3] [0] ?_;exact wc s hs n (s.length-n) n [] _ _ _ (by omega) (λc h=>by cases h) (by simp) (by simp)
def jQ (f:Nat)(s:B5)(lv:Int)(n:Nat):DD->Prop
 |some (x,m)=>ag G0 f [.ref 0 0 0,.int .i64 lv] [.cells [.str s,.int .i64 (n:Int)]] (rpR s (.agg x.enc) m)
 |none=> ∃m,ag G0 f [.ref 0 0 0,.int .i64 lv] [.cells [.str s,.int .i64 (n:Int)]] (pnR s m)
theorem jV {s:B5}{n:Nat}{c:UInt8}(h:pk s n=c)(hc:c≠0):n<s.length:=by
 rcases AO n s.length with q|q
 ·exact q
 ·rw[pk,AA q] at h;exact absurd h.symm hc
theorem kl {a b:UInt8}(h: ¬a=b): ¬(a.toNat:Int)=(b.toNat:Int):=λq=>h (A5.1 (by omega))
theorem FG (hs:s.length<2^40)(alt:PR)(lv:Int)(hl:lv<=32)(hl0:0<=lv)(hp:Pos s alt)(hA: ∀n,n<=s.length->jQ 579 s (lv+1) n (alt n))(n:Nat)(hn:n<=s.length):jQ 653 s lv n (di s (gH s) alt n):=by
 have h1:=gw s hs n hn;have hbl:=(pk s n).toNat_lt;unfold di;simp only[gz (show (46:UInt8)≠0 by decide),gz (show (33:UInt8)≠0 by decide),gz (show (40:UInt8)≠0 by decide),gz (show (41:UInt8)≠0 by decide),gz (show (91:UInt8)≠0 by decide),gz (show (93:UInt8)≠0 by decide),gz (show (45:UInt8)≠0 by decide),AK]
 by_cases c1:pk s n=46
 ·rw[Ac c1]
  have hlt:=jV c1 (by decide)
  rw[c1] at h1;show ag G0 653 _ _ (rpR s (.agg (Rx.mk 2 0 0 []).enc) (n+1))
  rw[e0];refine gvC (F:=k9) ?_
  repeat' (first|refine aW ?_|refine kX1 0 rfl (h1) ?_|apply ae<;>intro h)
  refine b9 [] [(68,some (_,.cells ([.int .i64 2,.int .i64 0,.int .i64 0,.sl 4 []])))] trivial ⟨⟨rfl,leA⟩,trivial⟩ ?_;refine fX1 ?_;refine cx ?_;rfl
 rw[Aa c1];have d1: ¬((pk s n).toNat:Int)=46:=kl c1
 by_cases c2:pk s n=33
 ·rw[Ac c2]
  have hlt:=jV c2 (by decide)
  rw[c2] at h1;show ag G0 653 _ _ (rpR s (.agg (Rx.mk 4 0 0 []).enc) (n+1))
  rw[e0];refine gvC (F:=k9) ?_
  repeat' (first|refine aW ?_|refine kX1 0 rfl (h1) ?_|apply ae<;>intro h)
  refine b9 [] [(68,some (_,.cells ([.int .i64 4,.int .i64 0,.int .i64 0,.sl 4 []])))] trivial ⟨⟨rfl,leA⟩,trivial⟩ ?_;refine fX1 ?_;refine cx ?_;rfl
 rw[Aa c2];have d2: ¬((pk s n).toNat:Int)=33:=kl c2
 by_cases c3:pk s n=40
 ·rw[Ac c3]
  have hlt:=jV c3 (by decide)
  rw[c3] at h1;have h2:=gw s hs (n+1) (by omega)
  have hbl2:=(pk s (n+1)).toNat_lt
  by_cases c4:pk s (n+1)=41
  ·rw[Ac c4]
   have hlt2:=jV c4 (by decide)
   rw[c4] at h2;show ag G0 653 _ _ (rpR s (.agg (Rx.mk 0 0 0 []).enc) (n+1+1))
   rw[e0];refine gvC (F:=k9) ?_
   repeat' (first|refine aW ?_|refine kX1 0 rfl (h1) ?_|refine kX1 0 rfl (h2) ?_|apply ae<;>intro h)
   refine b9 [] [(68,some (_,.cells ([.int .i64 0,.int .i64 0,.int .i64 0,.sl 4 []])))] trivial ⟨⟨rfl,leA⟩,trivial⟩ ?_;refine fX1 ?_;refine cx ?_;rfl
  rw[Aa c4];have d4: ¬((pk s (n+1)).toNat:Int)=41:=kl c4;have hq:=hA (n+1) (by omega)
  cases ha:alt (n+1) with
  |none=>
   rw[ha] at hq;obtain ⟨m,hq⟩:=hq;refine ⟨m,?_⟩;generalize pk s (n+1)=b2 at*;refine gvC (F:=k9) ?_
   repeat' (first|refine aW ?_|refine kX1 0 rfl (h1) ?_|refine kX1 0 rfl (h2) ?_|apply ae<;>intro h)
   (conv=>whnf)
   refine CallG.stop ?_;refine aH 579 hq (λQ hr hg=>?_)
   refine kX1 0 rfl hg ?_ (hE:=by rw[hr];rfl)
   rfl
  |some q=>
   obtain ⟨x,m⟩:=q;rw[ha] at hq;obtain ⟨p1,p2,p3⟩:=hp (n+1) x m (by omega) ha
   have h3:=pB s hs m p2 41 (by decide)
   obtain ⟨k,lo,hi,l⟩:=x
   change ag G0 579 _ _ (rpR s (.agg (Rx.mk k lo hi l).enc) m) at hq
   rw[bl] at hq;rw[gz (show (41:UInt8)≠0 by decide)] at h3
   generalize pk s (n+1)=b2 at*;dsimp only
   by_cases c5:pk s m=41
   ·have hlt3:=jV c5 (by decide)
    rw[Ac c5];rw[Ac (by simpa using c5)] at h3
    show ag G0 653 _ _ (rpR s (.agg (Rx.mk k lo hi l).enc) (m+1))
    rw[bl];refine gvC (F:=k9) ?_
    repeat' (first|refine aW ?_|refine kX1 0 rfl (h1) ?_|refine kX1 0 rfl (h2) ?_|refine kX1 0 rfl (hq) ?_|refine kX1 0 rfl (h3) ?_|apply ae<;>intro h)
    refine fX1 ?_;refine cx ?_;rfl
   ·rw[Aa c5]
    rw[Aa (by simpa using c5)] at h3
    refine ⟨m,?_⟩;refine gvC (F:=k9) ?_
    repeat' (first|refine aW ?_|refine kX1 0 rfl (h1) ?_|refine kX1 0 rfl (h2) ?_|refine kX1 0 rfl (hq) ?_|apply ae<;>intro h)
    (conv=>whnf)
    refine CallG.stop ?_;refine aH 658 h3 (λQ hr hg=>?_)
    refine kX1 0 rfl hg ?_ (hE:=by rw[hr];rfl)
    rfl
 rw[Aa c3];have d3: ¬((pk s n).toNat:Int)=40:=kl c3
 by_cases c6:pk s n=91
 ·rw[Ac c6]
  have hlt:=jV c6 (by decide)
  rw[c6] at h1;have h2:=o6 s hs (n+1) (by omega)
  cases ha:gH s (n+1) with
  |none=>
   rw[ha] at h2;refine ⟨Bg s (n+1),?_⟩;refine gvC (F:=k9) ?_
   repeat' (first|refine aW ?_|refine kX1 0 rfl (h1) ?_|apply ae<;>intro h)
   (conv=>whnf)
   refine CallG.stop ?_;refine aH 657 h2 (λQ hr hg=>?_)
   refine kX1 0 rfl hg ?_ (hE:=by rw[hr];rfl)
   rfl
  |some q=>
   obtain ⟨a,m⟩:=q;rw[ha] at h2;obtain ⟨p1,p2⟩:=mH s (n+1) a m (by omega) ha
   have h3:=pB s hs m p2 45 (by decide)
   rw[gz (show (45:UInt8)≠0 by decide)] at h3
   dsimp only
   change ag G0 657 _ _ (rpR s (.int .i64 a) m) at h2
   by_cases c7:pk s m=45
   ·have hlt3:=jV c7 (by decide)
    rw[Ac c7];rw[Ac (by simpa using c7)] at h3
    have h4:=o6 s hs (m+1) (by omega)
    cases hb:gH s (m+1) with
    |none=>
     rw[hb] at h4;refine ⟨Bg s (m+1),?_⟩;refine gvC (F:=k9) ?_
     repeat' (first|refine aW ?_|refine kX1 0 rfl (h1) ?_|refine kX1 0 rfl (h2) ?_|refine kX1 0 rfl (h3) ?_|apply ae<;>intro h)
     (conv=>whnf)
     refine CallG.stop ?_;refine aH 657 h4 (λQ hr hg=>?_)
     refine kX1 0 rfl hg ?_ (hE:=by rw[hr];rfl)
     rfl
    |some q=>
     obtain ⟨b,k⟩:=q;rw[hb] at h4;obtain ⟨q1,q2⟩:=mH s (m+1) b k (by omega) hb
     have h5:=pB s hs k q2 93 (by decide)
     rw[gz (show (93:UInt8)≠0 by decide)] at h5
     dsimp only
     change ag G0 657 _ _ (rpR s (.int .i64 b) k) at h4
     by_cases c8:pk s k=93
     ·have hlt4:=jV c8 (by decide)
      rw[Ac c8];rw[Ac (by simpa using c8)] at h5
      show ag G0 653 _ _ (rpR s (.agg (Rx.mk 1 a b []).enc) (k+1))
      rw[e0];refine gvC (F:=k9) ?_
      repeat' (first|refine aW ?_|refine kX1 0 rfl (h1) ?_|refine kX1 0 rfl (h2) ?_|refine kX1 0 rfl (h3) ?_|refine kX1 0 rfl (h4) ?_|refine kX1 0 rfl (h5) ?_|apply ae<;>intro h)
      refine b9 [] [(68,some (_,.cells ([.int .i64 1,.int .i64 a,.int .i64 b,.sl 4 []])))] trivial ⟨⟨rfl,leA⟩,trivial⟩ ?_;refine fX1 ?_;refine cx ?_;rfl
     ·rw[Aa c8]
      rw[Aa (by simpa using c8)] at h5
      refine ⟨k,?_⟩;refine gvC (F:=k9) ?_
      repeat' (first|refine aW ?_|refine kX1 0 rfl (h1) ?_|refine kX1 0 rfl (h2) ?_|refine kX1 0 rfl (h3) ?_|refine kX1 0 rfl (h4) ?_|apply ae<;>intro h)
      (conv=>whnf)
      refine CallG.stop ?_;refine aH 658 h5 (λQ hr hg=>?_)
      refine kX1 0 rfl hg ?_ (hE:=by rw[hr];rfl)
      rfl
   ·rw[Aa c7]
    rw[Aa (by simpa using c7)] at h3
    refine ⟨m,?_⟩;refine gvC (F:=k9) ?_
    repeat' (first|refine aW ?_|refine kX1 0 rfl (h1) ?_|refine kX1 0 rfl (h2) ?_|apply ae<;>intro h)
    (conv=>whnf)
    refine CallG.stop ?_;refine aH 658 h3 (λQ hr hg=>?_)
    refine kX1 0 rfl hg ?_ (hE:=by rw[hr];rfl)
    rfl
 rw[Aa c6];have d6: ¬((pk s n).toNat:Int)=91:=kl c6;have h2:=o6 s hs n hn;generalize pk s n=b1 at*;cases ha:gH s n with
 |none=>
  rw[ha] at h2;refine ⟨Bg s n,?_⟩;refine gvC (F:=k9) ?_
  repeat' (first|refine aW ?_|refine kX1 0 rfl (h1) ?_|apply ae<;>intro h)
  (conv=>whnf)
  refine CallG.stop ?_;refine aH 657 h2 (λQ hr hg=>?_)
  refine kX1 0 rfl hg ?_ (hE:=by rw[hr];rfl)
  rfl
 |some q=>
  obtain ⟨a,m⟩:=q;rw[ha] at h2;obtain ⟨p1,p2⟩:=mH s n a m hn ha;dsimp only
  change ag G0 657 _ _ (rpR s (.int .i64 a) m) at h2
  show ag G0 653 _ _ (rpR s (.agg (Rx.mk 1 a a []).enc) (m))
  rw[e0];refine gvC (F:=k9) ?_
  repeat' (first|refine aW ?_|refine kX1 0 rfl (h1) ?_|refine kX1 0 rfl (h2) ?_|apply ae<;>intro h)
  refine b9 [] [(68,some (_,.cells ([.int .i64 1,.int .i64 a,.int .i64 a,.sl 4 []])))] trivial ⟨⟨rfl,leA⟩,trivial⟩ ?_;refine fX1 ?_;refine cx ?_;rfl
theorem Fj (hs:s.length<2^40)(atom:PR)(lv:Int)(hp:Pos s atom)(n:Nat)(hn:n<=s.length)(hA:jQ 653 s lv n (atom n)):jQ 646 s lv n (eO s atom n):=by
 unfold eO;cases ha:atom n with
 |none=>
  rw[ha] at hA;obtain ⟨m,hq⟩:=hA;refine ⟨m,?_⟩;refine gvB (F:=xm) ?_
  (conv=>whnf)
  refine CallG.stop ?_;refine aH 653 hq (λQ hr hg=>?_)
  refine kX1 0 rfl hg ?_ (hE:=by rw[hr];rfl)
  rfl
 |some q=>
  obtain ⟨x,m⟩:=q;rw[ha] at hA;obtain ⟨p1,p2,p3⟩:=hp n x m hn ha;have h2:=gw s hs m p2;have hbl:=(pk s m).toNat_lt;obtain ⟨k,lo,hi,l⟩:=x
  change ag G0 653 _ _ (rpR s (.agg (Rx.mk k lo hi l).enc) m) at hA
  rw[bl] at hA;dsimp only;simp only[gz (show (42:UInt8)≠0 by decide),gz (show (43:UInt8)≠0 by decide),gz (show (63:UInt8)≠0 by decide),AK]
  by_cases c0:pk s m=42
  ·rw[Ac c0]
   have hlt:=jV c0 (by decide)
   rw[c0] at h2;show ag G0 646 _ _ (rpR s (.agg (Rx.mk 5 0 0 [Rx.mk k lo hi l]).enc) (m+1))
   rw[bl,An,A6,bl];refine gvC (F:=xm) ?_
   repeat' (first|refine aW ?_|refine kX1 0 rfl (hA) ?_|refine kX1 0 rfl (h2) ?_|apply ae<;>intro h)
   refine BW [(92,_,_)] [4] [68] [0] ⟨rfl,frP,trivial⟩ ?_;repeat ((conv=>whnf);first|refine frA ?_|intro T H)
   refine fX1 ?_;refine cx ?_;rfl
  rw[Aa c0];have d0: ¬((pk s m).toNat:Int)=42:=kl c0
  by_cases c1:pk s m=43
  ·rw[Ac c1]
   have hlt:=jV c1 (by decide)
   rw[c1] at h2;show ag G0 646 _ _ (rpR s (.agg (Rx.mk 6 0 0 [Rx.mk k lo hi l]).enc) (m+1))
   rw[bl,An,A6,bl];refine gvC (F:=xm) ?_
   repeat' (first|refine aW ?_|refine kX1 0 rfl (hA) ?_|refine kX1 0 rfl (h2) ?_|apply ae<;>intro h)
   refine BW [(92,_,_)] [4] [68] [0] ⟨rfl,frP,trivial⟩ ?_;repeat ((conv=>whnf);first|refine frA ?_|intro T H)
   refine fX1 ?_;refine cx ?_;rfl
  rw[Aa c1];have d1: ¬((pk s m).toNat:Int)=43:=kl c1
  by_cases c2:pk s m=63
  ·rw[Ac c2]
   have hlt:=jV c2 (by decide)
   rw[c2] at h2;show ag G0 646 _ _ (rpR s (.agg (Rx.mk 7 0 0 [Rx.mk k lo hi l]).enc) (m+1))
   rw[bl,An,A6,bl];refine gvC (F:=xm) ?_
   repeat' (first|refine aW ?_|refine kX1 0 rfl (hA) ?_|refine kX1 0 rfl (h2) ?_|apply ae<;>intro h)
   refine BW [(92,_,_)] [4] [68] [0] ⟨rfl,frP,trivial⟩ ?_;repeat ((conv=>whnf);first|refine frA ?_|intro T H)
   refine fX1 ?_;refine cx ?_;rfl
  rw[Aa c2];have d2: ¬((pk s m).toNat:Int)=63:=kl c2;show ag G0 646 _ _ (rpR s (.agg (Rx.mk k lo hi l).enc) m)
  rw[bl];generalize pk s m=b1 at*;refine gvC (F:=xm) ?_
  repeat' (first|refine aW ?_|refine kX1 0 rfl (hA) ?_|refine kX1 0 rfl (h2) ?_|apply ae<;>intro h)
  refine fX1 ?_;refine cx ?_;rfl
def Xo:DD->Ret->Prop
 |some (x,m),t=>t=rpR s (.agg x.enc) m
 |none,t=> ∃m,t=pnR s m
end
section
variable {s:B5}{item:PR}{c:UInt8}{f:Nat}{acc:C7}{n:Nat}
theorem NJ {s:B5}{lv:Int}{n:Nat}{o:DD}{t:Ret}(h:Xo s o t)(g:ag G0 f [.ref 0 0 0,.int .i64 lv] [.cells [.str s,.int .i64 (n:Int)]] t):jQ f s lv n o:=by
 cases o with
 |none=>obtain ⟨m,rfl⟩:=h;exact ⟨m,g⟩
 |some p=>obtain ⟨x,m⟩:=p;obtain rfl:t=_:=h;exact g
def Kx (s:B5)(item:PR)(c:UInt8)(f:Nat)(acc:C7)(m:Nat):Option (C7×Nat):=if chr s m c then fe s item c f acc (m+1) else some (acc,m)
theorem rK {x:Rx}{m:Nat}(h:item n=some (x,m)):fe s item c (f+1) acc n=Kx s item c f (acc++[x]) m:=by
 rw[fe,h];rfl
theorem rJ (h:item n=none):fe s item c (f+1) acc n=none:=by
 rw[fe,h]
end
theorem yd (s:B5)(hs:s.length<2^32)(item:PR)(lv:Int)(hp:Pos s item)(hA: ∀n,n<=s.length->jQ 646 s lv n (item n)): ∀(f:Nat)(acc:C7)(m:Nat)(hf:s.length<f+(m+1))(hm:m<=s.length)(hne:acc≠ [])(hac:acc.length+f<=s.length+1),∃t,Xo s (ix 3 (Kx s item 32 f acc m)) t/\ ∀(T:TV)(H:az)(c g g4:Nat)(es:B6)(k:Nat)(hes:es=acc.map Rx.enc)(hk:k=acc.length),Ev G0 ⟨ZH,⟨(1,.int .i64 lv)::(0,.ref 0 0 0)::(5,.vs 89 g k)::(4,.ref 68 g4 0)::T,(0,some (0,.cells [.str s,.int .i64 (m:Int)]))::(68,some (g4,.cells [.int .i64 0,.int .i64 0,.int .i64 0,.con (.slice none 0 0)]))::(89,some (g,.vec 4 es))::H,c⟩,[.cell 4 (some 4)],1⟩ t
 |f,acc,m,hf,hm,hne,hac=>by
  have h1:=gw s (by omega) m hm
  have hbl:=(pk s m).toNat_lt;have hl:=ml acc Rx.enc;unfold Kx;simp only[gz (show (32:UInt8)≠0 by decide),AK]
  by_cases c1:pk s m=32
  ·rw[Ac c1]
   rw[c1] at h1;have hlt:=jV c1 (by decide)
   have hq:=hA (m+1) (by omega)
   obtain ⟨f',rfl⟩: ∃f',f=f'+1:=⟨f-1,by omega⟩
   cases ha:item (m+1) with
   |none=>
    rw[ha] at hq;obtain ⟨m',hq⟩:=hq;rw[rJ ha];refine ⟨_,⟨m',rfl⟩,λT H c g g4 es k hes hk=>?_⟩
    subst hes hk;refine evl ?_
    repeat' (first|refine aW ?_|refine kX1 0 rfl (h1) ?_|apply ae<;>intro h)
    (conv=>whnf)
    refine CallG.stop ?_;refine aH 646 hq (λQ hr hg=>?_)
    refine kX1 0 rfl hg ?_ (hE:=by rw[hr];rfl)
    rfl
   |some p=>
    obtain ⟨x,m'⟩:=p;rw[ha] at hq;obtain ⟨p1,p2,_⟩:=hp _ _ _ (by omega) ha
    rw[rK ha];have hpx:=cM x;have hax:(acc++[x]).map Rx.enc=acc.map Rx.enc++[x.enc]:=by simp
    obtain ⟨t,h2,h3⟩:=yd s hs item lv hp hA f' (acc++[x]) m' (by omega) p2 (by simp) (by simp;omega)
    refine ⟨t,h2,λT H c g g4 es k hes hk=>?_⟩
    subst hes hk;rw[hax] at h3;simp only[jQ] at hq;generalize hxe:x.enc=xe at*;obtain ⟨k,lo,hi,l⟩:=x;rw[bl] at hxe;subst hxe;refine evl ?_
    repeat' (first|refine aW ?_|refine kX1 0 rfl (h1) ?_|refine kX1 0 rfl (hq) ?_|apply ae<;>intro h)
    refine au [1,0,5,4] [0,68,89] ?_;exact h3 _ _ _ _ _ _ _ rfl (by simp)
  ·rw[Aa c1]
   have d1: ¬((pk s m).toNat:Int)=32:=kl c1;generalize pk s m=b1 at*;cases acc with
   |nil=>exact absurd rfl hne
   |cons x r=>
    cases r with
    |nil=>
     refine ⟨rpR s (.agg x.enc) m,rfl,λT H c g g4 es k hes hk=>?_⟩
     obtain rfl:es= [x.enc]:=hes;obtain rfl:k=1:=hk;generalize hxe:x.enc=xe at*;obtain ⟨k,lo,hi,l⟩:=x;rw[bl] at hxe;subst hxe;refine evl ?_
     repeat' (first|refine aW ?_|refine kX1 0 rfl (h1) ?_|refine And.intro (show Int.toNat 0<0+1 from Nat.one_pos) ?_|apply ae<;>intro h)
     refine fX1 ?_;refine cx ?_;rfl
    |cons y q=>
     refine ⟨rpR s (.agg (Rx.mk 3 0 0 (x::y::q)).enc) m,rfl,λT H c g g4 es k hes hk=>?_⟩
     subst hes hk;rw[bl];have hl2:(x::y::q).length=q.length+2:=rfl;refine evl ?_
     repeat' (first|refine aW ?_|refine kX1 0 rfl (h1) ?_|apply ae<;>intro h)
     refine lx [(89,_,_)] [4] [0,68] ⟨rfl,frP,trivial⟩ ?_;repeat ((conv=>whnf);first|refine frA ?_|intro T H)
     refine fX1 ?_;refine cx ?_;rfl
theorem LZ (s:B5)(hs:s.length<2^32)(item:PR)(lv:Int)(hp:Pos s item)(hA: ∀n,n<=s.length->jQ 646 s lv n (item n))(n:Nat)(hn:n<=s.length):jQ 624 s lv n (ix 3 (fe s item 32 (s.length+1) [] n)):=by
 have hq:=hA n hn;cases ha:item n with
 |none=>
  rw[ha] at hq;obtain ⟨m',hq⟩:=hq;rw[rJ ha];refine ⟨m',?_⟩;refine gvB (F:=Jx) ?_
  (conv=>whnf)
  refine CallG.stop ?_;refine aH 646 hq (λQ hr hg=>?_)
  refine kX1 0 rfl hg ?_ (hE:=by rw[hr];rfl)
  rfl
 |some p=>
  obtain ⟨x,m⟩:=p;rw[ha] at hq;obtain ⟨p1,p2,_⟩:=hp _ _ _ hn ha;rw[rK ha];have hpx:=cM x;obtain ⟨t,h1,h2⟩:=yd s hs item lv hp hA s.length [x] m (by omega) p2 (by simp) (by simp;omega)
  refine NJ h1 ?_;simp only[jQ] at hq;generalize hxe:x.enc=xe at*;obtain ⟨k,lo,hi,l⟩:=x;rw[bl] at hxe;have h3:=λT H c g g4=>h2 T H c g g4 _ _ rfl rfl
  subst hxe;simp only[An,A6,bl,Ar,List.length_nil] at h3;refine gvC (F:=Jx) ?_
  repeat' (first|refine aW ?_|refine kX1 0 rfl (hq) ?_|apply ae<;>intro h)
  (conv=>whnf)
  refine Vj 73 89 [(1,_),(0,_),(5,.vs 89 _ _),(4,_)] [(0,_),(68,_)] rfl puL (by decide) ⟨rfl,rfl,(by show AV.ren _ (.vs 73 _ _)=_;simp only[AV.ren,φM,and_self,if_true];rfl),rfl,trivial⟩ ⟨⟨by decide,by decide,rfl⟩,⟨by decide,by decide,rfl⟩,trivial⟩ ?_
  intro T H;refine au [1,0,5,4] [0,68,89] ?_;exact h3 _ _ _ _ _
theorem yf (s:B5)(hs:s.length<2^32)(item:PR)(lv:Int)(hp:Pos s item)(hA: ∀n,n<=s.length->jQ 624 s lv n (item n)): ∀(f:Nat)(acc:C7)(m:Nat)(hf:s.length<f+(m+1))(hm:m<=s.length)(hne:acc≠ [])(hac:acc.length+f<=s.length+1),∃t,Xo s (ix 4 (Kx s item 124 f acc m)) t/\ ∀(T:TV)(H:az)(c g g4:Nat)(es:B6)(k:Nat)(hes:es=acc.map Rx.enc)(hk:k=acc.length),Ev G0 ⟨ZX,⟨(1,.int .i64 lv)::(0,.ref 0 0 0)::(5,.vs 93 g k)::(4,.ref 68 g4 0)::T,(0,some (0,.cells [.str s,.int .i64 (m:Int)]))::(68,some (g4,.cells [.int .i64 0,.int .i64 0,.int .i64 0,.con (.slice none 0 0)]))::(93,some (g,.vec 4 es))::H,c⟩,[.cell 4 (some 4)],1⟩ t
 |f,acc,m,hf,hm,hne,hac=>by
  have h1:=gw s (by omega) m hm
  have hbl:=(pk s m).toNat_lt;have hl:=ml acc Rx.enc;unfold Kx;simp only[gz (show (124:UInt8)≠0 by decide),AK]
  by_cases c1:pk s m=124
  ·rw[Ac c1]
   rw[c1] at h1;have hlt:=jV c1 (by decide)
   have hq:=hA (m+1) (by omega)
   obtain ⟨f',rfl⟩: ∃f',f=f'+1:=⟨f-1,by omega⟩
   cases ha:item (m+1) with
   |none=>
    rw[ha] at hq;obtain ⟨m',hq⟩:=hq;rw[rJ ha];refine ⟨_,⟨m',rfl⟩,λT H c g g4 es k hes hk=>?_⟩
    subst hes hk;refine evl ?_
    repeat' (first|refine aW ?_|refine kX1 0 rfl (h1) ?_|apply ae<;>intro h)
    (conv=>whnf)
    refine CallG.stop ?_;refine aH 624 hq (λQ hr hg=>?_)
    refine kX1 0 rfl hg ?_ (hE:=by rw[hr];rfl)
    rfl
   |some p=>
    obtain ⟨x,m'⟩:=p;rw[ha] at hq;obtain ⟨p1,p2,_⟩:=hp _ _ _ (by omega) ha
    rw[rK ha];have hpx:=cM x;have hax:(acc++[x]).map Rx.enc=acc.map Rx.enc++[x.enc]:=by simp
    obtain ⟨t,h2,h3⟩:=yf s hs item lv hp hA f' (acc++[x]) m' (by omega) p2 (by simp) (by simp;omega)
    refine ⟨t,h2,λT H c g g4 es k hes hk=>?_⟩
    subst hes hk;rw[hax] at h3;simp only[jQ] at hq;generalize hxe:x.enc=xe at*;obtain ⟨k,lo,hi,l⟩:=x;rw[bl] at hxe;subst hxe;refine evl ?_
    repeat' (first|refine aW ?_|refine kX1 0 rfl (h1) ?_|refine kX1 0 rfl (hq) ?_|apply ae<;>intro h)
    refine au [1,0,5,4] [0,68,93] ?_;exact h3 _ _ _ _ _ _ _ rfl (by simp)
  ·rw[Aa c1]
   have d1: ¬((pk s m).toNat:Int)=124:=kl c1;generalize pk s m=b1 at*;cases acc with
   |nil=>exact absurd rfl hne
   |cons x r=>
    cases r with
    |nil=>
     refine ⟨rpR s (.agg x.enc) m,rfl,λT H c g g4 es k hes hk=>?_⟩
     obtain rfl:es= [x.enc]:=hes;obtain rfl:k=1:=hk;generalize hxe:x.enc=xe at*;obtain ⟨k,lo,hi,l⟩:=x;rw[bl] at hxe;subst hxe;refine evl ?_
     repeat' (first|refine aW ?_|refine kX1 0 rfl (h1) ?_|refine And.intro (show Int.toNat 0<0+1 from Nat.one_pos) ?_|apply ae<;>intro h)
     refine fX1 ?_;refine cx ?_;rfl
    |cons y q=>
     refine ⟨rpR s (.agg (Rx.mk 4 0 0 (x::y::q)).enc) m,rfl,λT H c g g4 es k hes hk=>?_⟩
     subst hes hk;rw[bl];have hl2:(x::y::q).length=q.length+2:=rfl;refine evl ?_
     repeat' (first|refine aW ?_|refine kX1 0 rfl (h1) ?_|apply ae<;>intro h)
     refine lx [(93,_,_)] [4] [0,68] ⟨rfl,frP,trivial⟩ ?_;repeat ((conv=>whnf);first|refine frA ?_|intro T H)
     refine fX1 ?_;refine cx ?_;rfl
theorem L8 (s:B5)(hs:s.length<2^32)(item:PR)(lv:Int)(hl:lv<=32)(hp:Pos s item)(hA: ∀n,n<=s.length->jQ 624 s lv n (item n))(n:Nat)(hn:n<=s.length):jQ 579 s lv n (ix 4 (fe s item 124 (s.length+1) [] n)):=by
 have hq:=hA n hn;cases ha:item n with
 |none=>
  rw[ha] at hq;obtain ⟨m',hq⟩:=hq;rw[rJ ha];refine ⟨m',?_⟩;refine gvB (F:=BC) ?_
  (conv=>whnf)
  refine CallG.stop ?_;refine aH 624 hq (λQ hr hg=>?_)
  refine kX1 0 rfl hg ?_ (hE:=by rw[hr];rfl)
  rfl
 |some p=>
  obtain ⟨x,m⟩:=p;rw[ha] at hq;obtain ⟨p1,p2,_⟩:=hp _ _ _ hn ha;rw[rK ha];have hpx:=cM x;obtain ⟨t,h1,h2⟩:=yf s hs item lv hp hA s.length [x] m (by omega) p2 (by simp) (by simp;omega)
  refine NJ h1 ?_;simp only[jQ] at hq;generalize hxe:x.enc=xe at*;obtain ⟨k,lo,hi,l⟩:=x;rw[bl] at hxe;have h3:=λT H c g g4=>h2 T H c g g4 _ _ rfl rfl
  subst hxe;simp only[An,A6,bl,Ar,List.length_nil] at h3;refine gvC (F:=BC) ?_
  repeat' (first|refine aW ?_|refine kX1 0 rfl (hq) ?_|apply ae<;>intro h)
  (conv=>whnf)
  refine Vj 77 93 [(1,_),(0,_),(5,.vs 93 _ _),(4,_)] [(0,_),(68,_)] rfl puL (by decide) ⟨rfl,rfl,(by show AV.ren _ (.vs 77 _ _)=_;simp only[AV.ren,φM,and_self,if_true];rfl),rfl,trivial⟩ ⟨⟨by decide,by decide,rfl⟩,⟨by decide,by decide,rfl⟩,trivial⟩ ?_
  intro T H;refine au [1,0,5,4] [0,68,93] ?_;exact h3 _ _ _ _ _
theorem uZ (s:B5)(hs:s.length<2^32): ∀(k:Nat)(lv:Int)(hk:lv+k=33)(h0:0<=lv)(n:Nat)(hn:n<=s.length),jQ 579 s lv n (dj s (gH s) k n)
 |0,lv,hk,h0,n,hn=>by
  obtain rfl:lv=33:=by omega
  refine ⟨n,?_⟩;refine gvB (F:=BC) ?_;refine jN ?_;rfl
 |k+1,lv,hk,h0,n,hn=>by
  have ih:=λn hn=>uZ s hs k (lv+1) (by omega) (by omega) n hn
  have pa:=rB hs (mH s) k;have h1:=λn hn=>FG s (by omega) (dj s (gH s) k) lv (by omega) h0 pa ih n hn
  have pt:=xL (mH s) pa;have h2:=λn hn=>Fj s (by omega) (di s (gH s) (dj s (gH s) k)) lv pt n hn (h1 n hn)
  have pi:=mY pt;have h3:=λn hn=>LZ s hs (eO s (di s (gH s) (dj s (gH s) k))) lv pi h2 n hn
  have ps:=vl hs pi;exact L8 s hs (kH s (eO s (di s (gH s) (dj s (gH s) k)))) lv (by omega) ps h3 n hn
def sm (k n:Int):Bool×Bool:=if k=0∨k=1∨k=2 then (true,n==0) else if k=3 then (true,decide (n>=2)) else if k=4 then (true,n !=1) else if k=5∨k=6∨k=7 then (true,n==1) else (false,false)
theorem Fd (k n:Int):ag G0 659 [.int .i64 k,.int .i64 n] [] ⟨.tup [.bool (sm k n).1,.bool (sm k n).2],[]⟩:=by
 unfold sm
 by_cases k0:k=0
 ·subst k0
  rw[Ac (.inl rfl)];exact gvA (F:=ph)
 by_cases k1:k=1
 ·subst k1
  rw[Ac (.inr (.inl rfl))];exact gvA (F:=ph)
 by_cases k2:k=2
 ·subst k2
  rw[Ac (.inr (.inr rfl))];exact gvA (F:=ph)
 by_cases k3:k=3
 ·subst k3
  rw[Aa (by decide),Ac rfl]
  exact gvA (F:=ph)
 by_cases k4:k=4
 ·subst k4
  rw[Aa (by decide),Aa (by decide),Ac rfl]
  exact gvA (F:=ph)
 by_cases k5:k=5
 ·subst k5
  rw[Aa (by decide),Aa (by decide),Aa (by decide),Ac (.inl rfl)]
  exact gvA (F:=ph)
 by_cases k6:k=6
 ·subst k6
  rw[Aa (by decide),Aa (by decide),Aa (by decide),Ac (.inr (.inl rfl))]
  exact gvA (F:=ph)
 by_cases k7:k=7
 ·subst k7
  rw[Aa (by decide),Aa (by decide),Aa (by decide),Ac (.inr (.inr rfl))]
  exact gvA (F:=ph)
 rw[Aa (by omega),Aa k3,Aa k4,Aa (by omega)]
 exact gvA (F:=ph)
def ndE (k lo hi n:Int):Int:=if (sm k n).1=false then 15 else if k=1/\(lo<0∨lo>hi∨hi>4294967295) then 5 else if (k≠1/\(lo≠0∨hi≠0))∨(sm k n).2=false then 1 else 0
section
variable (k lo hi:Int)(l:C7)
theorem agX (n:Nat):(ndE k lo hi n=0↔bq k lo hi n=true):=by
 unfold ndE sm
 by_cases k1:k=1
 ·subst k1
  by_cases a:lo<0∨lo>hi∨hi>4294967295
  ·simp[bq,a];omega
  ·have a1:0<=lo/\lo<=hi/\hi<=4294967295:=by omega
   by_cases c:(n:Int)=0
   ·simp[bq,a1,c];omega
   ·have c': ¬n=0:=by omega
    simp[bq,a1,c'];omega
 by_cases z:lo=0/\hi=0
 ·obtain ⟨rfl,rfl⟩:=z
  by_cases k0:k=0
  ·subst k0;by_cases c:n=0<;>simp[bq,c]
  by_cases k2:k=2
  ·subst k2;by_cases c:n=0<;>simp[bq,c]
  by_cases k3:k=3
  ·subst k3;by_cases c:2<=n
   ·have c':(2:Int)<=n:=by omega
    simp[bq,c,c']
   ·have c': ¬(2:Int)<=n:=by omega
    simp[bq,c,c']
  by_cases k4:k=4
  ·subst k4;by_cases c:n=1
   ·have c':(n:Int)=1:=by omega
    simp[bq,c]
   ·have c': ¬(n:Int)=1:=by omega
    simp[bq,c,c']
  by_cases k5:k=5∨k=6∨k=7
  ·have k5':5<=k/\k<=7:=by omega
   by_cases c:n=1
   ·have c':(n:Int)=1:=by omega
    simp[bq,k0,k1,k2,k3,k4,k5,k5',c]
   ·have c': ¬(n:Int)=1:=by omega
    simp[bq,k0,k1,k2,k3,k4,k5,k5',c,c']
  ·have k5': ¬(5<=k/\k<=7):=by omega
   simp[bq,k0,k1,k2,k3,k4,k5,k5']
 ·have hN:bq k lo hi n=false:=by simp[bq,k1,z]
  have z':k≠1/\(lo≠0∨hi≠0):=⟨k1,by omega⟩
  rw[hN];simp only[AR,iff_false]
  (repeat' split)<;>first|decide|omega|simp_all
theorem My (hl:l.length<2^40):ag G0 654 [.agg [.int .i64 k,.int .i64 lo,.int .i64 hi,.sl 4 (l.map Rx.enc)]] [] ⟨.int .i64 (ndE k lo hi (l.length:Nat)),[]⟩:=by
 have m1:=ml l Rx.enc;have h1:=Fd k (l.length:Nat);rw[<-m1] at h1;unfold ndE;rw[<-m1];generalize sm k ((l.map Rx.enc).length:Nat)=P at*;obtain ⟨p,q⟩:=P;dsimp only at h1⊢;cases p
 ·rw[Ac rfl]
  refine gvC (F:=xh) ?_
  repeat' (first|refine aW ?_|apply ae<;>intro h)
  all_goals (refine ap ?_;rfl)
 rw[Aa (by simp)]
 by_cases a:k=1/\(lo<0∨lo>hi∨hi>4294967295)
 ·rw[Ac a]
  obtain ⟨rfl,a⟩:=a;refine gvC (F:=xh) ?_
  repeat' (first|refine aW ?_|apply ae<;>intro h)
  all_goals try (exfalso;omega)
  all_goals (refine ap ?_;rfl)
 rw[Aa a]
 by_cases b:(k≠1/\(lo≠0∨hi≠0))∨q=false
 ·rw[Ac b]
  cases q
  ·refine gvC (F:=xh) ?_
   repeat' (first|refine aW ?_|apply ae<;>intro h)
   all_goals try (exfalso;omega)
   all_goals (refine ap ?_;rfl)
  ·have b':k≠1/\(lo≠0∨hi≠0):=by simpa using b
   refine gvC (F:=xh) ?_
   repeat' (first|refine aW ?_|apply ae<;>intro h)
   all_goals try (exfalso;omega)
   all_goals (refine ap ?_;rfl)
 ·rw[Aa b]
  have b1:q=true:=by cases q<;>simp_all
  subst b1;have b2: ¬(k≠1/\(lo≠0∨hi≠0)):=λh=>b (.inl h)
  refine gvC (F:=xh) ?_
  repeat' (first|refine aW ?_|apply ae<;>intro h)
  all_goals try (exfalso;omega)
  all_goals (refine ap ?_;rfl)
def LD (x:Rx)(lv:Nat):Prop:= ∀c:Nat,c<=64-> ∃n e:Int,SE (chk x lv c) n e/\ag G0 647 [.agg x.enc,.int .i64 (lv:Int),.ref 0 0 0] [.cells [.int .i64 (c:Int)]] ⟨.int .i64 e,[(true,.cells [.int .i64 n])]⟩
theorem zu (l:C7)(hl:l.length<2^40)(lv:Nat)(hlv:lv<=16)(hk: ∀y∈l,LD y (lv+1)): ∀(rest done:C7)(c:Nat)(n:Int)(e:l=done++rest)(hn:n=done.length)(hc:c<=64),∃N E:Int,SE (i6 rest (lv+1) c) N E/\ ∀(T:TV)(H:az)(ct:Nat),
  Ev G0 ⟨UF,⟨(30,.int .i64 n)::(2,.ref 0 0 0)::(1,.int .i64 (lv:Int))::(28,.sl 4 (l.map Rx.enc))::(29,.int .i64 l.length)::T,(0,some (0,.cells [.int .i64 (c:Int)]))::H,ct⟩,[.t 6],1⟩ ⟨.int .i64 E,[(true,.cells [.int .i64 N])]⟩
 | [],done,c,n,e,hn,hc=>by
  have hd:=md0 e;refine ⟨c,0,by rw[i6];exact ⟨rfl,rfl⟩,λT H ct=>?_⟩
  refine evA ?_;refine fX1 ?_;rfl
 |x::r,done,c,n,e,hn,hc=>by
  have hd:=md e;have hll:=ml l Rx.enc;have hx:=mx Rx.enc e hn;obtain ⟨n1,e1,h1,g1⟩:=hk x (by simp[e]) c hc
  have g1:ag G0 647 [.agg x.enc,.int .i64 ((lv:Int)+1),.ref 0 0 0] [.cells [.int .i64 (c:Int)]] ⟨.int .i64 e1,[(true,.cells [.int .i64 n1])]⟩:=g1;have hpx:=cM x;rw[i6];cases hq:chk x (lv+1) c with
  |none=>
   rw[hq] at h1;have h1: ¬e1=0:=h1;refine ⟨n1,e1,h1,λT H ct=>?_⟩
   generalize hxe:x.enc=xe at*;obtain ⟨k,lo,hi,q⟩:=x;rw[bl] at hxe;subst hxe;refine evl ?_
   repeat' (first|refine aW ?_|refine kX1 0 rfl (g1) ?_|apply ae<;>intro h)
   refine fX1 ?_;rfl
  |some c1=>
   rw[hq] at h1;obtain ⟨rfl,rfl⟩:=h1;obtain ⟨N,E,h2,h3⟩:=zu l hl lv hlv hk r (done++[x]) c1 (n+1) (by simp[e]) (by simp[hn]) (uM hq)
   refine ⟨N,E,h2,λT H ct=>?_⟩
   generalize hxe:x.enc=xe at*;obtain ⟨k,lo,hi,q⟩:=x;rw[bl] at hxe;subst hxe;refine evl ?_
   repeat' (first|refine aW ?_|refine kX1 0 rfl (g1) ?_|apply ae<;>intro h)
   refine au [30,2,1,28,29] [0] ?_;exact h3 _ _ _
theorem agj (hs:l.length<2^40)(lv:Nat)(hlv:lv<=17)(hk:lv<=16-> ∀y∈l,LD y (lv+1)):LD (.mk k lo hi l) lv:=by
 intro c hc;have m1:=ml l Rx.enc;have g0:=My k lo hi l hs;have h0:=agX k lo hi l.length;rw[chk,bl]
 by_cases a:16<lv
 ·rw[Ac a]
  have a':(lv:Int)>16:=by omega
  refine ⟨c,24,(show (24:Int)≠0 by decide),?_⟩
  refine gvB (F:=xl) ?_;refine fX1 ?_;rfl
 rw[Aa a]
 by_cases b:64<=c
 ·rw[Ac b]
  have b':(c:Int)>=64:=by omega
  refine ⟨c,4,(show (4:Int)≠0 by decide),?_⟩
  refine gvB (F:=xl) ?_;refine fX1 ?_;rfl
 rw[Aa b];generalize ndE k lo hi (l.length:Nat)=e0 at*
 by_cases d:bq k lo hi l.length=true
 ·rw[Ac d]
  obtain rfl:e0=0:=h0.2 d;obtain ⟨N,E,h2,h3⟩:=zu l hs lv (by omega) (hk (by omega)) l [] (c+1) 0 rfl rfl (by omega)
  refine ⟨N,E,h2,?_⟩;refine gvB (F:=xl) ?_;refine au [30,2,1,28,29] [0] ?_;rw[m1];exact h3 _ _ _
 ·rw[Aa d]
  have d': ¬e0=0:=λq=>d (h0.1 q)
  refine ⟨(c+1:Nat),e0,d',?_⟩;refine gvB (F:=xl) ?_;refine fX1 ?_;rfl
end
mutual
theorem VK: ∀(x:Rx),Sml x-> ∀lv:Nat,lv<=17->LD x lv
 | .mk k lo hi l,hs,lv,hlv=>agj k lo hi l hs.len lv hlv λh=>Oy l hs.kid (lv+1) (by omega)
theorem Oy: ∀(l:C7),(∀x∈l,Sml x)-> ∀lv:Nat,lv<=17-> ∀y∈l,LD y lv
 | [],_,_,_=>λy hy=>by simp at hy
 |x::r,hs,lv,hlv=>λy hy=>by
  have h1:=VK x (hs x (by simp)) lv hlv
  rcases AI.1 hy with q|q
  ·rw[q];exact h1
  ·exact Oy r (λz hz=>hs z (by simp[hz])) lv hlv y q
end
theorem Cq (x:Rx)(hs:Sml x): ∃e:Int,ag G0 626 [.agg x.enc] [] ⟨.int .i64 e,[]⟩/\(e=0↔ (chk x 1 0).isSome=true):=by
 obtain ⟨n,e,h1,g1⟩:=VK x hs 1 (by omega) 0 (by omega)
 have g1:ag G0 647 [.agg x.enc,.int .i64 1,.ref 0 0 0] [.cells [.int .i64 0]] ⟨.int .i64 e,[(true,.cells [.int .i64 n])]⟩:=g1;refine ⟨e,?_,?_⟩
 ·generalize hxe:x.enc=xe at*
  obtain ⟨k,lo,hi,q⟩:=x;rw[bl] at hxe;subst hxe;refine gvC (F:=ZE) ?_
  repeat' (first|refine aW ?_|refine kX1 67 rfl (g1) ?_|apply ae<;>intro h)
  refine ap ?_;rfl
 ·cases hq:chk x 1 0 with
  |none=>rw[hq] at h1;simp;exact h1
  |some c=>rw[hq] at h1;simp;exact h1.2
theorem tg (n:Int)(h0:0<=n)(h1:n<=4294967295):ag G0 337 [.int .i64 n] [] ⟨.str (am n),[]⟩:=by
 have hi:ag G0 246 [.int .i64 n] [] ⟨.str (am n),[]⟩:=by
  show (if-9223372036854775808<=n/\n<=9223372036854775807 then some (Ret.mk (.str (am n)) []) else none)=_
  rw[Ac ⟨by omega,by omega⟩]
 generalize am n=t at*;exact gvA (F:=f337)
section
variable (k:Int)
def Aq:Bool:=k==5||(k==6||k==7)
theorem NC:Aq k=decide (5<=k/\k<=7):=by
 grind [Aq]
theorem tK:ag G0 660 [.int .i64 k] [] ⟨.bool (Aq k),[]⟩:=by
 unfold Aq
 by_cases a:k=5
 ·subst a
  exact gvA (F:=Bz)
 by_cases b:k=6
 ·subst b
  exact gvA (F:=Bz)
 by_cases c:k=7
 ·subst c
  exact gvA (F:=Bz)
 have e:(k==5||(k==6||k==7))=false:=by simp[a,b,c]
 rw[e];refine gvB (F:=Bz) ?_
 all_goals try (exfalso;omega)
 all_goals (refine ap ?_;first|rfl|simp[a,b,c])
theorem LG (k k2 lo hi:Int)(l:C7)(hl:l.length<2^40):ag G0 655 [.int .i64 k,.agg [.int .i64 k2,.int .i64 lo,.int .i64 hi,.sl 4 (l.map Rx.enc)]] [] ⟨.bool (fx k (.mk k2 lo hi l)),[]⟩:=by
 have m1:=ml l Rx.enc;have h1:=tK k2;have h2:=tK k;rw[JY]
 by_cases a3:k2=3
 ·rw[Ac a3]
  subst a3
  by_cases e:k=4
  ·subst e
   exact gvA (F:=xg)
  ·rw[Ak e]
   refine gvB (F:=xg) ?_;refine ap ?_;simp[e]
 rw[Aa a3]
 by_cases a4:k2=4
 ·rw[Ac a4]
  subst a4;have hem:(!l.isEmpty)=decide ((l.length:Int)>0):=by cases l<;>simp
  rw[hem];refine gvB (F:=xg) ?_;refine ap ?_;rw[m1]
 rw[Aa a4,<-NC,<-NC];generalize Aq k2=A at*;generalize Aq k=B at*;cases A
 ·exact gvA (F:=xg)
 ·exact gvA (F:=xg)
def ShG (x:Rx):Prop:=ag G0 627 [.agg x.enc] [] ⟨.str (pat am x),[]⟩
theorem wm (x:Rx)(hx:ShG x)(hs:Sml x)(hb:(pat am x).length+2<2^31):ag G0 648 [.int .i64 k,.agg x.enc] [] ⟨.str (dz k x (pat am x)),[]⟩:=by
 unfold ShG at hx;have hpx:=cM x
 have hen: ∀k2 lo2 hi2 l2,x= .mk k2 lo2 hi2 l2->ag G0 655 [.int .i64 k,.agg [.int .i64 k2,.int .i64 lo2,.int .i64 hi2,.sl 4 (l2.map Rx.enc)]] [] ⟨.bool (fx k x),[]⟩:=λk2 lo2 hi2 l2 hxx=>by
  subst hxx;exact LG k k2 lo2 hi2 l2 hs.len
 have z1:([40]:B5).length=1:=rfl;have z2:([41]:B5).length=1:=rfl;cases hc:fx k x with
 |true=>
  have hin:dz k x (pat am x)= [40]++pat am x++[41]:=by unfold dz;rw[Ac hc];rfl
  rw[hin];rw[hc] at hen;generalize pat am x=w at*;generalize hxe:x.enc=xe at*;obtain ⟨k2,lo2,hi2,l2⟩:=x;rw[bl] at hxe;subst hxe;have hen:=hen k2 lo2 hi2 l2 rfl;have hwl:([40]++w).length=w.length+1:=by simp
  refine gvC (F:=QQ) ?_
  repeat' ((conv=>whnf);first|refine iG ?_|refine kV hx ?_ hpx|refine aq ?_|apply ae<;>intro h)
  refine ap ?_;rfl
 |false=>
  have hin:dz k x (pat am x)=pat am x:=by unfold dz;rw[Aa (by rw[hc];simp)]
  rw[hin];rw[hc] at hen;generalize pat am x=w at*;generalize hxe:x.enc=xe at*;obtain ⟨k2,lo2,hi2,l2⟩:=x;rw[bl] at hxe;subst hxe;have hen:=hen k2 lo2 hi2 l2 rfl;refine gvC (F:=QQ) ?_
  repeat' ((conv=>whnf);first|refine kV hx ?_ hpx|refine aq ?_|apply ae<;>intro h)
  refine ap ?_;rfl
end
theorem rI (k lo hi:Int)(l:C7)(hl:l.length<2^40)(hb:eU (bw am k l)<2^30)(hk: ∀y∈l,ShG y/\Sml y)(c:UInt8)(g1:Nat): ∀(rest done:C7)(acc R:B5)(T:TV)(H:az)(ct:Nat)(n:Int)(e:l=done++rest)(hn:n=done.length)(hb:acc.length+eU (bw am k rest)<2^40)(hR:R=if done= [] then dl c (bw am k rest) else acc++jr c (bw am k rest))(hd0:done= []->acc= []),
  Ev G0 ⟨UJ,⟨(72,.int .i64 n)::(1,.ref 65 g1 0)::(3,.str [c])::(4,.str acc)::(70,.sl 4 (l.map Rx.enc))::(71,.int .i64 l.length)::T,(65,some (g1,.cells [.int .i64 k,.int .i64 lo,.int .i64 hi,.sl 4 (l.map Rx.enc)]))::H,ct⟩,[.t 2],0⟩ ⟨.str R,[]⟩
 | [],done,acc,R,T,H,ct,n,e,hn,hb,hR,hd0=>by
  have hd:=md0 e
  obtain rfl:R=acc:=by
   rw[hR]
   by_cases h:done= []
   ·rw[Ac h,hd0 h,bw];rfl
   ·rw[Aa h,bw];simp[jr]
  refine evA ?_;refine ap ?_;rfl
 |x::r,done,acc,R,T,H,ct,n,e,hn,hb2,hR,hd0=>by
  have hd:=md e;have hll:=ml l Rx.enc;have hx:=mx Rx.enc e hn;obtain ⟨hp,hs⟩:=hk x (by simp[e])
  have hpx:=cM x
  have hlx:(dz k x (pat am x)).length+1<=eU (bw am k l):=by
   have h1:bw am k l=bw am k done++(dz k x (pat am x)::bw am k r):=by rw[e,sd,bw]
   rw[h1,wE,eU];omega
  have hbx:(pat am x).length+2<2^31:=by
   have:(pat am x).length<=(dz k x (pat am x)).length:=by unfold dz;split<;>simp;omega
   omega
  have hin:=wm k x hp hs hbx;rw[bw,eU] at hb2;rw[bw] at hR;have h1: [c].length=1:=rfl;generalize dz k x (pat am x)=w at*;generalize hxe:x.enc=xe at*
  by_cases h:done= []
  ·have h0:=hd0 h
   subst h h0;obtain rfl:n=0:=hn;rw[Ac rfl,w9] at hR;have hz:([]:B5).length=0:=rfl;have ih:=λT H ct=>rI k lo hi l hl hb hk c g1 r [x] w R T H ct 1 (by simpa using e) rfl (by simp at hb2;omega) (by rw[Aa (by simp)];exact hR) (by simp)
   obtain ⟨k2,lo2,hi2,l2⟩:=x;rw[bl] at hxe;subst hxe;refine evl ?_
   repeat' ((conv=>whnf);first|refine iG ?_|refine kV hin ?_ hpx|refine aq ?_|apply ae<;>intro h)
   refine au [72,1,3,4,70,71] [65] ?_;exact ih _ _ _
  ·rw[Aa h,jr] at hR
   have hp:(0:Int)<n:=by
    have:done.length≠0:=λq=>h (AD q)
    omega
   have h2:(acc++[c]).length=acc.length+1:=by simp
   have ih:=λT H ct=>rI k lo hi l hl hb hk c g1 r (done++[x]) (acc++[c]++w) R T H ct (n+1) (by simp[e]) (by simp[hn]) (by simp;omega) (by rw[Aa (by simp),hR];simp) (by simp)
   obtain ⟨k2,lo2,hi2,l2⟩:=x;rw[bl] at hxe;subst hxe;refine evl ?_
   repeat' ((conv=>whnf);first|refine iG ?_|refine kV hin ?_ hpx|refine aq ?_|apply ae<;>intro h)
   refine au [72,1,3,4,70,71] [65] ?_;exact ih _ _ _
theorem ad2 (k lo hi:Int)(l:C7)(hn:bq k lo hi l.length=true)(hl:l.length<2^40)(hb:eU (bw am k l)<2^30)(hk: ∀y∈l,ShG y/\Sml y):ShG (.mk k lo hi l):=by
 have hll:=ml l Rx.enc;unfold ShG;rw[bl,pat];have hL:=λc R T H ct g1=>rI k lo hi l hl hb hk c g1 l [] [] R T H ct 0 rfl rfl (by simp;omega)
 unfold bq at hn
 by_cases k1:k=1
 ·rw[Ac k1] at hn
  obtain ⟨q1,q2,q3,q4⟩:=of_decide_eq_true hn;subst k1;have d1:=tg lo q1 (by omega)
  have d2:=tg hi (by omega) q3
  have i1:=itoa_len (a:=lo) q1 (by omega)
  have i2:=itoa_len (a:=hi) (by omega) q3
  by_cases e:lo=hi
  ·rw[show dL am 1 lo hi (bw am 1 l)=am lo from by unfold dL;rw[Aa (by omega),Ac rfl,Ac e]]
   generalize am lo=w1 at*;exact gvA (F:=m9)
  ·rw[show dL am 1 lo hi (bw am 1 l)=91::(am lo++45::(am hi++[93])) from by unfold dL;rw[Aa (by omega),Ac rfl,Aa e]]
   generalize am lo=w1 at*;generalize am hi=w2 at*;have z1:([91]:B5).length=1:=rfl;have z2:([45]:B5).length=1:=rfl;have z3:([93]:B5).length=1:=rfl;refine gvC (F:=m9) ?_
   repeat' ((conv=>whnf);first|refine iG ?_|refine aq ?_|apply ae<;>intro h)
   refine ap ?_;simp
 rw[Aa k1,At] at hn;obtain ⟨hz,hn⟩:=hn;obtain ⟨rfl,rfl⟩:=of_decide_eq_true hz
 by_cases k0:k=0
 ·subst k0
  exact gvA (F:=m9)
 by_cases k2:k=2
 ·subst k2
  exact gvA (F:=m9)
 rw[Aa (by omega)] at hn
 by_cases k3:k=3
 ·subst k3
  rw[show dL am 3 0 0 (bw am 3 l)=dl 32 (bw am 3 l) from rfl]
  refine gvB (F:=m9) ?_;refine au [72,1,3,4,70,71] [65] ?_;rw[hll];exact hL 32 _ _ _ _ _ (by rw[Ac rfl]) (λ_=>rfl)
 rw[Aa k3] at hn
 by_cases k4:k=4
 ·subst k4
  by_cases hz:l= []
  ·subst hz
   have z0:([]:C7).length=0:=rfl;exact gvA (F:=m9)
  ·have hpz:l.length≠0:=λq=>hz (AD q)
   have hq:bw am 4 l≠ []:=λq=>by
    have:(bw am 4 l).length=l.length:=o4 l;rw[q] at this;exact hpz this.symm
   rw[show dL am 4 0 0 (bw am 4 l)=dl 124 (bw am 4 l) from by unfold dL;rw[Aa (by omega),Aa (by omega),Aa (by omega),Aa (by omega),Ac rfl,Aa (by cases hh:bw am 4 l<;>simp_all)]]
   refine gvB (F:=m9) ?_;refine au [72,1,3,4,70,71] [65] ?_;rw[hll];exact hL 124 _ _ _ _ _ (by rw[Ac rfl]) (λ_=>rfl)
 rw[Aa k4] at hn
 by_cases k5:5<=k/\k<=7
 ·rw[Ac k5] at hn
  have hn:=of_decide_eq_true hn
  obtain ⟨y,rfl⟩: ∃y,l= [y]:=by
   match l,hn with
   | [y],_=>exact ⟨y,rfl⟩
  obtain ⟨hp,hs⟩:=hk y (by simp)
  have hpx:=cM y;have hpl:bw am k [y]= [dz k y (pat am y)]:=by rw[bw,bw]
  rw[hpl] at hb⊢;simp only[eU] at hb
  have hbx:(pat am y).length+2<2^31:=by
   have:(pat am y).length<=(dz k y (pat am y)).length:=by unfold dz;split<;>simp;omega
   omega
  have hin:=wm k y hp hs hbx;clear hL;have z1:([y].map Rx.enc).length=1:=rfl;have z2:([42]:B5).length=1:=rfl;have z3:([43]:B5).length=1:=rfl;have z4:([63]:B5).length=1:=rfl;generalize dz k y (pat am y)=p at*;have hx:([y].map Rx.enc)[(0:Int).toNat]? =some y.enc:=rfl;simp only[An,A6] at hx z1⊢;generalize hxe:y.enc=xe at*;obtain ⟨k2,lo2,hi2,l2⟩:=y;rw[bl] at hxe;subst hxe;rcases (by omega:k=5∨k=6∨k=7) with rfl|rfl|rfl
  ·rw[show dL am 5 0 0 [p]=p++[42] from rfl]
   refine gvC (F:=m9) ?_
   repeat' ((conv=>whnf);first|refine iG ?_|refine kV hin ?_ hpx|refine aq ?_|apply ae<;>intro h)
   refine ap ?_;rfl
  ·rw[show dL am 6 0 0 [p]=p++[43] from rfl]
   refine gvC (F:=m9) ?_
   repeat' ((conv=>whnf);first|refine iG ?_|refine kV hin ?_ hpx|refine aq ?_|apply ae<;>intro h)
   refine ap ?_;rfl
  ·rw[show dL am 7 0 0 [p]=p++[63] from rfl]
   refine gvC (F:=m9) ?_
   repeat' ((conv=>whnf);first|refine iG ?_|refine kV hin ?_ hpx|refine aq ?_|apply ae<;>intro h)
   refine ap ?_;rfl
 ·rw[Aa k5] at hn;cases hn
mutual
theorem Tu: ∀(x:Rx){lv c c':Nat},Sml x->chk x lv c=some c'->ShG x
 | .mk k lo hi l,lv,c,c',hs,h=>by
  have hc':=uM h;rw[chk] at h;split at h
  ·cases h
  ·split at h
   ·cases h
   ·split at h
    ·rename_i hn
     have h1:=qi k l h;have h2:=Nv l hs.kid h;exact ad2 k lo hi l hn hs.len (by omega) h2
    ·cases h
theorem Nv: ∀(l:C7){lv c c':Nat},(∀x∈l,Sml x)->i6 l lv c=some c'-> ∀y∈l,ShG y/\Sml y
 | [],_,_,_,_,_=>λy hy=>by simp at hy
 |x::r,lv,c,c',hs,h=>λy hy=>by
  rw[i6] at h;split at h
  ·rename_i c1 h1
   have h2:=Tu x (hs x (by simp)) h1
   rcases AI.1 hy with q|q
   ·rw[q];exact ⟨h2,hs x (by simp)⟩
   ·exact Nv r (λz hz=>hs z (by simp[hz])) h y q
  ·cases h
end
theorem AX (x:Rx)(hs:Sml x): ∃(w:B5)(e:Int),ag G0 580 [.agg x.enc] [] ⟨.tup [.str w,.int .i64 e],[]⟩/\(e=0↔ (chk x 1 0).isSome=true)/\(e=0->w=pat am x):=by
 obtain ⟨e,g1,h1⟩:=Cq x hs;have hpx:=cM x
 by_cases h0:e=0
 ·subst h0
  have h2:(chk x 1 0).isSome=true:=h1.1 rfl;obtain ⟨c',hc⟩:=A8.1 h2;have g2:=Tu x hs hc;unfold ShG at g2;refine ⟨pat am x,0,?_,by simp[h2],λ_=>rfl⟩
  generalize pat am x=w at*;generalize hxe:x.enc=xe at*;obtain ⟨k,lo,hi,l⟩:=x;rw[bl] at hxe;subst hxe;refine gvC (F:=RC) ?_
  repeat' ((conv=>whnf);first|refine kV g2 ?_ hpx|refine aq ?_|apply ae<;>intro h)
  refine ap ?_;rfl
 ·refine ⟨[],e,?_,h1,λq=>absurd q h0⟩
  generalize hxe:x.enc=xe at*;obtain ⟨k,lo,hi,l⟩:=x;rw[bl] at hxe;subst hxe;exact gvA (F:=RC)
def WA:AV->Option B6
 | .ifc _ _=>some [rx0.enc,[.int .i64 2]]
 |_=>none
theorem Mh (s:B5)(hs:s.length<2^32): ∃A caps,YT.pre G0 [.str s] []=some A/\bI A.tm D0= .fn 578 caps/\caps.length=2/\Ev G0 (YT.cfg WA A 0) (rQ (rf s)):=by
 refine ⟨_,_,rfl,rfl,rfl,?_⟩;have h1:=uZ s hs 33 0 (by omega) (by omega) 0 (by omega)
 have hp:=rB hs (mH s) 33;unfold rf;cases ha:dj s (gH s) 33 0 with
 |none=>
  rw[ha] at h1;obtain ⟨m,h1⟩:=h1;refine wk3 ?_
  repeat' (first|refine aW ?_|apply ae<;>intro h)
  (conv=>whnf)
  refine CallG.stop ?_;refine aH 579 h1 (λQ hr hg=>?_)
  refine kX1 75 rfl hg ?_ (hE:=by rw[hr];rfl)
  rfl
 |some p=>
  obtain ⟨x,m⟩:=p;rw[ha] at h1;obtain ⟨_,_,hx⟩:=hp 0 x m (by omega) ha
  obtain ⟨w,e,g2,h2,h3⟩:=AX x hx;have hpx:=cM x;dsimp only;simp only[jQ] at h1
  by_cases hq:(chk x 1 0).isSome=true/\pat am x=s
  ·rw[Ac hq]
   obtain rfl:e=0:=h2.2 hq.1;obtain rfl:w=s:=by rw[h3 rfl,hq.2]
   unfold rQ;generalize hxe:x.enc=xe at*;obtain ⟨k,lo,hi,l⟩:=x;rw[bl] at hxe;subst hxe;refine wk3 ?_
   repeat' ((conv=>whnf);first|refine WC ?_|refine aq ?_|refine kX1 75 rfl (h1) ?_|apply ae<;>intro h)
   refine ap ?_
   repeat ((conv=>whnf);refine Go.AM.finC ?_)
   dsimp only;rw[bl]
  ·rw[Aa hq]
   by_cases h0:e=0
   ·subst h0
    have hw: ¬w=s:=λq=>hq ⟨h2.1 rfl,by rw[<-h3 rfl,q]⟩
    generalize hxe:x.enc=xe at*;obtain ⟨k,lo,hi,l⟩:=x;rw[bl] at hxe;subst hxe;refine wk3 ?_
    repeat' ((conv=>whnf);first|refine O6 hw ?_|refine aq ?_|refine kX1 75 rfl (h1) ?_|apply ae<;>intro h)
    refine jN ?_;rfl
   ·generalize hxe:x.enc=xe at*
    obtain ⟨k,lo,hi,l⟩:=x;rw[bl] at hxe;subst hxe;refine wk3 ?_
    repeat' (first|refine aW ?_|refine kX1 75 rfl (h1) ?_|apply ae<;>intro h)
    refine jN ?_;rfl
end Go.AM.IR
