/- What functions of this program give. -/
import Derived.Test.YtomphmeopjpejaaGreatDoorDataC
set_option linter.unusedSectionVars false
set_option linter.unusedVariables false
set_option linter.unusedSimpArgs false
set_option maxHeartbeats 4000000
set_option maxRecDepth 20000
namespace Go.AM.IR
section
variable (s:CF)
def pnR (m:Nat):Ret:=⟨pnV (.ifc 129 (.agg [])),[(true,.cells [.str s,.int .i64 (m:Int)])]⟩
def pk (n:Nat):UInt8:=s[n]?.getD 0
theorem gz {s:CF}{n:Nat}{c:UInt8}(hc:c≠0):chr s n c=decide (pk s n=c):=by
 unfold chr pk;cases h:s[n]? with
 |none=>simp[Ne.symm hc]
 |some b=>simp only[Option.getD_some];by_cases e:b=c<;>simp[e]
section
variable (hs:s.length<2^40)(n:Nat)(hn:n<=s.length)
include hs hn
theorem gy:ab G0 625 [.ref 0 0 0] [.cells [.str s,.int .i64 (n:Int)]] (rpR s (.int .u8 ((pk s n).toNat:Int)) n):=by
 by_cases h:n<s.length
 ·have hb:s[((n:Nat):Int).toNat]? =some s[n]:=by simp[h]
  have hp:pk s n=s[n]:=by simp[pk,h]
  rw[hp];generalize s[n]=b at*;have hbl:=b.toNat_lt;refine gvC (F:=Sc) ?_
  repeat' (first|refine bz ?_|apply ae<;>intro h)
  refine fX1 ?_;rfl
 ·have hp:pk s n=0:=by simp[pk,AD (show s.length<=n by omega)]
  rw[hp];refine gvB (F:=Sc) ?_;refine fX1 ?_;rfl
theorem oL (c:UInt8)(hc:c≠0):ab G0 658 [.ref 0 0 0,.int .u8 (c.toNat:Int)] [.cells [.str s,.int .i64 (n:Int)]] (if chr s n c then rpR s (.tup []) (n+1) else pnR s n):=by
 have h1:=gy s hs n hn;rw[gz hc];generalize pk s n=b at*
 by_cases e:b=c
 ·subst e
  rw[Al rfl,Ad rfl];have z: ∀{kv:AV->Prop},kv (.bool false)-> ∃v,bp .neq (.int .u8 (b.toNat:Int)) (.int .u8 (b.toNat:Int))=some v/\kv v:=λh=>⟨.bool false,by simp[bp],h⟩
  refine gvC (F:=R0) ?_
  repeat' ((conv=>whnf);first|refine z ?_|refine ay ?_|refine kX1 0 rfl (h1) ?_|apply ae<;>intro h)
  refine fX1 ?_;rfl
 ·have e2: ¬(b.toNat:Int)=(c.toNat:Int):=λq=>e (A9.1 (by omega))
  rw[An e,Ac (by simp)]
  have z: ∀{kv:AV->Prop},kv (.bool true)-> ∃v,bp .neq (.int .u8 (b.toNat:Int)) (.int .u8 (c.toNat:Int))=some v/\kv v:=λh=>⟨.bool true,by simp[bp,e2],h⟩
  refine gvC (F:=R0) ?_
  repeat' ((conv=>whnf);first|refine z ?_|refine ay ?_|refine kX1 0 rfl (h1) ?_|apply ae<;>intro h)
  refine jO ?_;rfl
end
def mC (t:CF):Bool:= !t.isEmpty&& !(decide (1<t.length)&&(t.head?==some 48))
theorem idxA {s done rest:CF}{x:UInt8}{n:Int}(e:s=done++x::rest)(hn:n=done.length):s[n.toNat]? =some x:=by
 rw[e,hn];simp
theorem qd (s:CF)(hs:s.length<2^40)(hd: ∀c∈s,isD c=true): ∀(rest done:CF)(T:TV)(H:aq)(c:Nat)(n:Int)(e:s=done++rest)(hn:n=done.length),
  Ev G0 ⟨JZ,⟨(18,.int .i64 n)::(0,.str s)::(17,.int .i64 s.length)::T,H,c⟩,[.t 2],0⟩ ⟨.bool true,[]⟩
 | [],done,T,H,c,n,e,hn=>by
  have hl:=md0 e;refine evA ?_;refine au ?_;rfl
 |x::rest,done,T,H,c,n,e,hn=>by
  have hl:=md e;have hb:=idxA e hn
  have hx:48<=x.toNat/\x.toNat<=57:=by
   have:=hd x (by simp[e])
   simpa[isD] using this
  have ih:=λT H c=>qd s hs hd rest (done++[x]) T H c (n+1) (by simp[e]) (by simp[hn])
  refine evl ?_
  repeat' (first|refine bz ?_|apply ae<;>intro h)
  refine ag [18,0,17] [] ?_;exact ih _ _ _
theorem Lk (hs:s.length<2^40)(hd: ∀c∈s,isD c=true):ab G0 347 [.str s] [] ⟨.bool (mC s),[]⟩:=by
 cases s with
 |nil=>
  have z: ∀{kv:AV->Prop},kv (.bool true)-> ∃v,bp .eql (.str []) (.str [])=some v/\kv v:=λh=>⟨_,rfl,h⟩
  refine gvC (F:=oG) ?_
  repeat' ((conv=>whnf);first|refine z ?_|refine ay ?_|apply ae<;>intro h)
  refine au ?_;rfl
 |cons b r=>
  have z: ∀{kv:AV->Prop},kv (.bool false)-> ∃v,bp .eql (.str (b::r)) (.str [])=some v/\kv v:=λh=>⟨_,rfl,h⟩
  have hb:(b::r)[(0:Int).toNat]? =some b:=rfl;have hl:(b::r).length=r.length+1:=rfl;cases r with
  |nil=>
   rw[show mC [b]=true from by simp[mC]]
   refine gvC (F:=oG) ?_
   repeat' ((conv=>whnf);first|refine z ?_|refine ay ?_|apply ae<;>intro h)
   refine ag [18,0,17] [] ?_;exact qd [b] hs hd [b] [] _ _ _ 0 rfl rfl
  |cons d q=>
   have hl2:(b::d::q).length=q.length+2:=rfl
   by_cases hz:b=48
   ·subst hz
    rw[show mC (48::d::q)=false from by simp[mC]]
    refine gvC (F:=oG) ?_
    repeat' ((conv=>whnf);first|refine z ?_|refine zIstr (b:=48) ?_ hb (by omega)|refine ay ?_|apply ae<;>intro h)
    refine au ?_;rfl
   ·have hz2: ¬(b.toNat:Int)=48:=by
     intro e;apply hz;apply A9.1
     show b.toNat=48
     omega
    rw[show mC (b::d::q)=true from by simp[mC,hz]]
    refine gvC (F:=oG) ?_
    repeat' ((conv=>whnf);first|refine z ?_|refine zIstr (b:=b) ?_ hb (by omega)|refine ay ?_|apply ae<;>intro h)
    refine ag [18,0,17] [] ?_;exact qd (b::d::q) hs hd (b::d::q) [] _ _ _ 0 rfl rfl
def nuR (v e:Int):Ret:=⟨.tup [.int .i64 v,.int .i64 e],[]⟩
theorem yb (s:CF)(hs:s.length<2^40)(hd: ∀c∈s,isD c=true): ∀(rest done:CF)(a:Int)(T:TV)(H:aq)(c:Nat)(n:Int)(e:s=done++rest)(hn:n=done.length)(h0:0<=a)(ha:a<=9223372036854775807),
  Ev G0 ⟨DB,⟨(14,.int .i64 n)::(6,.int .i64 a)::(0,.str s)::(1,.int .i64 4294967295)::(13,.int .i64 s.length)::T,H,c⟩,[.t 4,.t 5],0⟩ (if 4294967295<dY a rest then nuR 0 5 else nuR (dY a rest) 0)
 | [],done,a,T,H,c,n,e,hn,h0,ha=>by
  have hl:=md0 e;have hv:dY a []=a:=rfl;rw[hv]
  by_cases hm:4294967295<a
  ·rw[Ad hm]
   refine evA ?_;refine au ?_;rfl
  ·rw[Ac hm]
   refine evA ?_;refine au ?_;rfl
 |x::rest,done,a,T,H,c,n,e,hn,h0,ha=>by
  have hl:=md e;have hb:=idxA e hn;have hdx:=hd x (by simp[e])
  have hx:48<=x.toNat/\x.toNat<=57:=by simpa[isD] using hdx
  have hv:=uG hdx;have h3:dY a (x::rest)=dY (10*a+gN x) rest:=rfl;have h4:=zl rest (10*a+gN x) (by omega) (λy hy=>hd y (by simp[e,hy]))
  rw[h3]
  by_cases ho:a>(9223372036854775807-gN x)/ 10
  ·rw[Ad (by omega)]
   refine evl ?_
   repeat' ((conv=>whnf);first|refine zIstr ?_ hb (by omega)|refine FF ?_ hx.1|refine ay ?_|apply ae<;>intro h)
   refine au ?_;rfl
  ·have ih:=λT H c=>yb s hs hd rest (done++[x]) (10*a+gN x) T H c (n+1) (by simp[e]) (by simp[hn]) (by omega) (by omega)
   refine evl ?_
   repeat' ((conv=>whnf);first|refine zIstr ?_ hb (by omega)|refine FF ?_ hx.1|refine ay ?_|apply ae<;>intro h)
   refine ag [14,6,0,1,13] [] ?_;exact ih _ _ _
theorem Nr (hs:s.length<2^40)(hd: ∀c∈s,isD c=true):ab G0 346 [.str s,.int .i64 4294967295] [] (if mC s=true then (if 4294967295<dY 0 s then nuR 0 5 else nuR (dY 0 s) 0) else nuR 0 2):=by
 have hc:=Lk s hs hd;cases hq:mC s
 ·rw[hq] at hc
  rw[Ac (by simp)]
  exact gvA (F:=wM)
 ·rw[hq] at hc
  rw[Ad rfl];refine gvB (F:=wM) ?_;refine ag [14,6,0,1,13] [] ?_;exact yb s hs hd s [] 0 _ _ _ 0 rfl rfl (by omega) (by omega)
def Ae (n:Nat):Nat:=n+((s.drop n).takeWhile isD).length
def Jc (n:Nat):Option (Int×Nat)->Ret
 |some (a,m)=>rpR s (.int .i64 a) m
 |none=>pnR s (Ae s n)
theorem ael {s:CF}{n:Nat}:isD (pk s n)=true->n<s.length:=by
 intro h;rcases A4 n s.length with q|q
 ·exact q
 ·rw[pk,AD q] at h;simp[isD] at h
theorem ve (s:CF)(hs:s.length<2^40)(fr:Nat): ∀(f n:Nat)(done:CF)(T:TV)(H:aq)(c:Nat)(hf:n+f=s.length)(hd: ∀c∈done,isD c=true)(e:s.drop fr=done++s.drop n)(hn:n=fr+done.length),
  Ev G0 ⟨aai,⟨(0,.ref 0 0 0)::(3,.int .i64 (fr:Int))::T,(0,some (0,.cells [.str s,.int .i64 (n:Int)]))::H,c⟩,[.t 2],1⟩ (Jc s fr (gM s fr))
 |f,n,done,T,H,c,hf,hd,e,hn=>by
  have h1:=gy s hs n (by omega)
  by_cases hD:isD (pk s n)=true
  ·have hlt:=ael hD
   have hp:pk s n=s[n]:=by simp[pk,hlt]
   have e2:s.drop n=s[n]::s.drop (n+1):=List.drop_eq_getElem_cons hlt;rw[<-hp] at e2;have hD':=hD;obtain ⟨f',rfl⟩: ∃f',f=f'+1:=⟨f-1,by omega⟩
   have ih:=λT H c=>ve s hs fr f' (n+1) (done++[pk s n]) T H c (by omega) (λc hc=>by
    rcases B5.1 hc with hc|hc
    ·exact hd c hc
    ·rw[B6.1 hc];exact hD) (by rw[e,e2];simp) (by simp;omega)
   generalize pk s n=b at*;have hb:48<=b.toNat/\b.toNat<=57:=by simpa[isD] using hD'
   have hbl:=b.toNat_lt;refine evl ?_
   repeat' (first|refine aQ ?_|refine kX1 0 rfl (h1) ?_|apply ae<;>intro h)
   refine ag [0,3] [0] ?_;exact ih _ _ _
  ·have ht:(s.drop fr).takeWhile isD=done:=by
    rw[e];refine sg hd (λc hc=>?_)
    have:pk s n=c:=by
     have:s[n]? =some c:=by rw[<-hc,List.head?_drop]
     simp[pk,this]
    rw[<-this];simpa using hD
   have hm:Ae s fr=n:=by rw[Ae,ht,hn]
   have hle:fr<=n:=by omega
   have hsl:List.take (n-fr) (List.drop fr s)=done:=by
    rw[e,hn];simp
   have h2:ab G0 346 [.str (List.take (((n:Nat):Int).toNat- ((fr:Nat):Int).toNat) (List.drop ((fr:Nat):Int).toNat s)),.int .i64 4294967295] [] (if mC done=true then (if 4294967295<dY 0 done then nuR 0 5 else nuR (dY 0 done) 0) else nuR 0 2):=by
    have q:List.take (((n:Nat):Int).toNat- ((fr:Nat):Int).toNat) (List.drop ((fr:Nat):Int).toNat s)=done:=by simpa using hsl
    rw[q];exact Nr done (by rw[<-hsl];simp;omega) hd
   have hb: ¬(48<=(pk s n).toNat/\(pk s n).toNat<=57):=by simpa[isD] using hD
   have hbl:=(pk s n).toNat_lt
   have hpn:gM s fr=if mC done=true/\dY 0 done<=4294967295 then some (dY 0 done,n) else none:=by
    unfold gM;rw[ht];dsimp only;unfold mC
    by_cases a1:done= []
    ·simp[a1]
    by_cases a2:1<done.length/\done.head?=some 48
    ·simp[a1,a2]
    ·have hn':fr+done.length=n:=hn.symm
     simp only[Ac a1,Ac a2,hn']
     have a3:(!done.isEmpty&& !(decide (1<done.length)&&(done.head?==some 48)))=true:=by
      rw[Av];refine ⟨by simpa using a1,?_⟩
      simp only[Bool.not_eq_true',Bool.and_eq_false_iff,AR,beq_eq_false_iff_ne];rcases Decidable.em (1<done.length) with q|q
      ·exact .inr λw=>a2 ⟨q,w⟩
      ·exact .inl q
     simp only[a3]
     by_cases a4:4294967295<dY 0 done
     ·rw[Ad a4,Ac (by omega)]
     ·rw[Ac a4,Ad ⟨trivial,by omega⟩]
   rw[hpn]
   by_cases k1:mC done=true
   ·rw[Ad k1] at h2
    by_cases k2:4294967295<dY 0 done
    ·rw[Ad k2] at h2
     rw[Ac (by omega),Jc,hm]
     unfold nuR at h2;refine evl ?_
     repeat' (first|refine aQ ?_|refine kX1 0 rfl (h1) ?_|apply ae<;>intro h)
     all_goals try (exfalso;omega)
     all_goals (refine jO ?_;rfl)
    ·rw[Ac k2] at h2
     rw[Ad ⟨k1,by omega⟩,Jc]
     generalize dY 0 done=V at*;unfold nuR at h2;refine evl ?_
     repeat' (first|refine aQ ?_|refine kX1 0 rfl (h1) ?_|apply ae<;>intro h)
     all_goals try (exfalso;omega)
     all_goals
      refine fX1 ?_;rfl
   ·rw[Ac k1] at h2
    rw[Ac (λq=>k1 q.1),Jc,hm]
    unfold nuR at h2;refine evl ?_
    repeat' (first|refine aQ ?_|refine kX1 0 rfl (h1) ?_|apply ae<;>intro h)
    all_goals try (exfalso;omega)
    all_goals (refine jO ?_;rfl)
theorem ov (hs:s.length<2^40)(n:Nat)(hn:n<=s.length):ab G0 657 [.ref 0 0 0] [.cells [.str s,.int .i64 (n:Int)]] (Jc s n (gM s n)):=by
 refine gvB (F:=R5) ?_;refine ag [0,3] [0] ?_;exact ve s hs n (s.length-n) n [] _ _ _ (by omega) (λc h=>by cases h) (by simp) (by simp)
def jQ (f:Nat)(s:CF)(lv:Int)(n:Nat):D1->Prop
 |some (x,m)=>ab G0 f [.ref 0 0 0,.int .i64 lv] [.cells [.str s,.int .i64 (n:Int)]] (rpR s (.agg x.enc) m)
 |none=> ∃m,ab G0 f [.ref 0 0 0,.int .i64 lv] [.cells [.str s,.int .i64 (n:Int)]] (pnR s m)
theorem jU {s:CF}{n:Nat}{c:UInt8}(h:pk s n=c)(hc:c≠0):n<s.length:=by
 rcases A4 n s.length with q|q
 ·exact q
 ·rw[pk,AD q] at h;exact absurd h.symm hc
theorem kd {a b:UInt8}(h: ¬a=b): ¬(a.toNat:Int)=(b.toNat:Int):=λq=>h (A9.1 (by omega))
theorem FC (hs:s.length<2^40)(alt:PR)(lv:Int)(hl:lv<=32)(hl0:0<=lv)(hp:Pos s alt)(hA: ∀n,n<=s.length->jQ 579 s (lv+1) n (alt n))(n:Nat)(hn:n<=s.length):jQ 653 s lv n (dc s (gM s) alt n):=by
 have h1:=gy s hs n hn;have hbl:=(pk s n).toNat_lt;unfold dc;simp only[gz (show (46:UInt8)≠0 by decide),gz (show (33:UInt8)≠0 by decide),gz (show (40:UInt8)≠0 by decide),gz (show (41:UInt8)≠0 by decide),gz (show (91:UInt8)≠0 by decide),gz (show (93:UInt8)≠0 by decide),gz (show (45:UInt8)≠0 by decide),AO]
 by_cases c1:pk s n=46
 ·rw[Ad c1]
  have hlt:=jU c1 (by decide)
  rw[c1] at h1;show ab G0 653 _ _ (rpR s (.agg (Rx.mk 2 0 0 []).enc) (n+1))
  rw[e0];refine gvC (F:=kO) ?_
  repeat' (first|refine aQ ?_|refine kX1 0 rfl (h1) ?_|apply ae<;>intro h)
  refine db [] [(68,some (_,.cells ([.int .i64 2,.int .i64 0,.int .i64 0,.sl 4 []])))] trivial ⟨⟨rfl,leA⟩,trivial⟩ ?_;refine fX1 ?_;refine cp ?_;rfl
 rw[Ac c1];have d1: ¬((pk s n).toNat:Int)=46:=kd c1
 by_cases c2:pk s n=33
 ·rw[Ad c2]
  have hlt:=jU c2 (by decide)
  rw[c2] at h1;show ab G0 653 _ _ (rpR s (.agg (Rx.mk 4 0 0 []).enc) (n+1))
  rw[e0];refine gvC (F:=kO) ?_
  repeat' (first|refine aQ ?_|refine kX1 0 rfl (h1) ?_|apply ae<;>intro h)
  refine db [] [(68,some (_,.cells ([.int .i64 4,.int .i64 0,.int .i64 0,.sl 4 []])))] trivial ⟨⟨rfl,leA⟩,trivial⟩ ?_;refine fX1 ?_;refine cp ?_;rfl
 rw[Ac c2];have d2: ¬((pk s n).toNat:Int)=33:=kd c2
 by_cases c3:pk s n=40
 ·rw[Ad c3]
  have hlt:=jU c3 (by decide)
  rw[c3] at h1;have h2:=gy s hs (n+1) (by omega)
  have hbl2:=(pk s (n+1)).toNat_lt
  by_cases c4:pk s (n+1)=41
  ·rw[Ad c4]
   have hlt2:=jU c4 (by decide)
   rw[c4] at h2;show ab G0 653 _ _ (rpR s (.agg (Rx.mk 0 0 0 []).enc) (n+1+1))
   rw[e0];refine gvC (F:=kO) ?_
   repeat' (first|refine aQ ?_|refine kX1 0 rfl (h1) ?_|refine kX1 0 rfl (h2) ?_|apply ae<;>intro h)
   refine db [] [(68,some (_,.cells ([.int .i64 0,.int .i64 0,.int .i64 0,.sl 4 []])))] trivial ⟨⟨rfl,leA⟩,trivial⟩ ?_;refine fX1 ?_;refine cp ?_;rfl
  rw[Ac c4];have d4: ¬((pk s (n+1)).toNat:Int)=41:=kd c4;have hq:=hA (n+1) (by omega)
  cases ha:alt (n+1) with
  |none=>
   rw[ha] at hq;obtain ⟨m,hq⟩:=hq;refine ⟨m,?_⟩;generalize pk s (n+1)=b2 at*;refine gvC (F:=kO) ?_
   repeat' (first|refine aQ ?_|refine kX1 0 rfl (h1) ?_|refine kX1 0 rfl (h2) ?_|apply ae<;>intro h)
   (conv=>whnf)
   refine CallG.stop ?_;refine aE 579 hq (λQ hr hg=>?_)
   refine kX1 0 rfl hg ?_ (hE:=by rw[hr];rfl)
   rfl
  |some q=>
   obtain ⟨x,m⟩:=q;rw[ha] at hq;obtain ⟨p1,p2,p3⟩:=hp (n+1) x m (by omega) ha
   have h3:=oL s hs m p2 41 (by decide)
   obtain ⟨k,lo,hi,l⟩:=x
   change ab G0 579 _ _ (rpR s (.agg (Rx.mk k lo hi l).enc) m) at hq
   rw[bi] at hq;rw[gz (show (41:UInt8)≠0 by decide)] at h3
   generalize pk s (n+1)=b2 at*;dsimp only
   by_cases c5:pk s m=41
   ·have hlt3:=jU c5 (by decide)
    rw[Ad c5];rw[Ad (by simpa using c5)] at h3
    show ab G0 653 _ _ (rpR s (.agg (Rx.mk k lo hi l).enc) (m+1))
    rw[bi];refine gvC (F:=kO) ?_
    repeat' (first|refine aQ ?_|refine kX1 0 rfl (h1) ?_|refine kX1 0 rfl (h2) ?_|refine kX1 0 rfl (hq) ?_|refine kX1 0 rfl (h3) ?_|apply ae<;>intro h)
    refine fX1 ?_;refine cp ?_;rfl
   ·rw[Ac c5]
    rw[Ac (by simpa using c5)] at h3
    refine ⟨m,?_⟩;refine gvC (F:=kO) ?_
    repeat' (first|refine aQ ?_|refine kX1 0 rfl (h1) ?_|refine kX1 0 rfl (h2) ?_|refine kX1 0 rfl (hq) ?_|apply ae<;>intro h)
    (conv=>whnf)
    refine CallG.stop ?_;refine aE 658 h3 (λQ hr hg=>?_)
    refine kX1 0 rfl hg ?_ (hE:=by rw[hr];rfl)
    rfl
 rw[Ac c3];have d3: ¬((pk s n).toNat:Int)=40:=kd c3
 by_cases c6:pk s n=91
 ·rw[Ad c6]
  have hlt:=jU c6 (by decide)
  rw[c6] at h1;have h2:=ov s hs (n+1) (by omega)
  cases ha:gM s (n+1) with
  |none=>
   rw[ha] at h2;refine ⟨Ae s (n+1),?_⟩;refine gvC (F:=kO) ?_
   repeat' (first|refine aQ ?_|refine kX1 0 rfl (h1) ?_|apply ae<;>intro h)
   (conv=>whnf)
   refine CallG.stop ?_;refine aE 657 h2 (λQ hr hg=>?_)
   refine kX1 0 rfl hg ?_ (hE:=by rw[hr];rfl)
   rfl
  |some q=>
   obtain ⟨a,m⟩:=q;rw[ha] at h2;obtain ⟨p1,p2⟩:=mc s (n+1) a m (by omega) ha
   have h3:=oL s hs m p2 45 (by decide)
   rw[gz (show (45:UInt8)≠0 by decide)] at h3
   dsimp only
   change ab G0 657 _ _ (rpR s (.int .i64 a) m) at h2
   by_cases c7:pk s m=45
   ·have hlt3:=jU c7 (by decide)
    rw[Ad c7];rw[Ad (by simpa using c7)] at h3
    have h4:=ov s hs (m+1) (by omega)
    cases hb:gM s (m+1) with
    |none=>
     rw[hb] at h4;refine ⟨Ae s (m+1),?_⟩;refine gvC (F:=kO) ?_
     repeat' (first|refine aQ ?_|refine kX1 0 rfl (h1) ?_|refine kX1 0 rfl (h2) ?_|refine kX1 0 rfl (h3) ?_|apply ae<;>intro h)
     (conv=>whnf)
     refine CallG.stop ?_;refine aE 657 h4 (λQ hr hg=>?_)
     refine kX1 0 rfl hg ?_ (hE:=by rw[hr];rfl)
     rfl
    |some q=>
     obtain ⟨b,k⟩:=q;rw[hb] at h4;obtain ⟨q1,q2⟩:=mc s (m+1) b k (by omega) hb
     have h5:=oL s hs k q2 93 (by decide)
     rw[gz (show (93:UInt8)≠0 by decide)] at h5
     dsimp only
     change ab G0 657 _ _ (rpR s (.int .i64 b) k) at h4
     by_cases c8:pk s k=93
     ·have hlt4:=jU c8 (by decide)
      rw[Ad c8];rw[Ad (by simpa using c8)] at h5
      show ab G0 653 _ _ (rpR s (.agg (Rx.mk 1 a b []).enc) (k+1))
      rw[e0];refine gvC (F:=kO) ?_
      repeat' (first|refine aQ ?_|refine kX1 0 rfl (h1) ?_|refine kX1 0 rfl (h2) ?_|refine kX1 0 rfl (h3) ?_|refine kX1 0 rfl (h4) ?_|refine kX1 0 rfl (h5) ?_|apply ae<;>intro h)
      refine db [] [(68,some (_,.cells ([.int .i64 1,.int .i64 a,.int .i64 b,.sl 4 []])))] trivial ⟨⟨rfl,leA⟩,trivial⟩ ?_;refine fX1 ?_;refine cp ?_;rfl
     ·rw[Ac c8]
      rw[Ac (by simpa using c8)] at h5
      refine ⟨k,?_⟩;refine gvC (F:=kO) ?_
      repeat' (first|refine aQ ?_|refine kX1 0 rfl (h1) ?_|refine kX1 0 rfl (h2) ?_|refine kX1 0 rfl (h3) ?_|refine kX1 0 rfl (h4) ?_|apply ae<;>intro h)
      (conv=>whnf)
      refine CallG.stop ?_;refine aE 658 h5 (λQ hr hg=>?_)
      refine kX1 0 rfl hg ?_ (hE:=by rw[hr];rfl)
      rfl
   ·rw[Ac c7]
    rw[Ac (by simpa using c7)] at h3
    refine ⟨m,?_⟩;refine gvC (F:=kO) ?_
    repeat' (first|refine aQ ?_|refine kX1 0 rfl (h1) ?_|refine kX1 0 rfl (h2) ?_|apply ae<;>intro h)
    (conv=>whnf)
    refine CallG.stop ?_;refine aE 658 h3 (λQ hr hg=>?_)
    refine kX1 0 rfl hg ?_ (hE:=by rw[hr];rfl)
    rfl
 rw[Ac c6];have d6: ¬((pk s n).toNat:Int)=91:=kd c6;have h2:=ov s hs n hn;generalize pk s n=b1 at*;cases ha:gM s n with
 |none=>
  rw[ha] at h2;refine ⟨Ae s n,?_⟩;refine gvC (F:=kO) ?_
  repeat' (first|refine aQ ?_|refine kX1 0 rfl (h1) ?_|apply ae<;>intro h)
  (conv=>whnf)
  refine CallG.stop ?_;refine aE 657 h2 (λQ hr hg=>?_)
  refine kX1 0 rfl hg ?_ (hE:=by rw[hr];rfl)
  rfl
 |some q=>
  obtain ⟨a,m⟩:=q;rw[ha] at h2;obtain ⟨p1,p2⟩:=mc s n a m hn ha;dsimp only
  change ab G0 657 _ _ (rpR s (.int .i64 a) m) at h2
  show ab G0 653 _ _ (rpR s (.agg (Rx.mk 1 a a []).enc) (m))
  rw[e0];refine gvC (F:=kO) ?_
  repeat' (first|refine aQ ?_|refine kX1 0 rfl (h1) ?_|refine kX1 0 rfl (h2) ?_|apply ae<;>intro h)
  refine db [] [(68,some (_,.cells ([.int .i64 1,.int .i64 a,.int .i64 a,.sl 4 []])))] trivial ⟨⟨rfl,leA⟩,trivial⟩ ?_;refine fX1 ?_;refine cp ?_;rfl
theorem Fe (hs:s.length<2^40)(atom:PR)(lv:Int)(hp:Pos s atom)(n:Nat)(hn:n<=s.length)(hA:jQ 653 s lv n (atom n)):jQ 646 s lv n (fc s atom n):=by
 unfold fc;cases ha:atom n with
 |none=>
  rw[ha] at hA;obtain ⟨m,hq⟩:=hA;refine ⟨m,?_⟩;refine gvB (F:=wy) ?_
  (conv=>whnf)
  refine CallG.stop ?_;refine aE 653 hq (λQ hr hg=>?_)
  refine kX1 0 rfl hg ?_ (hE:=by rw[hr];rfl)
  rfl
 |some q=>
  obtain ⟨x,m⟩:=q;rw[ha] at hA;obtain ⟨p1,p2,p3⟩:=hp n x m hn ha;have h2:=gy s hs m p2;have hbl:=(pk s m).toNat_lt;obtain ⟨k,lo,hi,l⟩:=x
  change ab G0 653 _ _ (rpR s (.agg (Rx.mk k lo hi l).enc) m) at hA
  rw[bi] at hA;dsimp only;simp only[gz (show (42:UInt8)≠0 by decide),gz (show (43:UInt8)≠0 by decide),gz (show (63:UInt8)≠0 by decide),AO]
  by_cases c0:pk s m=42
  ·rw[Ad c0]
   have hlt:=jU c0 (by decide)
   rw[c0] at h2;show ab G0 646 _ _ (rpR s (.agg (Rx.mk 5 0 0 [Rx.mk k lo hi l]).enc) (m+1))
   rw[bi,Ao,Bd,bi];refine gvC (F:=wy) ?_
   repeat' (first|refine aQ ?_|refine kX1 0 rfl (hA) ?_|refine kX1 0 rfl (h2) ?_|apply ae<;>intro h)
   refine uD [(92,_,_)] [4] [68] [0] ⟨rfl,frP,trivial⟩ ?_;repeat ((conv=>whnf);first|refine frA ?_|intro T H)
   refine fX1 ?_;refine cp ?_;rfl
  rw[Ac c0];have d0: ¬((pk s m).toNat:Int)=42:=kd c0
  by_cases c1:pk s m=43
  ·rw[Ad c1]
   have hlt:=jU c1 (by decide)
   rw[c1] at h2;show ab G0 646 _ _ (rpR s (.agg (Rx.mk 6 0 0 [Rx.mk k lo hi l]).enc) (m+1))
   rw[bi,Ao,Bd,bi];refine gvC (F:=wy) ?_
   repeat' (first|refine aQ ?_|refine kX1 0 rfl (hA) ?_|refine kX1 0 rfl (h2) ?_|apply ae<;>intro h)
   refine uD [(92,_,_)] [4] [68] [0] ⟨rfl,frP,trivial⟩ ?_;repeat ((conv=>whnf);first|refine frA ?_|intro T H)
   refine fX1 ?_;refine cp ?_;rfl
  rw[Ac c1];have d1: ¬((pk s m).toNat:Int)=43:=kd c1
  by_cases c2:pk s m=63
  ·rw[Ad c2]
   have hlt:=jU c2 (by decide)
   rw[c2] at h2;show ab G0 646 _ _ (rpR s (.agg (Rx.mk 7 0 0 [Rx.mk k lo hi l]).enc) (m+1))
   rw[bi,Ao,Bd,bi];refine gvC (F:=wy) ?_
   repeat' (first|refine aQ ?_|refine kX1 0 rfl (hA) ?_|refine kX1 0 rfl (h2) ?_|apply ae<;>intro h)
   refine uD [(92,_,_)] [4] [68] [0] ⟨rfl,frP,trivial⟩ ?_;repeat ((conv=>whnf);first|refine frA ?_|intro T H)
   refine fX1 ?_;refine cp ?_;rfl
  rw[Ac c2];have d2: ¬((pk s m).toNat:Int)=63:=kd c2;show ab G0 646 _ _ (rpR s (.agg (Rx.mk k lo hi l).enc) m)
  rw[bi];generalize pk s m=b1 at*;refine gvC (F:=wy) ?_
  repeat' (first|refine aQ ?_|refine kX1 0 rfl (hA) ?_|refine kX1 0 rfl (h2) ?_|apply ae<;>intro h)
  refine fX1 ?_;refine cp ?_;rfl
def Yt:D1->Ret->Prop
 |some (x,m),t=>t=rpR s (.agg x.enc) m
 |none,t=> ∃m,t=pnR s m
end
section
variable {s:CF}{item:PR}{c:UInt8}{f:Nat}{acc:Do}{n:Nat}
theorem OG {s:CF}{lv:Int}{n:Nat}{o:D1}{t:Ret}(h:Yt s o t)(g:ab G0 f [.ref 0 0 0,.int .i64 lv] [.cells [.str s,.int .i64 (n:Int)]] t):jQ f s lv n o:=by
 cases o with
 |none=>obtain ⟨m,rfl⟩:=h;exact ⟨m,g⟩
 |some p=>obtain ⟨x,m⟩:=p;obtain rfl:t=_:=h;exact g
def KR (s:CF)(item:PR)(c:UInt8)(f:Nat)(acc:Do)(m:Nat):Option (Do×Nat):=if chr s m c then fk s item c f acc (m+1) else some (acc,m)
theorem qJ {x:Rx}{m:Nat}(h:item n=some (x,m)):fk s item c (f+1) acc n=KR s item c f (acc++[x]) m:=by
 rw[fk,h];rfl
theorem qI (h:item n=none):fk s item c (f+1) acc n=none:=by
 rw[fk,h]
end
theorem xx (s:CF)(hs:s.length<2^32)(item:PR)(lv:Int)(hp:Pos s item)(hA: ∀n,n<=s.length->jQ 646 s lv n (item n)): ∀(f:Nat)(acc:Do)(m:Nat)(hf:s.length<f+(m+1))(hm:m<=s.length)(hne:acc≠ [])(hac:acc.length+f<=s.length+1),∃t,Yt s (iu 3 (KR s item 32 f acc m)) t/\ ∀(T:TV)(H:aq)(c g g4:Nat)(es:CS)(k:Nat)(hes:es=acc.map Rx.enc)(hk:k=acc.length),Ev G0 ⟨aan,⟨(1,.int .i64 lv)::(0,.ref 0 0 0)::(5,.vs 89 g k)::(4,.ref 68 g4 0)::T,(0,some (0,.cells [.str s,.int .i64 (m:Int)]))::(68,some (g4,.cells [.int .i64 0,.int .i64 0,.int .i64 0,.con (.slice none 0 0)]))::(89,some (g,.vec 4 es))::H,c⟩,[.cell 4 (some 4)],1⟩ t
 |f,acc,m,hf,hm,hne,hac=>by
  have h1:=gy s (by omega) m hm
  have hbl:=(pk s m).toNat_lt;have hl:=ml acc Rx.enc;unfold KR;simp only[gz (show (32:UInt8)≠0 by decide),AO]
  by_cases c1:pk s m=32
  ·rw[Ad c1]
   rw[c1] at h1;have hlt:=jU c1 (by decide)
   have hq:=hA (m+1) (by omega)
   obtain ⟨f',rfl⟩: ∃f',f=f'+1:=⟨f-1,by omega⟩
   cases ha:item (m+1) with
   |none=>
    rw[ha] at hq;obtain ⟨m',hq⟩:=hq;rw[qI ha];refine ⟨_,⟨m',rfl⟩,λT H c g g4 es k hes hk=>?_⟩
    subst hes hk;refine evl ?_
    repeat' (first|refine aQ ?_|refine kX1 0 rfl (h1) ?_|apply ae<;>intro h)
    (conv=>whnf)
    refine CallG.stop ?_;refine aE 646 hq (λQ hr hg=>?_)
    refine kX1 0 rfl hg ?_ (hE:=by rw[hr];rfl)
    rfl
   |some p=>
    obtain ⟨x,m'⟩:=p;rw[ha] at hq;obtain ⟨p1,p2,_⟩:=hp _ _ _ (by omega) ha
    rw[qJ ha];have hpx:=cy x;have hax:(acc++[x]).map Rx.enc=acc.map Rx.enc++[x.enc]:=by simp
    obtain ⟨t,h2,h3⟩:=xx s hs item lv hp hA f' (acc++[x]) m' (by omega) p2 (by simp) (by simp;omega)
    refine ⟨t,h2,λT H c g g4 es k hes hk=>?_⟩
    subst hes hk;rw[hax] at h3;simp only[jQ] at hq;generalize hxe:x.enc=xe at*;obtain ⟨k,lo,hi,l⟩:=x;rw[bi] at hxe;subst hxe;refine evl ?_
    repeat' (first|refine aQ ?_|refine kX1 0 rfl (h1) ?_|refine kX1 0 rfl (hq) ?_|apply ae<;>intro h)
    refine ag [1,0,5,4] [0,68,89] ?_;exact h3 _ _ _ _ _ _ _ rfl (by simp)
  ·rw[Ac c1]
   have d1: ¬((pk s m).toNat:Int)=32:=kd c1;generalize pk s m=b1 at*;cases acc with
   |nil=>exact absurd rfl hne
   |cons x r=>
    cases r with
    |nil=>
     refine ⟨rpR s (.agg x.enc) m,rfl,λT H c g g4 es k hes hk=>?_⟩
     obtain rfl:es= [x.enc]:=hes;obtain rfl:k=1:=hk;generalize hxe:x.enc=xe at*;obtain ⟨k,lo,hi,l⟩:=x;rw[bi] at hxe;subst hxe;refine evl ?_
     repeat' (first|refine aQ ?_|refine kX1 0 rfl (h1) ?_|refine And.intro (show Int.toNat 0<0+1 from Nat.one_pos) ?_|apply ae<;>intro h)
     refine fX1 ?_;refine cp ?_;rfl
    |cons y q=>
     refine ⟨rpR s (.agg (Rx.mk 3 0 0 (x::y::q)).enc) m,rfl,λT H c g g4 es k hes hk=>?_⟩
     subst hes hk;rw[bi];have hl2:(x::y::q).length=q.length+2:=rfl;refine evl ?_
     repeat' (first|refine aQ ?_|refine kX1 0 rfl (h1) ?_|apply ae<;>intro h)
     refine mq [(89,_,_)] [4] [0,68] ⟨rfl,frP,trivial⟩ ?_;repeat ((conv=>whnf);first|refine frA ?_|intro T H)
     refine fX1 ?_;refine cp ?_;rfl
theorem MZ (s:CF)(hs:s.length<2^32)(item:PR)(lv:Int)(hp:Pos s item)(hA: ∀n,n<=s.length->jQ 646 s lv n (item n))(n:Nat)(hn:n<=s.length):jQ 624 s lv n (iu 3 (fk s item 32 (s.length+1) [] n)):=by
 have hq:=hA n hn;cases ha:item n with
 |none=>
  rw[ha] at hq;obtain ⟨m',hq⟩:=hq;rw[qI ha];refine ⟨m',?_⟩;refine gvB (F:=JM) ?_
  (conv=>whnf)
  refine CallG.stop ?_;refine aE 646 hq (λQ hr hg=>?_)
  refine kX1 0 rfl hg ?_ (hE:=by rw[hr];rfl)
  rfl
 |some p=>
  obtain ⟨x,m⟩:=p;rw[ha] at hq;obtain ⟨p1,p2,_⟩:=hp _ _ _ hn ha;rw[qJ ha];have hpx:=cy x;obtain ⟨t,h1,h2⟩:=xx s hs item lv hp hA s.length [x] m (by omega) p2 (by simp) (by simp;omega)
  refine OG h1 ?_;simp only[jQ] at hq;generalize hxe:x.enc=xe at*;obtain ⟨k,lo,hi,l⟩:=x;rw[bi] at hxe;have h3:=λT H c g g4=>h2 T H c g g4 _ _ rfl rfl
  subst hxe;simp only[Ao,Bd,bi,As,Bb] at h3;refine gvC (F:=JM) ?_
  repeat' (first|refine aQ ?_|refine kX1 0 rfl (hq) ?_|apply ae<;>intro h)
  (conv=>whnf)
  refine Wt 73 89 [(1,_),(0,_),(5,.vs 89 _ _),(4,_)] [(0,_),(68,_)] rfl puL (by decide) ⟨rfl,rfl,(by show AV.ren _ (.vs 73 _ _)=_;simp only[AV.ren,φM,and_self,if_true];rfl),rfl,trivial⟩ ⟨⟨by decide,by decide,rfl⟩,⟨by decide,by decide,rfl⟩,trivial⟩ ?_
  intro T H;refine ag [1,0,5,4] [0,68,89] ?_;exact h3 _ _ _ _ _
theorem xz (s:CF)(hs:s.length<2^32)(item:PR)(lv:Int)(hp:Pos s item)(hA: ∀n,n<=s.length->jQ 624 s lv n (item n)): ∀(f:Nat)(acc:Do)(m:Nat)(hf:s.length<f+(m+1))(hm:m<=s.length)(hne:acc≠ [])(hac:acc.length+f<=s.length+1),∃t,Yt s (iu 4 (KR s item 124 f acc m)) t/\ ∀(T:TV)(H:aq)(c g g4:Nat)(es:CS)(k:Nat)(hes:es=acc.map Rx.enc)(hk:k=acc.length),Ev G0 ⟨aax,⟨(1,.int .i64 lv)::(0,.ref 0 0 0)::(5,.vs 93 g k)::(4,.ref 68 g4 0)::T,(0,some (0,.cells [.str s,.int .i64 (m:Int)]))::(68,some (g4,.cells [.int .i64 0,.int .i64 0,.int .i64 0,.con (.slice none 0 0)]))::(93,some (g,.vec 4 es))::H,c⟩,[.cell 4 (some 4)],1⟩ t
 |f,acc,m,hf,hm,hne,hac=>by
  have h1:=gy s (by omega) m hm
  have hbl:=(pk s m).toNat_lt;have hl:=ml acc Rx.enc;unfold KR;simp only[gz (show (124:UInt8)≠0 by decide),AO]
  by_cases c1:pk s m=124
  ·rw[Ad c1]
   rw[c1] at h1;have hlt:=jU c1 (by decide)
   have hq:=hA (m+1) (by omega)
   obtain ⟨f',rfl⟩: ∃f',f=f'+1:=⟨f-1,by omega⟩
   cases ha:item (m+1) with
   |none=>
    rw[ha] at hq;obtain ⟨m',hq⟩:=hq;rw[qI ha];refine ⟨_,⟨m',rfl⟩,λT H c g g4 es k hes hk=>?_⟩
    subst hes hk;refine evl ?_
    repeat' (first|refine aQ ?_|refine kX1 0 rfl (h1) ?_|apply ae<;>intro h)
    (conv=>whnf)
    refine CallG.stop ?_;refine aE 624 hq (λQ hr hg=>?_)
    refine kX1 0 rfl hg ?_ (hE:=by rw[hr];rfl)
    rfl
   |some p=>
    obtain ⟨x,m'⟩:=p;rw[ha] at hq;obtain ⟨p1,p2,_⟩:=hp _ _ _ (by omega) ha
    rw[qJ ha];have hpx:=cy x;have hax:(acc++[x]).map Rx.enc=acc.map Rx.enc++[x.enc]:=by simp
    obtain ⟨t,h2,h3⟩:=xz s hs item lv hp hA f' (acc++[x]) m' (by omega) p2 (by simp) (by simp;omega)
    refine ⟨t,h2,λT H c g g4 es k hes hk=>?_⟩
    subst hes hk;rw[hax] at h3;simp only[jQ] at hq;generalize hxe:x.enc=xe at*;obtain ⟨k,lo,hi,l⟩:=x;rw[bi] at hxe;subst hxe;refine evl ?_
    repeat' (first|refine aQ ?_|refine kX1 0 rfl (h1) ?_|refine kX1 0 rfl (hq) ?_|apply ae<;>intro h)
    refine ag [1,0,5,4] [0,68,93] ?_;exact h3 _ _ _ _ _ _ _ rfl (by simp)
  ·rw[Ac c1]
   have d1: ¬((pk s m).toNat:Int)=124:=kd c1;generalize pk s m=b1 at*;cases acc with
   |nil=>exact absurd rfl hne
   |cons x r=>
    cases r with
    |nil=>
     refine ⟨rpR s (.agg x.enc) m,rfl,λT H c g g4 es k hes hk=>?_⟩
     obtain rfl:es= [x.enc]:=hes;obtain rfl:k=1:=hk;generalize hxe:x.enc=xe at*;obtain ⟨k,lo,hi,l⟩:=x;rw[bi] at hxe;subst hxe;refine evl ?_
     repeat' (first|refine aQ ?_|refine kX1 0 rfl (h1) ?_|refine And.intro (show Int.toNat 0<0+1 from Nat.one_pos) ?_|apply ae<;>intro h)
     refine fX1 ?_;refine cp ?_;rfl
    |cons y q=>
     refine ⟨rpR s (.agg (Rx.mk 4 0 0 (x::y::q)).enc) m,rfl,λT H c g g4 es k hes hk=>?_⟩
     subst hes hk;rw[bi];have hl2:(x::y::q).length=q.length+2:=rfl;refine evl ?_
     repeat' (first|refine aQ ?_|refine kX1 0 rfl (h1) ?_|apply ae<;>intro h)
     refine mq [(93,_,_)] [4] [0,68] ⟨rfl,frP,trivial⟩ ?_;repeat ((conv=>whnf);first|refine frA ?_|intro T H)
     refine fX1 ?_;refine cp ?_;rfl
theorem M9 (s:CF)(hs:s.length<2^32)(item:PR)(lv:Int)(hl:lv<=32)(hp:Pos s item)(hA: ∀n,n<=s.length->jQ 624 s lv n (item n))(n:Nat)(hn:n<=s.length):jQ 579 s lv n (iu 4 (fk s item 124 (s.length+1) [] n)):=by
 have hq:=hA n hn;cases ha:item n with
 |none=>
  rw[ha] at hq;obtain ⟨m',hq⟩:=hq;rw[qI ha];refine ⟨m',?_⟩;refine gvB (F:=AQ) ?_
  (conv=>whnf)
  refine CallG.stop ?_;refine aE 624 hq (λQ hr hg=>?_)
  refine kX1 0 rfl hg ?_ (hE:=by rw[hr];rfl)
  rfl
 |some p=>
  obtain ⟨x,m⟩:=p;rw[ha] at hq;obtain ⟨p1,p2,_⟩:=hp _ _ _ hn ha;rw[qJ ha];have hpx:=cy x;obtain ⟨t,h1,h2⟩:=xz s hs item lv hp hA s.length [x] m (by omega) p2 (by simp) (by simp;omega)
  refine OG h1 ?_;simp only[jQ] at hq;generalize hxe:x.enc=xe at*;obtain ⟨k,lo,hi,l⟩:=x;rw[bi] at hxe;have h3:=λT H c g g4=>h2 T H c g g4 _ _ rfl rfl
  subst hxe;simp only[Ao,Bd,bi,As,Bb] at h3;refine gvC (F:=AQ) ?_
  repeat' (first|refine aQ ?_|refine kX1 0 rfl (hq) ?_|apply ae<;>intro h)
  (conv=>whnf)
  refine Wt 77 93 [(1,_),(0,_),(5,.vs 93 _ _),(4,_)] [(0,_),(68,_)] rfl puL (by decide) ⟨rfl,rfl,(by show AV.ren _ (.vs 77 _ _)=_;simp only[AV.ren,φM,and_self,if_true];rfl),rfl,trivial⟩ ⟨⟨by decide,by decide,rfl⟩,⟨by decide,by decide,rfl⟩,trivial⟩ ?_
  intro T H;refine ag [1,0,5,4] [0,68,93] ?_;exact h3 _ _ _ _ _
theorem ub (s:CF)(hs:s.length<2^32): ∀(k:Nat)(lv:Int)(hk:lv+k=33)(h0:0<=lv)(n:Nat)(hn:n<=s.length),jQ 579 s lv n (de s (gM s) k n)
 |0,lv,hk,h0,n,hn=>by
  obtain rfl:lv=33:=by omega
  refine ⟨n,?_⟩;refine gvB (F:=AQ) ?_;refine jO ?_;rfl
 |k+1,lv,hk,h0,n,hn=>by
  have ih:=λn hn=>ub s hs k (lv+1) (by omega) (by omega) n hn
  have pa:=qC hs (mc s) k;have h1:=λn hn=>FC s (by omega) (de s (gM s) k) lv (by omega) h0 pa ih n hn
  have pt:=xa (mc s) pa;have h2:=λn hn=>Fe s (by omega) (dc s (gM s) (de s (gM s) k)) lv pt n hn (h1 n hn)
  have pi:=mi pt;have h3:=λn hn=>MZ s hs (fc s (dc s (gM s) (de s (gM s) k))) lv pi h2 n hn
  have ps:=uk hs pi;exact M9 s hs (kC s (fc s (dc s (gM s) (de s (gM s) k)))) lv (by omega) ps h3 n hn
def rj (k n:Int):Bool×Bool:=if k=0∨k=1∨k=2 then (true,n==0) else if k=3 then (true,decide (n>=2)) else if k=4 then (true,n !=1) else if k=5∨k=6∨k=7 then (true,n==1) else (false,false)
theorem EY (k n:Int):ab G0 659 [.int .i64 k,.int .i64 n] [] ⟨.tup [.bool (rj k n).1,.bool (rj k n).2],[]⟩:=by
 unfold rj
 by_cases k0:k=0
 ·subst k0
  rw[Ad (.inl rfl)];exact gvA (F:=oA)
 by_cases k1:k=1
 ·subst k1
  rw[Ad (.inr (.inl rfl))];exact gvA (F:=oA)
 by_cases k2:k=2
 ·subst k2
  rw[Ad (.inr (.inr rfl))];exact gvA (F:=oA)
 by_cases k3:k=3
 ·subst k3
  rw[Ac (by decide),Ad rfl]
  exact gvA (F:=oA)
 by_cases k4:k=4
 ·subst k4
  rw[Ac (by decide),Ac (by decide),Ad rfl]
  exact gvA (F:=oA)
 by_cases k5:k=5
 ·subst k5
  rw[Ac (by decide),Ac (by decide),Ac (by decide),Ad (.inl rfl)]
  exact gvA (F:=oA)
 by_cases k6:k=6
 ·subst k6
  rw[Ac (by decide),Ac (by decide),Ac (by decide),Ad (.inr (.inl rfl))]
  exact gvA (F:=oA)
 by_cases k7:k=7
 ·subst k7
  rw[Ac (by decide),Ac (by decide),Ac (by decide),Ad (.inr (.inr rfl))]
  exact gvA (F:=oA)
 rw[Ac (by omega),Ac k3,Ac k4,Ac (by omega)]
 exact gvA (F:=oA)
def ndE (k lo hi n:Int):Int:=if (rj k n).1=false then 15 else if k=1/\(lo<0∨lo>hi∨hi>4294967295) then 5 else if (k≠1/\(lo≠0∨hi≠0))∨(rj k n).2=false then 1 else 0
section
variable (k lo hi:Int)(l:Do)
theorem agA (n:Nat):(ndE k lo hi n=0↔bm k lo hi n=true):=by
 unfold ndE rj
 by_cases k1:k=1
 ·subst k1
  by_cases a:lo<0∨lo>hi∨hi>4294967295
  ·simp[bm,a];omega
  ·have a1:0<=lo/\lo<=hi/\hi<=4294967295:=by omega
   by_cases c:(n:Int)=0
   ·simp[bm,a1,c];omega
   ·have c': ¬n=0:=by omega
    simp[bm,a1,c'];omega
 by_cases z:lo=0/\hi=0
 ·obtain ⟨rfl,rfl⟩:=z
  by_cases k0:k=0
  ·subst k0;by_cases c:n=0<;>simp[bm,c]
  by_cases k2:k=2
  ·subst k2;by_cases c:n=0<;>simp[bm,c]
  by_cases k3:k=3
  ·subst k3;by_cases c:2<=n
   ·have c':(2:Int)<=n:=by omega
    simp[bm,c,c']
   ·have c': ¬(2:Int)<=n:=by omega
    simp[bm,c,c']
  by_cases k4:k=4
  ·subst k4;by_cases c:n=1
   ·have c':(n:Int)=1:=by omega
    simp[bm,c]
   ·have c': ¬(n:Int)=1:=by omega
    simp[bm,c,c']
  by_cases k5:k=5∨k=6∨k=7
  ·have k5':5<=k/\k<=7:=by omega
   by_cases c:n=1
   ·have c':(n:Int)=1:=by omega
    simp[bm,k0,k1,k2,k3,k4,k5,k5',c]
   ·have c': ¬(n:Int)=1:=by omega
    simp[bm,k0,k1,k2,k3,k4,k5,k5',c,c']
  ·have k5': ¬(5<=k/\k<=7):=by omega
   simp[bm,k0,k1,k2,k3,k4,k5,k5']
 ·have hN:bm k lo hi n=false:=by simp[bm,k1,z]
  have z':k≠1/\(lo≠0∨hi≠0):=⟨k1,by omega⟩
  rw[hN];simp only[A6,iff_false]
  (repeat' split)<;>first|decide|omega|simp_all
theorem Nt (hl:l.length<2^40):ab G0 654 [.agg [.int .i64 k,.int .i64 lo,.int .i64 hi,.sl 4 (l.map Rx.enc)]] [] ⟨.int .i64 (ndE k lo hi (l.length:Nat)),[]⟩:=by
 have m1:=ml l Rx.enc;have h1:=EY k (l.length:Nat);rw[<-m1] at h1;unfold ndE;rw[<-m1];generalize rj k ((l.map Rx.enc).length:Nat)=P at*;obtain ⟨p,q⟩:=P;dsimp only at h1⊢;cases p
 ·rw[Ad rfl]
  refine gvC (F:=wt) ?_
  repeat' (first|refine aQ ?_|apply ae<;>intro h)
  all_goals (refine au ?_;rfl)
 rw[Ac (by simp)]
 by_cases a:k=1/\(lo<0∨lo>hi∨hi>4294967295)
 ·rw[Ad a]
  obtain ⟨rfl,a⟩:=a;refine gvC (F:=wt) ?_
  repeat' (first|refine aQ ?_|apply ae<;>intro h)
  all_goals try (exfalso;omega)
  all_goals (refine au ?_;rfl)
 rw[Ac a]
 by_cases b:(k≠1/\(lo≠0∨hi≠0))∨q=false
 ·rw[Ad b]
  cases q
  ·refine gvC (F:=wt) ?_
   repeat' (first|refine aQ ?_|apply ae<;>intro h)
   all_goals try (exfalso;omega)
   all_goals (refine au ?_;rfl)
  ·have b':k≠1/\(lo≠0∨hi≠0):=by simpa using b
   refine gvC (F:=wt) ?_
   repeat' (first|refine aQ ?_|apply ae<;>intro h)
   all_goals try (exfalso;omega)
   all_goals (refine au ?_;rfl)
 ·rw[Ac b]
  have b1:q=true:=by cases q<;>simp_all
  subst b1;have b2: ¬(k≠1/\(lo≠0∨hi≠0)):=λh=>b (.inl h)
  refine gvC (F:=wt) ?_
  repeat' (first|refine aQ ?_|apply ae<;>intro h)
  all_goals try (exfalso;omega)
  all_goals (refine au ?_;rfl)
def L9 (x:Rx)(lv:Nat):Prop:= ∀c:Nat,c<=64-> ∃n e:Int,T7 (chk x lv c) n e/\ab G0 647 [.agg x.enc,.int .i64 (lv:Int),.ref 0 0 0] [.cells [.int .i64 (c:Int)]] ⟨.int .i64 e,[(true,.cells [.int .i64 n])]⟩
theorem yT (l:Do)(hl:l.length<2^40)(lv:Nat)(hlv:lv<=16)(hk: ∀y∈l,L9 y (lv+1)): ∀(rest done:Do)(c:Nat)(n:Int)(e:l=done++rest)(hn:n=done.length)(hc:c<=64),∃N E:Int,T7 (ij rest (lv+1) c) N E/\ ∀(T:TV)(H:aq)(ct:Nat),
  Ev G0 ⟨Vl,⟨(30,.int .i64 n)::(2,.ref 0 0 0)::(1,.int .i64 (lv:Int))::(28,.sl 4 (l.map Rx.enc))::(29,.int .i64 l.length)::T,(0,some (0,.cells [.int .i64 (c:Int)]))::H,ct⟩,[.t 6],1⟩ ⟨.int .i64 E,[(true,.cells [.int .i64 N])]⟩
 | [],done,c,n,e,hn,hc=>by
  have hd:=md0 e;refine ⟨c,0,by rw[ij];exact ⟨rfl,rfl⟩,λT H ct=>?_⟩
  refine evA ?_;refine fX1 ?_;rfl
 |x::r,done,c,n,e,hn,hc=>by
  have hd:=md e;have hll:=ml l Rx.enc;have hx:=mx Rx.enc e hn;obtain ⟨n1,e1,h1,g1⟩:=hk x (by simp[e]) c hc
  have g1:ab G0 647 [.agg x.enc,.int .i64 ((lv:Int)+1),.ref 0 0 0] [.cells [.int .i64 (c:Int)]] ⟨.int .i64 e1,[(true,.cells [.int .i64 n1])]⟩:=g1;have hpx:=cy x;rw[ij];cases hq:chk x (lv+1) c with
  |none=>
   rw[hq] at h1;have h1: ¬e1=0:=h1;refine ⟨n1,e1,h1,λT H ct=>?_⟩
   generalize hxe:x.enc=xe at*;obtain ⟨k,lo,hi,q⟩:=x;rw[bi] at hxe;subst hxe;refine evl ?_
   repeat' (first|refine aQ ?_|refine kX1 0 rfl (g1) ?_|apply ae<;>intro h)
   refine fX1 ?_;rfl
  |some c1=>
   rw[hq] at h1;obtain ⟨rfl,rfl⟩:=h1;obtain ⟨N,E,h2,h3⟩:=yT l hl lv hlv hk r (done++[x]) c1 (n+1) (by simp[e]) (by simp[hn]) (tU hq)
   refine ⟨N,E,h2,λT H ct=>?_⟩
   generalize hxe:x.enc=xe at*;obtain ⟨k,lo,hi,q⟩:=x;rw[bi] at hxe;subst hxe;refine evl ?_
   repeat' (first|refine aQ ?_|refine kX1 0 rfl (g1) ?_|apply ae<;>intro h)
   refine ag [30,2,1,28,29] [0] ?_;exact h3 _ _ _
theorem afY (hs:l.length<2^40)(lv:Nat)(hlv:lv<=17)(hk:lv<=16-> ∀y∈l,L9 y (lv+1)):L9 (.mk k lo hi l) lv:=by
 intro c hc;have m1:=ml l Rx.enc;have g0:=Nt k lo hi l hs;have h0:=agA k lo hi l.length;rw[chk,bi]
 by_cases a:16<lv
 ·rw[Ad a]
  have a':(lv:Int)>16:=by omega
  refine ⟨c,24,(show (24:Int)≠0 by decide),?_⟩
  refine gvB (F:=wx) ?_;refine fX1 ?_;rfl
 rw[Ac a]
 by_cases b:64<=c
 ·rw[Ad b]
  have b':(c:Int)>=64:=by omega
  refine ⟨c,4,(show (4:Int)≠0 by decide),?_⟩
  refine gvB (F:=wx) ?_;refine fX1 ?_;rfl
 rw[Ac b];generalize ndE k lo hi (l.length:Nat)=e0 at*
 by_cases d:bm k lo hi l.length=true
 ·rw[Ad d]
  obtain rfl:e0=0:=h0.2 d;obtain ⟨N,E,h2,h3⟩:=yT l hs lv (by omega) (hk (by omega)) l [] (c+1) 0 rfl rfl (by omega)
  refine ⟨N,E,h2,?_⟩;refine gvB (F:=wx) ?_;refine ag [30,2,1,28,29] [0] ?_;rw[m1];exact h3 _ _ _
 ·rw[Ac d]
  have d': ¬e0=0:=λq=>d (h0.1 q)
  refine ⟨(c+1:Nat),e0,d',?_⟩;refine gvB (F:=wx) ?_;refine fX1 ?_;rfl
end
mutual
theorem WN: ∀(x:Rx),Sml x-> ∀lv:Nat,lv<=17->L9 x lv
 | .mk k lo hi l,hs,lv,hlv=>afY k lo hi l hs.len lv hlv λh=>Py l hs.kid (lv+1) (by omega)
theorem Py: ∀(l:Do),(∀x∈l,Sml x)-> ∀lv:Nat,lv<=17-> ∀y∈l,L9 y lv
 | [],_,_,_=>λy hy=>by simp at hy
 |x::r,hs,lv,hlv=>λy hy=>by
  have h1:=WN x (hs x (by simp)) lv hlv
  rcases AL.1 hy with q|q
  ·rw[q];exact h1
  ·exact Py r (λz hz=>hs z (by simp[hz])) lv hlv y q
end
theorem BM (x:Rx)(hs:Sml x): ∃e:Int,ab G0 626 [.agg x.enc] [] ⟨.int .i64 e,[]⟩/\(e=0↔ (chk x 1 0).isSome=true):=by
 obtain ⟨n,e,h1,g1⟩:=WN x hs 1 (by omega) 0 (by omega)
 have g1:ab G0 647 [.agg x.enc,.int .i64 1,.ref 0 0 0] [.cells [.int .i64 0]] ⟨.int .i64 e,[(true,.cells [.int .i64 n])]⟩:=g1;refine ⟨e,?_,?_⟩
 ·generalize hxe:x.enc=xe at*
  obtain ⟨k,lo,hi,q⟩:=x;rw[bi] at hxe;subst hxe;refine gvC (F:=aam) ?_
  repeat' (first|refine aQ ?_|refine kX1 67 rfl (g1) ?_|apply ae<;>intro h)
  refine au ?_;rfl
 ·cases hq:chk x 1 0 with
  |none=>rw[hq] at h1;simp;exact h1
  |some c=>rw[hq] at h1;simp;exact h1.2
theorem r0 (n:Int)(h0:0<=n)(h1:n<=4294967295):ab G0 337 [.int .i64 n] [] ⟨.str (ah n),[]⟩:=by
 have hi:ab G0 246 [.int .i64 n] [] ⟨.str (ah n),[]⟩:=by
  show (if-9223372036854775808<=n/\n<=9223372036854775807 then some (Ret.mk (.str (ah n)) []) else none)=_
  rw[Ad ⟨by omega,by omega⟩]
 generalize ah n=t at*;exact gvA (F:=f337)
section
variable (k:Int)
def zE:Bool:=k==5||(k==6||k==7)
theorem OA:zE k=decide (5<=k/\k<=7):=by
 unfold zE;rw[Bool.eq_iff_iff];simp only[Bool.or_eq_true,beq_iff_eq,AO];omega
theorem sj:ab G0 660 [.int .i64 k] [] ⟨.bool (zE k),[]⟩:=by
 unfold zE
 by_cases a:k=5
 ·subst a
  exact gvA (F:=AP)
 by_cases b:k=6
 ·subst b
  exact gvA (F:=AP)
 by_cases c:k=7
 ·subst c
  exact gvA (F:=AP)
 have e:(k==5||(k==6||k==7))=false:=by simp[a,b,c]
 rw[e];refine gvB (F:=AP) ?_
 all_goals try (exfalso;omega)
 all_goals (refine au ?_;first|rfl|simp[a,b,c])
theorem Mb (k k2 lo hi:Int)(l:Do)(hl:l.length<2^40):ab G0 655 [.int .i64 k,.agg [.int .i64 k2,.int .i64 lo,.int .i64 hi,.sl 4 (l.map Rx.enc)]] [] ⟨.bool (fC k (.mk k2 lo hi l)),[]⟩:=by
 have m1:=ml l Rx.enc;have h1:=sj k2;have h2:=sj k;rw[Kh]
 by_cases a3:k2=3
 ·rw[Ad a3]
  subst a3
  by_cases e:k=4
  ·subst e
   exact gvA (F:=wq)
  ·rw[Al e]
   refine gvB (F:=wq) ?_;refine au ?_;simp[e]
 rw[Ac a3]
 by_cases a4:k2=4
 ·rw[Ad a4]
  subst a4;have hem:(!l.isEmpty)=decide ((l.length:Int)>0):=by cases l<;>simp
  rw[hem];refine gvB (F:=wq) ?_;refine au ?_;rw[m1]
 rw[Ac a4,<-OA,<-OA];generalize zE k2=A at*;generalize zE k=B at*;cases A
 ·exact gvA (F:=wq)
 ·exact gvA (F:=wq)
def ShG (x:Rx):Prop:=ab G0 627 [.agg x.enc] [] ⟨.str (pat ah x),[]⟩
theorem vk (x:Rx)(hx:ShG x)(hs:Sml x)(hb:(pat ah x).length+2<2^31):ab G0 648 [.int .i64 k,.agg x.enc] [] ⟨.str (dq k x (pat ah x)),[]⟩:=by
 unfold ShG at hx;have hpx:=cy x
 have hen: ∀k2 lo2 hi2 l2,x= .mk k2 lo2 hi2 l2->ab G0 655 [.int .i64 k,.agg [.int .i64 k2,.int .i64 lo2,.int .i64 hi2,.sl 4 (l2.map Rx.enc)]] [] ⟨.bool (fC k x),[]⟩:=λk2 lo2 hi2 l2 hxx=>by
  subst hxx;exact Mb k k2 lo2 hi2 l2 hs.len
 have z1:([40]:CF).length=1:=rfl;have z2:([41]:CF).length=1:=rfl;cases hc:fC k x with
 |true=>
  have hin:dq k x (pat ah x)= [40]++pat ah x++[41]:=by unfold dq;rw[Ad hc];rfl
  rw[hin];rw[hc] at hen;generalize pat ah x=w at*;generalize hxe:x.enc=xe at*;obtain ⟨k2,lo2,hi2,l2⟩:=x;rw[bi] at hxe;subst hxe;have hen:=hen k2 lo2 hi2 l2 rfl;have hwl:([40]++w).length=w.length+1:=by simp
  refine gvC (F:=R6) ?_
  repeat' ((conv=>whnf);first|refine bQ ?_|refine kV hx ?_ hpx|refine ay ?_|apply ae<;>intro h)
  refine au ?_;rfl
 |false=>
  have hin:dq k x (pat ah x)=pat ah x:=by unfold dq;rw[Ac (by rw[hc];simp)]
  rw[hin];rw[hc] at hen;generalize pat ah x=w at*;generalize hxe:x.enc=xe at*;obtain ⟨k2,lo2,hi2,l2⟩:=x;rw[bi] at hxe;subst hxe;have hen:=hen k2 lo2 hi2 l2 rfl;refine gvC (F:=R6) ?_
  repeat' ((conv=>whnf);first|refine kV hx ?_ hpx|refine ay ?_|apply ae<;>intro h)
  refine au ?_;rfl
end
theorem qH (k lo hi:Int)(l:Do)(hl:l.length<2^40)(hb:fd (br ah k l)<2^30)(hk: ∀y∈l,ShG y/\Sml y)(c:UInt8)(g1:Nat): ∀(rest done:Do)(acc R:CF)(T:TV)(H:aq)(ct:Nat)(n:Int)(e:l=done++rest)(hn:n=done.length)(hb:acc.length+fd (br ah k rest)<2^40)(hR:R=if done= [] then cz c (br ah k rest) else acc++jr c (br ah k rest))(hd0:done= []->acc= []),
  Ev G0 ⟨Vo,⟨(72,.int .i64 n)::(1,.ref 65 g1 0)::(3,.str [c])::(4,.str acc)::(70,.sl 4 (l.map Rx.enc))::(71,.int .i64 l.length)::T,(65,some (g1,.cells [.int .i64 k,.int .i64 lo,.int .i64 hi,.sl 4 (l.map Rx.enc)]))::H,ct⟩,[.t 2],0⟩ ⟨.str R,[]⟩
 | [],done,acc,R,T,H,ct,n,e,hn,hb,hR,hd0=>by
  have hd:=md0 e
  obtain rfl:R=acc:=by
   rw[hR]
   by_cases h:done= []
   ·rw[Ad h,hd0 h,br];rfl
   ·rw[Ac h,br];simp[jr]
  refine evA ?_;refine au ?_;rfl
 |x::r,done,acc,R,T,H,ct,n,e,hn,hb2,hR,hd0=>by
  have hd:=md e;have hll:=ml l Rx.enc;have hx:=mx Rx.enc e hn;obtain ⟨hp,hs⟩:=hk x (by simp[e])
  have hpx:=cy x
  have hlx:(dq k x (pat ah x)).length+1<=fd (br ah k l):=by
   have h1:br ah k l=br ah k done++(dq k x (pat ah x)::br ah k r):=by rw[e,qX,br]
   rw[h1,vK,fd];omega
  have hbx:(pat ah x).length+2<2^31:=by
   have:(pat ah x).length<=(dq k x (pat ah x)).length:=by unfold dq;split<;>simp;omega
   omega
  have hin:=vk k x hp hs hbx;rw[br,fd] at hb2;rw[br] at hR;have h1: [c].length=1:=rfl;generalize dq k x (pat ah x)=w at*;generalize hxe:x.enc=xe at*
  by_cases h:done= []
  ·have h0:=hd0 h
   subst h h0;obtain rfl:n=0:=hn;rw[Ad rfl,wg] at hR;have hz:([]:CF).length=0:=rfl;have ih:=λT H ct=>qH k lo hi l hl hb hk c g1 r [x] w R T H ct 1 (by simpa using e) rfl (by simp at hb2;omega) (by rw[Ac (by simp)];exact hR) (by simp)
   obtain ⟨k2,lo2,hi2,l2⟩:=x;rw[bi] at hxe;subst hxe;refine evl ?_
   repeat' ((conv=>whnf);first|refine bQ ?_|refine kV hin ?_ hpx|refine ay ?_|apply ae<;>intro h)
   refine ag [72,1,3,4,70,71] [65] ?_;exact ih _ _ _
  ·rw[Ac h,jr] at hR
   have hp:(0:Int)<n:=by
    have:done.length≠0:=λq=>h (AJ q)
    omega
   have h2:(acc++[c]).length=acc.length+1:=by simp
   have ih:=λT H ct=>qH k lo hi l hl hb hk c g1 r (done++[x]) (acc++[c]++w) R T H ct (n+1) (by simp[e]) (by simp[hn]) (by simp;omega) (by rw[Ac (by simp),hR];simp) (by simp)
   obtain ⟨k2,lo2,hi2,l2⟩:=x;rw[bi] at hxe;subst hxe;refine evl ?_
   repeat' ((conv=>whnf);first|refine bQ ?_|refine kV hin ?_ hpx|refine ay ?_|apply ae<;>intro h)
   refine ag [72,1,3,4,70,71] [65] ?_;exact ih _ _ _
theorem aea (k lo hi:Int)(l:Do)(hn:bm k lo hi l.length=true)(hl:l.length<2^40)(hb:fd (br ah k l)<2^30)(hk: ∀y∈l,ShG y/\Sml y):ShG (.mk k lo hi l):=by
 have hll:=ml l Rx.enc;unfold ShG;rw[bi,pat];have hL:=λc R T H ct g1=>qH k lo hi l hl hb hk c g1 l [] [] R T H ct 0 rfl rfl (by simp;omega)
 unfold bm at hn
 by_cases k1:k=1
 ·rw[Ad k1] at hn
  obtain ⟨q1,q2,q3,q4⟩:=of_decide_eq_true hn;subst k1;have d1:=r0 lo q1 (by omega)
  have d2:=r0 hi (by omega) q3
  have i1:=itoa_len (a:=lo) q1 (by omega)
  have i2:=itoa_len (a:=hi) (by omega) q3
  by_cases e:lo=hi
  ·rw[show dy ah 1 lo hi (br ah 1 l)=ah lo from by unfold dy;rw[Ac (by omega),Ad rfl,Ad e]]
   generalize ah lo=w1 at*;exact gvA (F:=mj)
  ·rw[show dy ah 1 lo hi (br ah 1 l)=91::(ah lo++45::(ah hi++[93])) from by unfold dy;rw[Ac (by omega),Ad rfl,Ac e]]
   generalize ah lo=w1 at*;generalize ah hi=w2 at*;have z1:([91]:CF).length=1:=rfl;have z2:([45]:CF).length=1:=rfl;have z3:([93]:CF).length=1:=rfl;refine gvC (F:=mj) ?_
   repeat' ((conv=>whnf);first|refine bQ ?_|refine ay ?_|apply ae<;>intro h)
   refine au ?_;simp
 rw[Ac k1,Av] at hn;obtain ⟨hz,hn⟩:=hn;obtain ⟨rfl,rfl⟩:=of_decide_eq_true hz
 by_cases k0:k=0
 ·subst k0
  exact gvA (F:=mj)
 by_cases k2:k=2
 ·subst k2
  exact gvA (F:=mj)
 rw[Ac (by omega)] at hn
 by_cases k3:k=3
 ·subst k3
  rw[show dy ah 3 0 0 (br ah 3 l)=cz 32 (br ah 3 l) from rfl]
  refine gvB (F:=mj) ?_;refine ag [72,1,3,4,70,71] [65] ?_;rw[hll];exact hL 32 _ _ _ _ _ (by rw[Ad rfl]) (λ_=>rfl)
 rw[Ac k3] at hn
 by_cases k4:k=4
 ·subst k4
  by_cases hz:l= []
  ·subst hz
   have z0:([]:Do).length=0:=rfl;exact gvA (F:=mj)
  ·have hpz:l.length≠0:=λq=>hz (AJ q)
   have hq:br ah 4 l≠ []:=λq=>by
    have:(br ah 4 l).length=l.length:=oq l;rw[q] at this;exact hpz this.symm
   rw[show dy ah 4 0 0 (br ah 4 l)=cz 124 (br ah 4 l) from by unfold dy;rw[Ac (by omega),Ac (by omega),Ac (by omega),Ac (by omega),Ad rfl,Ac (by cases hh:br ah 4 l<;>simp_all)]]
   refine gvB (F:=mj) ?_;refine ag [72,1,3,4,70,71] [65] ?_;rw[hll];exact hL 124 _ _ _ _ _ (by rw[Ad rfl]) (λ_=>rfl)
 rw[Ac k4] at hn
 by_cases k5:5<=k/\k<=7
 ·rw[Ad k5] at hn
  have hn:=of_decide_eq_true hn
  obtain ⟨y,rfl⟩: ∃y,l= [y]:=by
   match l,hn with
   | [y],_=>exact ⟨y,rfl⟩
  obtain ⟨hp,hs⟩:=hk y (by simp)
  have hpx:=cy y;have hpl:br ah k [y]= [dq k y (pat ah y)]:=by rw[br,br]
  rw[hpl] at hb⊢;simp only[fd] at hb
  have hbx:(pat ah y).length+2<2^31:=by
   have:(pat ah y).length<=(dq k y (pat ah y)).length:=by unfold dq;split<;>simp;omega
   omega
  have hin:=vk k y hp hs hbx;clear hL;have z1:([y].map Rx.enc).length=1:=rfl;have z2:([42]:CF).length=1:=rfl;have z3:([43]:CF).length=1:=rfl;have z4:([63]:CF).length=1:=rfl;generalize dq k y (pat ah y)=p at*;have hx:([y].map Rx.enc)[(0:Int).toNat]? =some y.enc:=rfl;simp only[Ao,Bd] at hx z1⊢;generalize hxe:y.enc=xe at*;obtain ⟨k2,lo2,hi2,l2⟩:=y;rw[bi] at hxe;subst hxe;rcases (by omega:k=5∨k=6∨k=7) with rfl|rfl|rfl
  ·rw[show dy ah 5 0 0 [p]=p++[42] from rfl]
   refine gvC (F:=mj) ?_
   repeat' ((conv=>whnf);first|refine bQ ?_|refine kV hin ?_ hpx|refine ay ?_|apply ae<;>intro h)
   refine au ?_;rfl
  ·rw[show dy ah 6 0 0 [p]=p++[43] from rfl]
   refine gvC (F:=mj) ?_
   repeat' ((conv=>whnf);first|refine bQ ?_|refine kV hin ?_ hpx|refine ay ?_|apply ae<;>intro h)
   refine au ?_;rfl
  ·rw[show dy ah 7 0 0 [p]=p++[63] from rfl]
   refine gvC (F:=mj) ?_
   repeat' ((conv=>whnf);first|refine bQ ?_|refine kV hin ?_ hpx|refine ay ?_|apply ae<;>intro h)
   refine au ?_;rfl
 ·rw[Ac k5] at hn;cases hn
mutual
theorem Uv: ∀(x:Rx){lv c c':Nat},Sml x->chk x lv c=some c'->ShG x
 | .mk k lo hi l,lv,c,c',hs,h=>by
  have hc':=tU h;rw[chk] at h;split at h
  ·cases h
  ·split at h
   ·cases h
   ·split at h
    ·rename_i hn
     have h1:=pd k l h;have h2:=Ot l hs.kid h;exact aea k lo hi l hn hs.len (by omega) h2
    ·cases h
theorem Ot: ∀(l:Do){lv c c':Nat},(∀x∈l,Sml x)->ij l lv c=some c'-> ∀y∈l,ShG y/\Sml y
 | [],_,_,_,_,_=>λy hy=>by simp at hy
 |x::r,lv,c,c',hs,h=>λy hy=>by
  rw[ij] at h;split at h
  ·rename_i c1 h1
   have h2:=Uv x (hs x (by simp)) h1
   rcases AL.1 hy with q|q
   ·rw[q];exact ⟨h2,hs x (by simp)⟩
   ·exact Ot r (λz hz=>hs z (by simp[hz])) h y q
  ·cases h
end
theorem z7 (x:Rx)(hs:Sml x): ∃(w:CF)(e:Int),ab G0 580 [.agg x.enc] [] ⟨.tup [.str w,.int .i64 e],[]⟩/\(e=0↔ (chk x 1 0).isSome=true)/\(e=0->w=pat ah x):=by
 obtain ⟨e,g1,h1⟩:=BM x hs;have hpx:=cy x
 by_cases h0:e=0
 ·subst h0
  have h2:(chk x 1 0).isSome=true:=h1.1 rfl;obtain ⟨c',hc⟩:=Bo.1 h2;have g2:=Uv x hs hc;unfold ShG at g2;refine ⟨pat ah x,0,?_,by simp[h2],λ_=>rfl⟩
  generalize pat ah x=w at*;generalize hxe:x.enc=xe at*;obtain ⟨k,lo,hi,l⟩:=x;rw[bi] at hxe;subst hxe;refine gvC (F:=SB) ?_
  repeat' ((conv=>whnf);first|refine kV g2 ?_ hpx|refine ay ?_|apply ae<;>intro h)
  refine au ?_;rfl
 ·refine ⟨[],e,?_,h1,λq=>absurd q h0⟩
  generalize hxe:x.enc=xe at*;obtain ⟨k,lo,hi,l⟩:=x;rw[bi] at hxe;subst hxe;exact gvA (F:=SB)
def XP:AV->Option CS
 | .ifc _ _=>some [rx0.enc,[.int .i64 2]]
 |_=>none
theorem Nj (s:CF)(hs:s.length<2^32): ∃A caps,ZP.pre G0 [.str s] []=some A/\bJ A.tm D0= .fn 578 caps/\caps.length=2/\Ev G0 (ZP.cfg XP A 0) (o8 (og s)):=by
 refine ⟨_,_,rfl,rfl,rfl,?_⟩;have h1:=ub s hs 33 0 (by omega) (by omega) 0 (by omega)
 have hp:=qC hs (mc s) 33;unfold og;cases ha:de s (gM s) 33 0 with
 |none=>
  rw[ha] at h1;obtain ⟨m,h1⟩:=h1;refine wk3 ?_
  repeat' (first|refine aQ ?_|apply ae<;>intro h)
  (conv=>whnf)
  refine CallG.stop ?_;refine aE 579 h1 (λQ hr hg=>?_)
  refine kX1 75 rfl hg ?_ (hE:=by rw[hr];rfl)
  rfl
 |some p=>
  obtain ⟨x,m⟩:=p;rw[ha] at h1;obtain ⟨_,_,hx⟩:=hp 0 x m (by omega) ha
  obtain ⟨w,e,g2,h2,h3⟩:=z7 x hx;have hpx:=cy x;dsimp only;simp only[jQ] at h1
  by_cases hq:(chk x 1 0).isSome=true/\pat ah x=s
  ·rw[Ad hq]
   obtain rfl:e=0:=h2.2 hq.1;obtain rfl:w=s:=by rw[h3 rfl,hq.2]
   unfold o8;generalize hxe:x.enc=xe at*;obtain ⟨k,lo,hi,l⟩:=x;rw[bi] at hxe;subst hxe;refine wk3 ?_
   repeat' ((conv=>whnf);first|refine XW ?_|refine ay ?_|refine kX1 75 rfl (h1) ?_|apply ae<;>intro h)
   refine au ?_
   repeat ((conv=>whnf);refine Go.AM.finC ?_)
   dsimp only;rw[bi]
  ·rw[Ac hq]
   by_cases h0:e=0
   ·subst h0
    have hw: ¬w=s:=λq=>hq ⟨h2.1 rfl,by rw[<-h3 rfl,q]⟩
    generalize hxe:x.enc=xe at*;obtain ⟨k,lo,hi,l⟩:=x;rw[bi] at hxe;subst hxe;refine wk3 ?_
    repeat' ((conv=>whnf);first|refine Qv hw ?_|refine ay ?_|refine kX1 75 rfl (h1) ?_|apply ae<;>intro h)
    refine jO ?_;rfl
   ·generalize hxe:x.enc=xe at*
    obtain ⟨k,lo,hi,l⟩:=x;rw[bi] at hxe;subst hxe;refine wk3 ?_
    repeat' (first|refine aQ ?_|refine kX1 75 rfl (h1) ?_|apply ae<;>intro h)
    refine jO ?_;rfl
end Go.AM.IR
