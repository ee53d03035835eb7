/- What the functions of this program give, on the abstract machine. -/
import Derived.Test.YtekpmkbdjkoooaaGreatDoorDataA
import Derived.Test.YtekpmkbdjkoooaaGreatDoorDataB
set_option linter.unusedVariables false
set_option linter.unusedSimpArgs false
namespace Go.AM.IR
set_option linter.unusedVariables false
inductive Sml:Rx→Prop
 |mk {k lo hi:Int} {l:List Rx} (h:l.length<2^40) (hk: ∀x∈l,Sml x):Sml (.mk k lo hi l)
theorem Sml.len {k lo hi:Int}{l:List Rx}(h:Sml (.mk k lo hi l)):l.length<2^40:=by cases h;assumption
theorem Sml.kid {k lo hi:Int}{l:List Rx}(h:Sml (.mk k lo hi l)): ∀x∈l,Sml x:=by cases h;assumption
theorem Sml.leaf (k lo hi:Int):Sml (.mk k lo hi []):=.mk (by simp) (by simp)
def Pos (s:List UInt8)(P:PR):Prop:= ∀n x m,n≤s.length→P n=some (x,m)→n≤m∧m≤s.length∧Sml x
def Xl (s:List UInt8)(P:NR):Prop:= ∀n a m,n≤s.length→P n=some (a,m)→n≤m∧m≤s.length
theorem df {s:List UInt8}{n:Nat}{c:UInt8}(h:chr s n c=true):n<s.length:=by
 unfold chr at h;rcases AZ n s.length with q|q
 ·exact q
 ·rw[AC q] at h;simp at h
theorem xN {s:List UInt8}{num:NR}{alt:PR}(hn:Xl s num)(ha:Pos s alt):Pos s (cK s num alt):=by
 intro n x m hl h;unfold cK at h;split at h
 ·rename_i c;have:=df c;cases h;exact ⟨by omega,by omega,.leaf ..⟩
 split at h
 ·rename_i c;have:=df c;cases h;exact ⟨by omega,by omega,.leaf ..⟩
 split at h
 ·rename_i c;have:=df c
  split at h
  ·rename_i c;have:=df c;cases h;exact ⟨by omega,by omega,.leaf ..⟩
  ·split at h
   ·rename_i y k hk
    have:=ha _ _ _ (by omega) hk
    split at h
    ·rename_i c;have:=df c;cases h;exact ⟨by omega,by omega,(by assumption:_∧_∧_).2.2⟩
    ·cases h
   ·cases h
 split at h
 ·rename_i c;have:=df c
  split at h
  ·rename_i a k hk
   have:=hn _ _ _ (by omega) hk
   split at h
   ·rename_i c;have:=df c
    split at h
    ·rename_i b j hj
     have:=hn _ _ _ (by omega) hj
     split at h
     ·rename_i c;have:=df c;cases h;exact ⟨by omega,by omega,.leaf ..⟩
     ·cases h
    ·cases h
   ·cases h
  ·cases h
 ·split at h
  ·rename_i a k hk
   have:=hn _ _ _ (by omega) hk
   cases h;exact ⟨by omega,by omega,.leaf ..⟩
  ·cases h
theorem mc {s:List UInt8}{atom:PR}(ha:Pos s atom):Pos s (en s atom):=by
 intro n x m hl h;unfold en at h;split at h
 ·rename_i y k hk
  obtain ⟨h1,h2,h3⟩:=ha _ _ _ hl hk;have hs: ∀p:Int,Sml (.mk p 0 0 [y]):=fun p=>.mk (by simp) (by simpa using h3)
  split at h
  ·rename_i c;have:=df c;cases h;exact ⟨by omega,by omega,hs _⟩
  split at h
  ·rename_i c;have:=df c;cases h;exact ⟨by omega,by omega,hs _⟩
  split at h
  ·rename_i c;have:=df c;cases h;exact ⟨by omega,by omega,hs _⟩
  ·cases h;exact ⟨h1,h2,h3⟩
 ·cases h
theorem Se {s:List UInt8}{item:PR}{c:UInt8}(hi:Pos s item): ∀(f:Nat)(acc:List Rx)(n:Nat)(l:List Rx)(m:Nat),n≤s.length→(∀x∈acc,Sml x)→eF s item c f acc n=some (l,m)→n≤m∧m≤s.length∧(∀x∈l,Sml x)∧l.length≤acc.length+f
 |0,_,_,_,_,_,_,h=>by simp[eF] at h
 |f+1,acc,n,l,m,hn,ha,h=>by
  rw[eF] at h;split at h
  ·rename_i y k hk
   obtain ⟨h1,h2,h3⟩:=hi _ _ _ hn hk
   have ha': ∀x∈acc++[y],Sml x:=fun x hx=>by
    rcases B4.1 hx with q|q
    ·exact ha x q
    ·simp only[B5] at q;rw[q];exact h3
   split at h
   ·rename_i q
    have:=df q;obtain ⟨q1,q2,q3,q4⟩:=Se hi f (acc++[y]) (k+1) l m (by omega) ha' h
    simp at q4;exact ⟨by omega,q2,q3,by omega⟩
   ·cases h
    exact ⟨h1,h2,ha',by simp⟩
  ·cases h
theorem one_pos {s:List UInt8}(hs:s.length<2^32){item:PR}{c:UInt8}{k:Int}(hi:Pos s item):Pos s (fun n=>gv k (eF s item c (s.length+1) [] n)):=by
 intro n x m hl h;dsimp only at h;cases hq:eF s item c (s.length+1) [] n with
 |none=>rw[hq] at h;cases h
 |some p=>
  obtain ⟨l,j⟩:=p;obtain ⟨q1,q2,q3,q4⟩:=Se hi _ _ _ _ _ hl (by simp) hq
  rw[hq] at h;have hl2:Sml (.mk k 0 0 l):=.mk (by simp at q4;omega) q3
  unfold gv at h;split at h
  ·rename_i y m' e
   obtain ⟨rfl,rfl⟩:=Prod.mk.inj (Ai e);cases h;exact ⟨q1,q2,q3 x (by simp)⟩
  ·rename_i l' m' _ e
   obtain ⟨rfl,rfl⟩:=Prod.mk.inj (Ai e);cases h;exact ⟨q1,q2,hl2⟩
  ·cases h
theorem uL {s:List UInt8}(hs:s.length<2^32){item:PR}(hi:Pos s item):Pos s (kc s item):=one_pos hs hi
theorem rf {s:List UInt8}(hs:s.length<2^32){num:NR}(hn:Xl s num): ∀k,Pos s (cM s num k)
 |0=>fun n x m _ h=>by simp[cM] at h
 |k+1=>by
  rw[cM];exact one_pos hs (uL hs (mc (xN hn (rf hs hn k))))
theorem Sm {s:List UInt8}{fr:Nat}: ∀(f:Nat)(a:Int)(n:Nat)(b:Int)(m:Nat),n≤s.length→rnL s fr f a n=some (b,m)→n≤m∧m≤s.length
 |0,_,_,_,_,_,h=>by simp[rnL] at h
 |f+1,a,n,b,m,hn,h=>by
  rw[rnL] at h;split at h
  ·rename_i c hc
   have hlt:n<s.length:=by
    rcases AZ n s.length with q|q
    ·exact q
    ·rw[AC q] at hc;cases hc
   split at h
   ·split at h
    ·cases h
    ·have:=Sm f _ (n+1) b m (by omega) h;omega
   ·split at h
    ·cases h;omega
    ·cases h
  ·split at h
   ·cases h;omega
   ·cases h
theorem wn (s:List UInt8):Xl s (iP s):=fun n a m hn h=>Sm _ _ _ _ _ hn h
theorem lX (s:List UInt8):Xl s (fX s):=fun n a m hn h=>by
 unfold fX at h;dsimp only at h;split at h
 ·cases h
 split at h
 ·cases h
 split at h
 ·cases h
 cases h;have h1:((s.drop n).takeWhile isD).length≤(s.drop n).length:=(List.takeWhile_sublist _).length_le;simp at h1;omega
end Go.AM.IR
set_option maxHeartbeats 4000000
set_option maxRecDepth 20000
namespace Go.AM.IR
def rpR (s:List UInt8)(v:AV)(m:Nat):Ret:=⟨v,[(true,.cells [.str s,.int .i64 (m:Int)])]⟩
theorem bt (s:List UInt8)(hs:s.length<2^40)(c:UInt8)(n:Nat)(hn:n≤s.length):ah G 642 [.ref 0 0 0,.int .u8 (c.toNat:Int)] [.cells [.str s,.int .i64 (n:Int)]] (rpR s (.bool (chr s n c)) (if chr s n c then n+1 else n)):=by
 by_cases h:n<s.length
 ·have hb:s[((n:Nat):Int).toNat]? =some s[n]:=by simp[h]
  have hch:chr s n c=(s[n]==c):=by unfold chr;simp[h]
  generalize s[n]=b at*
  by_cases hbc:b.toNat=c.toNat
  ·have e:b=c:=A7.1 hbc
   have hi:(b.toNat:Int)=(c.toNat:Int):=by rw[hbc]
   rw[hch,show (b==c)=true from by simp[e],Ad rfl]
   refine gvC (F:=Nj) ?_
   repeat' (first|refine cg ?_|(refine ae ?_ ?_<;>intro h))
   refine fX1 ?_;rfl
  ·have e: ¬b=c:=fun q=>hbc (by rw[q])
   have hi: ¬(b.toNat:Int)=(c.toNat:Int):=by omega
   rw[hch,show (b==c)=false from by simp[e],Ac (by simp)]
   refine gvC (F:=Nj) ?_
   repeat' (first|refine cg ?_|(refine ae ?_ ?_<;>intro h))
   refine fX1 ?_;rfl
 ·have hch:chr s n c=false:=by unfold chr;rw[AC (by omega)];rfl
  rw[hch,Ac (by simp)]
  refine gvB (F:=Nj) ?_;refine fX1 ?_;rfl
end Go.AM.IR
namespace Go.AM.IR
theorem JK {kv:AV→Prop}{b:UInt8}(h:kv (.int .u8 (f7 b)))(hb:48≤b.toNat): ∃v,bv .sub (.int .u8 (b.toNat:Int)) (.int .u8 48)=some v∧kv v:=by
 refine ⟨_,?_,h⟩;have hl:=b.toNat_lt;show some (AV.int .u8 (IntKind.wrap .u8 ((b.toNat:Int)-48)))=_
 unfold f7;rw[uG (by omega) (by omega)]
def NumG (s:List UInt8)(n:Nat)(o:Option (Int×Nat)):Prop:= ∃v b m,n≤m∧m≤s.length∧ah G 661 [.ref 0 0 0] [.cells [.str s,.int .i64 (n:Int)]] (rpR s (.tup [.int .i64 v,.bool b]) m)∧match o with
 |some (a,k)=>b=true∧v=a∧m=k
 |none=>b=false
theorem vD (s:List UInt8)(hs:s.length<2^40)(fr:Nat): ∀(f:Nat)(a:Int)(n:Nat)(hf:s.length<f+n)(hn:n≤s.length)(h0:0≤a)(h1:a≤4294967295)(hfr:fr≤n),∃v b m,n≤m∧m≤s.length∧(match rnL s fr f a n with
  |some (x,k)=>b=true∧v=x∧m=k
  |none=>b=false)∧ ∀(T:TV)(H:aw)(c:Nat),
  Ev G ⟨wT,⟨(0,.ref 0 0 0)::(4,.int .i64 a)::(5,.int .i64 (fr:Int))::T,(0,some (0,.cells [.str s,.int .i64 (n:Int)]))::H,c⟩,[.t 2,.t 3],1⟩ (rpR s (.tup [.int .i64 v,.bool b]) m)
 |0,a,n,hf,hn,h0,h1,hfr=>by omega
 |f+1,a,n,hf,hn,h0,h1,hfr=>by
  have stop: ∀(hr:rnL s fr (f+1) a n=if fr<n then some (a,n) else none)(go: ∀(b:Bool),b=decide (fr<n)→ ∀(T:TV) (H:aw) (c:Nat),Ev G ⟨wT,⟨(0,.ref 0 0 0)::(4,.int .i64 a)::(5,.int .i64 (fr:Int))::T,(0,some (0,.cells [.str s,.int .i64 (n:Int)]))::H,c⟩,[.t 2,.t 3],1⟩ (rpR s (.tup [.int .i64 a,.bool b]) n)),∃v b m,n≤m∧m≤s.length∧(match rnL s fr (f+1) a n with
  |some (x,k)=>b=true∧v=x∧m=k
  |none=>b=false)∧ ∀(T:TV)(H:aw)(c:Nat),
  Ev G ⟨wT,⟨(0,.ref 0 0 0)::(4,.int .i64 a)::(5,.int .i64 (fr:Int))::T,(0,some (0,.cells [.str s,.int .i64 (n:Int)]))::H,c⟩,[.t 2,.t 3],1⟩ (rpR s (.tup [.int .i64 v,.bool b]) m):=fun hr go=>by
   rw[hr]
   by_cases q:fr<n
   ·rw[Ad q]
    exact ⟨a,true,n,by omega,hn,⟨rfl,rfl,rfl⟩,go true (by simp[q])⟩
   ·rw[Ac q]
    exact ⟨a,false,n,by omega,hn,rfl,go false (by simp[q])⟩
  by_cases h:n<s.length
  ·have hb:s[((n:Nat):Int).toNat]? =some s[n]:=by simp[h]
   have hb2:s[n]? =some s[n]:=AJ h;generalize s[n]=b at*;have hbl:=b.toNat_lt
   by_cases d1:48≤b.toNat
   ·by_cases d2:b.toNat≤57
    ·have hd:isD b=true:=by simp[isD,d1,d2]
     have hv:=u6 hd;rw[rnL,hb2];simp only[hd,if_true]
     by_cases hg:4294967295<10*a+f7 b
     ·rw[Ad hg]
      refine ⟨0,false,n+1,by omega,by omega,rfl,fun T H c=>?_⟩
      refine evl ?_
      repeat' ((conv=>whnf);first|refine zIstr ?_ hb (by omega)|refine JK ?_ d1|refine au ?_|(refine ae ?_ ?_<;>intro h))
      refine fX1 ?_;rfl
     ·rw[Ac hg]
      obtain ⟨v,b',m,q1,q2,q3,q4⟩:=vD s hs fr f (10*a+f7 b) (n+1) (by omega) (by omega) (by omega) (by omega) (by omega)
      refine ⟨v,b',m,by omega,q2,q3,fun T H c=>?_⟩
      refine evl ?_
      repeat' ((conv=>whnf);first|refine zIstr ?_ hb (by omega)|refine JK ?_ d1|refine au ?_|(refine ae ?_ ?_<;>intro h))
      refine ab [0,4,5] [0] ?_;exact q4 _ _ _
    ·have hd:isD b=false:=by simp[isD,d2]
     refine stop (by rw[rnL,hb2];simp[hd]) fun e he T H c=>?_
     subst he;refine evl ?_
     repeat' (first|refine cg ?_|(refine ae ?_ ?_<;>intro h))
     refine fX1 ?_;simp[rpR];exact ⟨rfl,rfl⟩
   ·have hd:isD b=false:=by simp[isD,d1]
    refine stop (by rw[rnL,hb2];simp[hd]) fun e he T H c=>?_
    subst he;refine evl ?_
    repeat' (first|refine cg ?_|(refine ae ?_ ?_<;>intro h))
    refine fX1 ?_;simp[rpR];exact ⟨rfl,rfl⟩
  ·refine stop (by rw[rnL,AC (by omega)]) fun e he T H c=>?_
   subst he;refine evA ?_;refine fX1 ?_;simp[rpR];exact ⟨rfl,rfl⟩
theorem oG (s:List UInt8)(hs:s.length<2^40)(n:Nat)(hn:n≤s.length):NumG s n (iP s n):=by
 obtain ⟨v,b,m,q1,q2,q3,q4⟩:=vD s hs n (s.length+1) 0 n (by omega) hn (by omega) (by omega) (by omega)
 refine ⟨v,b,m,q1,q2,?_,q3⟩;refine gvB (F:=Vg) ?_;refine ab [0,4,5] [0] ?_;exact q4 _ _ _
end Go.AM.IR
namespace Go.AM.IR
set_option linter.unusedVariables false
theorem ul: ∀(f m n:Nat),n<10^ (m+1)→(cz f n).length≤m+1
 |0,m,n,h=>by simp[cz]
 |f+1,m,n,h=>by
  simp only[cz];split
  ·simp
  ·rename_i hn
   cases m with
   |zero=>simp at h;omega
   |succ m=>
    have:=ul f m (n/ 10) (by rw[Nat.pow_succ] at h;omega)
    simp;omega
theorem mb {a:Int}(h0:0≤a)(h1:a≤4294967295):(aa a).length≤10:=by
 unfold aa;rw[Ac (by omega)]
 exact ul 19 9 a.toNat (by omega)
def eu:List (List UInt8)→Nat
 | []=>0
 |p::r=>p.length+1+eu r
theorem tN {c:UInt8}: ∀ps:List (List UInt8),(cR c ps).length≤eu ps
 | []=>by simp[cR]
 | [p]=>by simp[cR,eu]
 |p::q::qs=>by
  have:=tN (c:=c) (q::qs);rw[kl,eu];simp;omega
theorem abV (p:Int)(x:Rx)(l:List UInt8):(dh p x l).length≤l.length+2:=by
 unfold dh;split
 ·simp
 ·omega
mutual
theorem aeO: ∀(x:Rx){lv c c':Nat},chk x lv c=some c'→(pat aa x).length+3+32*c≤32*c'
 | .mk k lo hi l,lv,c,c',h=>by
  rw[chk] at h;split at h
  ·cases h
  ·split at h
   ·cases h
   ·split at h
    ·rename_i hn
     have h1:=pR k l h;rw[pat];generalize hps:bw aa k l=ps at*;have h2:=tN (c:=32) ps;have h3:=tN (c:=124) ps;have h4:(ps.headD []).length≤eu ps:=by cases ps<;>simp[eu];omega
     unfold bm at hn;unfold dk;split
     ·simp;omega
     split
     ·rename_i h0 hk1
      rw[Ad hk1] at hn;have hn:=of_decide_eq_true hn;have i1:=mb (a:=lo) hn.1 (by omega)
      have i2:=mb (a:=hi) (by omega) hn.2.2.1
      split
      ·omega
      ·simp;omega
     split
     ·simp;omega
     split
     ·omega
     split
     ·split
      ·simp;omega
      ·omega
     split
     ·simp at h4⊢;omega
     split
     ·simp at h4⊢;omega
     ·simp at h4⊢;omega
    ·cases h
theorem pR (k:Int): ∀(l:List Rx){lv c c':Nat},ir l lv c=some c'→eu (bw aa k l)+32*c≤32*c'
 | [],lv,c,c',h=>by rw[ir] at h;cases h;rw[bw];simp[eu]
 |x::r,lv,c,c',h=>by
  rw[ir] at h;split at h
  ·rename_i c1 h1
   have h2:=aeO x h1;have h3:=pR k r h;have h4:=abV k x (pat aa x);rw[bw,eu];omega
  ·cases h
end
end Go.AM.IR
namespace Go.AM.IR
def gF (f:Nat)(s:List UInt8)(lv:Int)(n:Nat):Option (Rx×Nat)→Prop
 |some (x,m)=>ah G f [.ref 0 0 0,.int .i64 lv] [.cells [.str s,.int .i64 (n:Int)]] (rpR s (.tup [.agg x.enc,.bool true]) m)
 |none=> ∃x m,m≤s.length∧ah G f [.ref 0 0 0,.int .i64 lv] [.cells [.str s,.int .i64 (n:Int)]] (rpR s (.tup [.agg (Rx.enc x),.bool false]) m)
theorem e0 (k lo hi:Int):(Rx.mk k lo hi []).enc= [.int .i64 k,.int .i64 lo,.int .i64 hi,.sl 4 []]:=bi k lo hi []
theorem Pq (s:List UInt8)(lv:Int)(hl:32<lv)(n:Nat)(hn:n≤s.length):gF 656 s lv n none:=by
 refine ⟨rx0,n,hn,?_⟩;refine gvB (F:=jH) ?_;refine eU [] [(68,some (_,.cells (rx0.enc)))] trivial ⟨⟨rfl,leA⟩,trivial⟩ ?_;refine fX1 ?_;refine cJ ?_;rfl
theorem JG (s:List UInt8)(hs:s.length<2^40)(alt:PR)(lv:Int)(hl:lv≤32)(hl0:0≤lv)(hp:Pos s alt)(hA: ∀n,n≤s.length→gF 616 s (lv+1) n (alt n))(n:Nat)(hn:n≤s.length):gF 656 s lv n (cK s (iP s) alt n):=by
 unfold cK
 by_cases h1c:chr s n 46=true
 ·rw[Ad h1c]
  have hlt:=df h1c
  have h1:ah G 642 [.ref 0 0 0,.int .u8 46] [.cells [.str s,.int .i64 ((n:Nat):Int)]] (rpR s (.bool true) (n+1)):=by
   have:=bt s hs 46 (n) (by omega)
   rwa [h1c,Ad rfl] at this
  show ah G 656 _ _ (rpR s (.tup [.agg (Rx.mk 2 0 0 []).enc,.bool true]) (n+1))
  rw[e0];refine gvC (F:=jH) ?_
  repeat' (first|refine bc ?_|refine kX [(0,_,_)] [] ⟨rfl,trivial⟩ trivial (h1) ?_|(refine ae ?_ ?_<;>intro h))
  refine eU [] [(68,some (_,.cells ([.int .i64 2,.int .i64 0,.int .i64 0,.sl 4 []])))] trivial ⟨⟨rfl,leA⟩,trivial⟩ ?_;refine fX1 ?_;refine cJ ?_;rfl
 rw[Ac h1c];rw[AR] at h1c
 have h1:ah G 642 [.ref 0 0 0,.int .u8 46] [.cells [.str s,.int .i64 ((n:Nat):Int)]] (rpR s (.bool false) (n)):=by
  have:=bt s hs 46 (n) (by omega)
  rwa [h1c,Ac (by simp)] at this
 by_cases h2c:chr s n 33=true
 ·rw[Ad h2c]
  have hlt:=df h2c
  have h2:ah G 642 [.ref 0 0 0,.int .u8 33] [.cells [.str s,.int .i64 ((n:Nat):Int)]] (rpR s (.bool true) (n+1)):=by
   have:=bt s hs 33 (n) (by omega)
   rwa [h2c,Ad rfl] at this
  show ah G 656 _ _ (rpR s (.tup [.agg (Rx.mk 4 0 0 []).enc,.bool true]) (n+1))
  rw[e0];refine gvC (F:=jH) ?_
  repeat' (first|refine bc ?_|refine kX [(0,_,_)] [] ⟨rfl,trivial⟩ trivial (h1) ?_|refine kX [(0,_,_)] [] ⟨rfl,trivial⟩ trivial (h2) ?_|(refine ae ?_ ?_<;>intro h))
  refine eU [] [(68,some (_,.cells ([.int .i64 4,.int .i64 0,.int .i64 0,.sl 4 []])))] trivial ⟨⟨rfl,leA⟩,trivial⟩ ?_;refine fX1 ?_;refine cJ ?_;rfl
 rw[Ac h2c];rw[AR] at h2c
 have h2:ah G 642 [.ref 0 0 0,.int .u8 33] [.cells [.str s,.int .i64 ((n:Nat):Int)]] (rpR s (.bool false) (n)):=by
  have:=bt s hs 33 (n) (by omega)
  rwa [h2c,Ac (by simp)] at this
 by_cases h3c:chr s n 40=true
 ·rw[Ad h3c]
  have hlt:=df h3c
  have h3:ah G 642 [.ref 0 0 0,.int .u8 40] [.cells [.str s,.int .i64 ((n:Nat):Int)]] (rpR s (.bool true) (n+1)):=by
   have:=bt s hs 40 (n) (by omega)
   rwa [h3c,Ad rfl] at this
  by_cases h4c:chr s (n+1) 41=true
  ·rw[Ad h4c]
   have hlt2:=df h4c
   have h4:ah G 642 [.ref 0 0 0,.int .u8 41] [.cells [.str s,.int .i64 ((n+1:Nat):Int)]] (rpR s (.bool true) (n+1+1)):=by
    have:=bt s hs 41 (n+1) (by omega)
    rwa [h4c,Ad rfl] at this
   show ah G 656 _ _ (rpR s (.tup [.agg (Rx.mk 0 0 0 []).enc,.bool true]) (n+1+1))
   rw[e0];refine gvC (F:=jH) ?_
   repeat' (first|refine bc ?_|refine kX [(0,_,_)] [] ⟨rfl,trivial⟩ trivial (h1) ?_|refine kX [(0,_,_)] [] ⟨rfl,trivial⟩ trivial (h2) ?_|refine kX [(0,_,_)] [] ⟨rfl,trivial⟩ trivial (h3) ?_|refine kX [(0,_,_)] [] ⟨rfl,trivial⟩ trivial (h4) ?_|(refine ae ?_ ?_<;>intro h))
   refine eU [] [(68,some (_,.cells ([.int .i64 0,.int .i64 0,.int .i64 0,.sl 4 []])))] trivial ⟨⟨rfl,leA⟩,trivial⟩ ?_;refine fX1 ?_;refine cJ ?_;rfl
  rw[Ac h4c];rw[AR] at h4c
  have h4:ah G 642 [.ref 0 0 0,.int .u8 41] [.cells [.str s,.int .i64 ((n+1:Nat):Int)]] (rpR s (.bool false) (n+1)):=by
   have:=bt s hs 41 (n+1) (by omega)
   rwa [h4c,Ac (by simp)] at this
  have hq:=hA (n+1) (by omega)
  cases ha:alt (n+1) with
  |none=>
   rw[ha] at hq;obtain ⟨x,m,hm,hq⟩:=hq;refine ⟨x,m,hm,?_⟩;have hpx:=cq x;obtain ⟨k,lo,hi,l⟩:=x;rw[bi] at hq hpx⊢;refine gvC (F:=jH) ?_
   repeat' (first|refine bc ?_|refine kX [(0,_,_)] [] ⟨rfl,trivial⟩ trivial (h1) ?_|refine kX [(0,_,_)] [] ⟨rfl,trivial⟩ trivial (h2) ?_|refine kX [(0,_,_)] [] ⟨rfl,trivial⟩ trivial (h3) ?_|refine kX [(0,_,_)] [] ⟨rfl,trivial⟩ trivial (h4) ?_|refine kX [(0,_,_)] [] ⟨rfl,trivial⟩ trivial (hq) ?_|(refine ae ?_ ?_<;>intro h))
   refine fX1 ?_;refine cJ ?_;rfl
  |some p=>
   obtain ⟨x,m⟩:=p;rw[ha] at hq;obtain ⟨p1,p2,_⟩:=hp _ _ _ (by omega) ha
   dsimp only;simp only[gF] at hq;have hpx:=cq x;obtain ⟨k,lo,hi,l⟩:=x;rw[bi] at hq hpx
   by_cases h5c:chr s m 41=true
   ·rw[Ad h5c]
    have hlt3:=df h5c
    have h5:ah G 642 [.ref 0 0 0,.int .u8 41] [.cells [.str s,.int .i64 ((m:Nat):Int)]] (rpR s (.bool true) (m+1)):=by
     have:=bt s hs 41 (m) (by omega)
     rwa [h5c,Ad rfl] at this
    show ah G 656 _ _ (rpR s (.tup [.agg (Rx.mk k lo hi l).enc,.bool true]) (m+1))
    rw[bi];refine gvC (F:=jH) ?_
    repeat' (first|refine bc ?_|refine kX [(0,_,_)] [] ⟨rfl,trivial⟩ trivial (h1) ?_|refine kX [(0,_,_)] [] ⟨rfl,trivial⟩ trivial (h2) ?_|refine kX [(0,_,_)] [] ⟨rfl,trivial⟩ trivial (h3) ?_|refine kX [(0,_,_)] [] ⟨rfl,trivial⟩ trivial (h4) ?_|refine kX [(0,_,_)] [] ⟨rfl,trivial⟩ trivial (hq) ?_|refine kX [(0,_,_)] [] ⟨rfl,trivial⟩ trivial (h5) ?_|(refine ae ?_ ?_<;>intro h))
    refine fX1 ?_;refine cJ ?_;rfl
   ·rw[Ac h5c]
    rw[AR] at h5c
    have h5:ah G 642 [.ref 0 0 0,.int .u8 41] [.cells [.str s,.int .i64 ((m:Nat):Int)]] (rpR s (.bool false) (m)):=by
     have:=bt s hs 41 (m) (by omega)
     rwa [h5c,Ac (by simp)] at this
    refine ⟨.mk k lo hi l,m,p2,?_⟩;rw[bi];refine gvC (F:=jH) ?_
    repeat' (first|refine bc ?_|refine kX [(0,_,_)] [] ⟨rfl,trivial⟩ trivial (h1) ?_|refine kX [(0,_,_)] [] ⟨rfl,trivial⟩ trivial (h2) ?_|refine kX [(0,_,_)] [] ⟨rfl,trivial⟩ trivial (h3) ?_|refine kX [(0,_,_)] [] ⟨rfl,trivial⟩ trivial (h4) ?_|refine kX [(0,_,_)] [] ⟨rfl,trivial⟩ trivial (hq) ?_|refine kX [(0,_,_)] [] ⟨rfl,trivial⟩ trivial (h5) ?_|(refine ae ?_ ?_<;>intro h))
    refine fX1 ?_;refine cJ ?_;rfl
 rw[Ac h3c];rw[AR] at h3c
 have h3:ah G 642 [.ref 0 0 0,.int .u8 40] [.cells [.str s,.int .i64 ((n:Nat):Int)]] (rpR s (.bool false) (n)):=by
  have:=bt s hs 40 (n) (by omega)
  rwa [h3c,Ac (by simp)] at this
 by_cases h4c:chr s n 91=true
 ·rw[Ad h4c]
  have hlt:=df h4c
  have h4:ah G 642 [.ref 0 0 0,.int .u8 91] [.cells [.str s,.int .i64 ((n:Nat):Int)]] (rpR s (.bool true) (n+1)):=by
   have:=bt s hs 91 (n) (by omega)
   rwa [h4c,Ad rfl] at this
  obtain ⟨v,b,m,p1,p2,g1,r1⟩:=oG s hs (n+1) (by omega)
  have hmj:(if chr s m 45 then m+1 else m)≤s.length:=by
   split
   ·rename_i c;have:=df c;omega
   ·omega
  obtain ⟨v2,b2,m2,p3,p4,g2,r2⟩:=oG s hs (if chr s m 45 then m+1 else m) hmj
  have h5:=bt s hs 45 m (by omega)
  have h6:=bt s hs 93 m2 (by omega)
  have h5:ah G 642 [.ref 0 0 0,.int .u8 45] [.cells [.str s,.int .i64 (m:Int)]] (rpR s (.bool (chr s m 45)) (if chr s m 45 then m+1 else m)):=h5
  have h6:ah G 642 [.ref 0 0 0,.int .u8 93] [.cells [.str s,.int .i64 (m2:Int)]] (rpR s (.bool (chr s m2 93)) (if chr s m2 93 then m2+1 else m2)):=h6
  -- the result fails
  have bad:(b=false∨chr s m 45=false∨b2=false)→gF 656 s lv n none:=fun hb=>by
   refine ⟨.mk 1 v v2 [],m2,p4,?_⟩;rw[e0];generalize hj:(if chr s m 45 then m+1 else m)=j at*
   generalize chr s m 45=d at*;cases b
   ·refine gvC (F:=jH) ?_
    repeat' (first|refine bc ?_|refine kX [(0,_,_)] [] ⟨rfl,trivial⟩ trivial (h1) ?_|refine kX [(0,_,_)] [] ⟨rfl,trivial⟩ trivial (h2) ?_|refine kX [(0,_,_)] [] ⟨rfl,trivial⟩ trivial (h3) ?_|refine kX [(0,_,_)] [] ⟨rfl,trivial⟩ trivial (h4) ?_|refine kX [(0,_,_)] [] ⟨rfl,trivial⟩ trivial (g1) ?_|refine kX [(0,_,_)] [] ⟨rfl,trivial⟩ trivial (h5) ?_|refine kX [(0,_,_)] [] ⟨rfl,trivial⟩ trivial (g2) ?_|(refine ae ?_ ?_<;>intro h))
    refine eU [] [(68,some (_,.cells ([.int .i64 1,.int .i64 v,.int .i64 v2,.sl 4 []])))] trivial ⟨⟨rfl,leA⟩,trivial⟩ ?_;refine fX1 ?_;refine cJ ?_;rfl
   ·cases d
    ·refine gvC (F:=jH) ?_
     repeat' (first|refine bc ?_|refine kX [(0,_,_)] [] ⟨rfl,trivial⟩ trivial (h1) ?_|refine kX [(0,_,_)] [] ⟨rfl,trivial⟩ trivial (h2) ?_|refine kX [(0,_,_)] [] ⟨rfl,trivial⟩ trivial (h3) ?_|refine kX [(0,_,_)] [] ⟨rfl,trivial⟩ trivial (h4) ?_|refine kX [(0,_,_)] [] ⟨rfl,trivial⟩ trivial (g1) ?_|refine kX [(0,_,_)] [] ⟨rfl,trivial⟩ trivial (h5) ?_|refine kX [(0,_,_)] [] ⟨rfl,trivial⟩ trivial (g2) ?_|(refine ae ?_ ?_<;>intro h))
     refine eU [] [(68,some (_,.cells ([.int .i64 1,.int .i64 v,.int .i64 v2,.sl 4 []])))] trivial ⟨⟨rfl,leA⟩,trivial⟩ ?_;refine fX1 ?_;refine cJ ?_;rfl
    ·obtain rfl:b2=false:=by simpa using hb
     refine gvC (F:=jH) ?_
     repeat' (first|refine bc ?_|refine kX [(0,_,_)] [] ⟨rfl,trivial⟩ trivial (h1) ?_|refine kX [(0,_,_)] [] ⟨rfl,trivial⟩ trivial (h2) ?_|refine kX [(0,_,_)] [] ⟨rfl,trivial⟩ trivial (h3) ?_|refine kX [(0,_,_)] [] ⟨rfl,trivial⟩ trivial (h4) ?_|refine kX [(0,_,_)] [] ⟨rfl,trivial⟩ trivial (g1) ?_|refine kX [(0,_,_)] [] ⟨rfl,trivial⟩ trivial (h5) ?_|refine kX [(0,_,_)] [] ⟨rfl,trivial⟩ trivial (g2) ?_|(refine ae ?_ ?_<;>intro h))
     refine eU [] [(68,some (_,.cells ([.int .i64 1,.int .i64 v,.int .i64 v2,.sl 4 []])))] trivial ⟨⟨rfl,leA⟩,trivial⟩ ?_;refine fX1 ?_;refine cJ ?_;rfl
  cases hr:iP s (n+1) with
  |none=>
   rw[hr] at r1;exact bad (.inl r1)
  |some q=>
   obtain ⟨a,k⟩:=q;rw[hr] at r1;obtain ⟨rfl,rfl,rfl⟩:=r1;dsimp only
   by_cases h5c:chr s m 45=true
   ·rw[Ad h5c]
    have hj:(if chr s m 45 then m+1 else m)=m+1:=Ad h5c
    cases hr2:iP s (m+1) with
    |none=>
     rw[hj,hr2] at r2;exact bad (.inr (.inr r2))
    |some q=>
     obtain ⟨a2,k2⟩:=q;rw[hj,hr2] at r2;obtain ⟨rfl,rfl,rfl⟩:=r2;dsimp only;rw[hj] at h5 g2;rw[h5c] at h5
     by_cases h6c:chr s m2 93=true
     ·rw[Ad h6c]
      have hj2:(if chr s m2 93 then m2+1 else m2)=m2+1:=Ad h6c
      rw[hj2,h6c] at h6;show ah G 656 _ _ (rpR s (.tup [.agg (Rx.mk 1 v v2 []).enc,.bool true]) (m2+1))
      rw[e0];refine gvC (F:=jH) ?_
      repeat' (first|refine bc ?_|refine kX [(0,_,_)] [] ⟨rfl,trivial⟩ trivial (h1) ?_|refine kX [(0,_,_)] [] ⟨rfl,trivial⟩ trivial (h2) ?_|refine kX [(0,_,_)] [] ⟨rfl,trivial⟩ trivial (h3) ?_|refine kX [(0,_,_)] [] ⟨rfl,trivial⟩ trivial (h4) ?_|refine kX [(0,_,_)] [] ⟨rfl,trivial⟩ trivial (g1) ?_|refine kX [(0,_,_)] [] ⟨rfl,trivial⟩ trivial (h5) ?_|refine kX [(0,_,_)] [] ⟨rfl,trivial⟩ trivial (g2) ?_|refine kX [(0,_,_)] [] ⟨rfl,trivial⟩ trivial (h6) ?_|(refine ae ?_ ?_<;>intro h))
      refine eU [] [(68,some (_,.cells ([.int .i64 1,.int .i64 v,.int .i64 v2,.sl 4 []])))] trivial ⟨⟨rfl,leA⟩,trivial⟩ ?_;refine fX1 ?_;refine cJ ?_;rfl
     ·rw[Ac h6c]
      have hj2:(if chr s m2 93 then m2+1 else m2)=m2:=Ac h6c
      rw[AR] at h6c;rw[hj2,h6c] at h6;refine ⟨.mk 1 v v2 [],m2,p4,?_⟩;rw[e0];refine gvC (F:=jH) ?_
      repeat' (first|refine bc ?_|refine kX [(0,_,_)] [] ⟨rfl,trivial⟩ trivial (h1) ?_|refine kX [(0,_,_)] [] ⟨rfl,trivial⟩ trivial (h2) ?_|refine kX [(0,_,_)] [] ⟨rfl,trivial⟩ trivial (h3) ?_|refine kX [(0,_,_)] [] ⟨rfl,trivial⟩ trivial (h4) ?_|refine kX [(0,_,_)] [] ⟨rfl,trivial⟩ trivial (g1) ?_|refine kX [(0,_,_)] [] ⟨rfl,trivial⟩ trivial (h5) ?_|refine kX [(0,_,_)] [] ⟨rfl,trivial⟩ trivial (g2) ?_|refine kX [(0,_,_)] [] ⟨rfl,trivial⟩ trivial (h6) ?_|(refine ae ?_ ?_<;>intro h))
      refine eU [] [(68,some (_,.cells ([.int .i64 1,.int .i64 v,.int .i64 v2,.sl 4 []])))] trivial ⟨⟨rfl,leA⟩,trivial⟩ ?_;refine fX1 ?_;refine cJ ?_;rfl
   ·rw[Ac h5c]
    rw[AR] at h5c;exact bad (.inr (.inl h5c))
 rw[Ac h4c];rw[AR] at h4c
 have h4:ah G 642 [.ref 0 0 0,.int .u8 91] [.cells [.str s,.int .i64 ((n:Nat):Int)]] (rpR s (.bool false) (n)):=by
  have:=bt s hs 91 (n) (by omega)
  rwa [h4c,Ac (by simp)] at this
 obtain ⟨v,b,m,p1,p2,g1,r1⟩:=oG s hs n hn;cases hr:iP s n with
 |none=>
  rw[hr] at r1;obtain rfl:b=false:=r1;refine ⟨.mk 1 v v [],m,p2,?_⟩;rw[e0];refine gvC (F:=jH) ?_
  repeat' (first|refine bc ?_|refine kX [(0,_,_)] [] ⟨rfl,trivial⟩ trivial (h1) ?_|refine kX [(0,_,_)] [] ⟨rfl,trivial⟩ trivial (h2) ?_|refine kX [(0,_,_)] [] ⟨rfl,trivial⟩ trivial (h3) ?_|refine kX [(0,_,_)] [] ⟨rfl,trivial⟩ trivial (h4) ?_|refine kX [(0,_,_)] [] ⟨rfl,trivial⟩ trivial (g1) ?_|(refine ae ?_ ?_<;>intro h))
  refine eU [] [(68,some (_,.cells ([.int .i64 1,.int .i64 v,.int .i64 v,.sl 4 []])))] trivial ⟨⟨rfl,leA⟩,trivial⟩ ?_;refine fX1 ?_;refine cJ ?_;rfl
 |some q=>
  obtain ⟨a,k⟩:=q;rw[hr] at r1;obtain ⟨rfl,rfl,rfl⟩:=r1;show ah G 656 _ _ (rpR s (.tup [.agg (Rx.mk 1 v v []).enc,.bool true]) m)
  rw[e0];refine gvC (F:=jH) ?_
  repeat' (first|refine bc ?_|refine kX [(0,_,_)] [] ⟨rfl,trivial⟩ trivial (h1) ?_|refine kX [(0,_,_)] [] ⟨rfl,trivial⟩ trivial (h2) ?_|refine kX [(0,_,_)] [] ⟨rfl,trivial⟩ trivial (h3) ?_|refine kX [(0,_,_)] [] ⟨rfl,trivial⟩ trivial (h4) ?_|refine kX [(0,_,_)] [] ⟨rfl,trivial⟩ trivial (g1) ?_|(refine ae ?_ ?_<;>intro h))
  refine eU [] [(68,some (_,.cells ([.int .i64 1,.int .i64 v,.int .i64 v,.sl 4 []])))] trivial ⟨⟨rfl,leA⟩,trivial⟩ ?_;refine fX1 ?_;refine cJ ?_;rfl
end Go.AM.IR
namespace Go.AM.IR
theorem sA (s:List UInt8)(hs:s.length<2^40)(atom:PR)(lv:Int)(hp:Pos s atom)(hA: ∀n,n≤s.length→gF 656 s lv n (atom n))(n:Nat)(hn:n≤s.length):gF 651 s lv n (en s atom n):=by
 unfold en;have hq:=hA n hn;cases ha:atom n with
 |none=>
  rw[ha] at hq;obtain ⟨x,m,hm,hq⟩:=hq;refine ⟨x,m,hm,?_⟩;have hpx:=cq x;obtain ⟨k,lo,hi,l⟩:=x;rw[bi] at hq hpx⊢;refine gvC (F:=wZ) ?_
  repeat' (first|refine bc ?_|refine kX [(0,_,_)] [] ⟨rfl,trivial⟩ trivial (hq) ?_|(refine ae ?_ ?_<;>intro h))
  refine fX1 ?_;refine cJ ?_;rfl
 |some p=>
  obtain ⟨x,m⟩:=p;rw[ha] at hq;obtain ⟨p1,p2,_⟩:=hp _ _ _ hn ha;dsimp only;simp only[gF] at hq;have hpx:=cq x;have hex: ∀k:Int,(Rx.mk k 0 0 [x]).enc= [.int .i64 k,.int .i64 0,.int .i64 0,.sl 4 [x.enc]]:=fun k=>bi k 0 0 [x]
  obtain ⟨k,lo,hi,l⟩:=x;have hen:=bi k lo hi l;rw[hen] at hq hpx hex
  by_cases h1c:chr s m 42=true
  ·rw[Ad h1c]
   have hlt:=df h1c
   have h1:ah G 642 [.ref 0 0 0,.int .u8 42] [.cells [.str s,.int .i64 ((m:Nat):Int)]] (rpR s (.bool true) (m+1)):=by
    have:=bt s hs 42 (m) (by omega)
    rwa [h1c,Ad rfl] at this
   show ah G 651 _ _ (rpR s (.tup [.agg (Rx.mk 5 0 0 [.mk k lo hi l]).enc,.bool true]) (m+1))
   rw[hex];refine gvC (F:=wZ) ?_
   repeat' (first|refine bc ?_|refine kX [(0,_,_)] [] ⟨rfl,trivial⟩ trivial (hq) ?_|refine kX [(0,_,_)] [] ⟨rfl,trivial⟩ trivial (h1) ?_|(refine ae ?_ ?_<;>intro h))
   refine kn [(97,_,_)] [5,4] [0,68] ⟨rfl,frP,trivial⟩ ?_;repeat ((conv=>whnf);first|refine frA ?_|intro T H)
   refine fX1 ?_;refine cJ ?_;rfl
  rw[Ac h1c];rw[AR] at h1c
  have h1:ah G 642 [.ref 0 0 0,.int .u8 42] [.cells [.str s,.int .i64 ((m:Nat):Int)]] (rpR s (.bool false) (m)):=by
   have:=bt s hs 42 (m) (by omega)
   rwa [h1c,Ac (by simp)] at this
  by_cases h2c:chr s m 43=true
  ·rw[Ad h2c]
   have hlt:=df h2c
   have h2:ah G 642 [.ref 0 0 0,.int .u8 43] [.cells [.str s,.int .i64 ((m:Nat):Int)]] (rpR s (.bool true) (m+1)):=by
    have:=bt s hs 43 (m) (by omega)
    rwa [h2c,Ad rfl] at this
   show ah G 651 _ _ (rpR s (.tup [.agg (Rx.mk 6 0 0 [.mk k lo hi l]).enc,.bool true]) (m+1))
   rw[hex];refine gvC (F:=wZ) ?_
   repeat' (first|refine bc ?_|refine kX [(0,_,_)] [] ⟨rfl,trivial⟩ trivial (hq) ?_|refine kX [(0,_,_)] [] ⟨rfl,trivial⟩ trivial (h1) ?_|refine kX [(0,_,_)] [] ⟨rfl,trivial⟩ trivial (h2) ?_|(refine ae ?_ ?_<;>intro h))
   refine kn [(97,_,_)] [5,4] [0,68] ⟨rfl,frP,trivial⟩ ?_;repeat ((conv=>whnf);first|refine frA ?_|intro T H)
   refine fX1 ?_;refine cJ ?_;rfl
  rw[Ac h2c];rw[AR] at h2c
  have h2:ah G 642 [.ref 0 0 0,.int .u8 43] [.cells [.str s,.int .i64 ((m:Nat):Int)]] (rpR s (.bool false) (m)):=by
   have:=bt s hs 43 (m) (by omega)
   rwa [h2c,Ac (by simp)] at this
  by_cases h3c:chr s m 63=true
  ·rw[Ad h3c]
   have hlt:=df h3c
   have h3:ah G 642 [.ref 0 0 0,.int .u8 63] [.cells [.str s,.int .i64 ((m:Nat):Int)]] (rpR s (.bool true) (m+1)):=by
    have:=bt s hs 63 (m) (by omega)
    rwa [h3c,Ad rfl] at this
   show ah G 651 _ _ (rpR s (.tup [.agg (Rx.mk 7 0 0 [.mk k lo hi l]).enc,.bool true]) (m+1))
   rw[hex];refine gvC (F:=wZ) ?_
   repeat' (first|refine bc ?_|refine kX [(0,_,_)] [] ⟨rfl,trivial⟩ trivial (hq) ?_|refine kX [(0,_,_)] [] ⟨rfl,trivial⟩ trivial (h1) ?_|refine kX [(0,_,_)] [] ⟨rfl,trivial⟩ trivial (h2) ?_|refine kX [(0,_,_)] [] ⟨rfl,trivial⟩ trivial (h3) ?_|(refine ae ?_ ?_<;>intro h))
   refine kn [(97,_,_)] [5,4] [0,68] ⟨rfl,frP,trivial⟩ ?_;repeat ((conv=>whnf);first|refine frA ?_|intro T H)
   refine fX1 ?_;refine cJ ?_;rfl
  rw[Ac h3c];rw[AR] at h3c
  have h3:ah G 642 [.ref 0 0 0,.int .u8 63] [.cells [.str s,.int .i64 ((m:Nat):Int)]] (rpR s (.bool false) (m)):=by
   have:=bt s hs 63 (m) (by omega)
   rwa [h3c,Ac (by simp)] at this
  show ah G 651 _ _ (rpR s (.tup [.agg (Rx.mk k lo hi l).enc,.bool true]) m)
  rw[hen];refine gvC (F:=wZ) ?_
  repeat' (first|refine bc ?_|refine kX [(0,_,_)] [] ⟨rfl,trivial⟩ trivial (hq) ?_|refine kX [(0,_,_)] [] ⟨rfl,trivial⟩ trivial (h1) ?_|refine kX [(0,_,_)] [] ⟨rfl,trivial⟩ trivial (h2) ?_|refine kX [(0,_,_)] [] ⟨rfl,trivial⟩ trivial (h3) ?_|(refine ae ?_ ?_<;>intro h))
  refine fX1 ?_;refine cJ ?_;rfl
end Go.AM.IR
