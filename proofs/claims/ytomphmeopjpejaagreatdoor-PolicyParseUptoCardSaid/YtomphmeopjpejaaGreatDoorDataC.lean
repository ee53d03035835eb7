/- What functions of this program give. -/
import Derived.Test.YtomphmeopjpejaaGreatDoorDataB
set_option linter.unusedSectionVars false
set_option linter.unusedVariables false
set_option linter.unusedSimpArgs false
set_option maxHeartbeats 4000000
set_option maxRecDepth 20000
namespace Go.AM.IR
def rpR (s:B5)(v:AV)(m:Nat):Ret:=⟨v,[(true,.cells [.str s,.int .i64 (m:Int)])]⟩
theorem bv (s:B5)(hs:s.length<2^40)(c:UInt8)(n:Nat)(hn:n<=s.length):ag G 642 [.ref 0 0 0,.int .u8 (c.toNat:Int)] [.cells [.str s,.int .i64 (n:Int)]] (rpR s (.bool (chr s n c)) (if chr s n c then n+1 else n)):=by
 by_cases h:n<s.length
 ·have hb:s[((n:Nat):Int).toNat]? =some s[n]:=by simp[h]
  have hch:chr s n c=(s[n]==c):=by unfold chr;simp[h]
  generalize s[n]=b at*
  by_cases hbc:b.toNat=c.toNat
  ·have e:b=c:=A5.1 hbc
   have hi:(b.toNat:Int)=(c.toNat:Int):=by rw[hbc]
   rw[hch,show (b==c)=true from by simp[e],Ac rfl]
   refine gvC (F:=Jv) ?_
   repeat' (first|refine bp ?_|apply ae<;>intro h)
   refine fX1 ?_;rfl
  ·have e: ¬b=c:=λq=>hbc (by rw[q])
   have hi: ¬(b.toNat:Int)=(c.toNat:Int):=by omega
   rw[hch,show (b==c)=false from by simp[e],Aa (by simp)]
   refine gvC (F:=Jv) ?_
   repeat' (first|refine bp ?_|apply ae<;>intro h)
   refine fX1 ?_;rfl
 ·have hch:chr s n c=false:=by unfold chr;rw[AA (by omega)];rfl
  rw[hch,Aa (by simp)]
  refine gvB (F:=Jv) ?_;refine fX1 ?_;rfl
theorem FP {kv:AV->Prop}{b:UInt8}(h:kv (.int .u8 (gN b)))(hb:48<=b.toNat): ∃v,bm .sub (.int .u8 (b.toNat:Int)) (.int .u8 48)=some v/\kv v:=by
 refine ⟨_,?_,h⟩;have hl:=b.toNat_lt;show some (AV.int .u8 (IntKind.wrap .u8 ((b.toNat:Int)-48)))=_
 unfold gN;rw[rc (by omega) (by omega)]
def NumG (s:B5)(n:Nat)(o:Option (Int×Nat)):Prop:= ∃v b m,n<=m/\m<=s.length/\ag G 661 [.ref 0 0 0] [.cells [.str s,.int .i64 (n:Int)]] (rpR s (.tup [.int .i64 v,.bool b]) m)/\match o with
 |some (a,k)=>b=true/\v=a/\m=k
 |none=>b=false
theorem wb (s:B5)(hs:s.length<2^40)(fr:Nat): ∀(f:Nat)(a:Int)(n:Nat)(hf:s.length<f+n)(hn:n<=s.length)(h0:0<=a)(h1:a<=4294967295)(hfr:fr<=n),∃v b m,n<=m/\m<=s.length/\(match rnL s fr f a n with
  |some (x,k)=>b=true/\v=x/\m=k
  |none=>b=false)/\ ∀(T:TV)(H:az)(c:Nat),
  Ev G ⟨xf,⟨(0,.ref 0 0 0)::(4,.int .i64 a)::(5,.int .i64 (fr:Int))::T,(0,some (0,.cells [.str s,.int .i64 (n:Int)]))::H,c⟩,[.t 2,.t 3],1⟩ (rpR s (.tup [.int .i64 v,.bool b]) m)
 |0,a,n,hf,hn,h0,h1,hfr=>by omega
 |f+1,a,n,hf,hn,h0,h1,hfr=>by
  have stop: ∀(hr:rnL s fr (f+1) a n=if fr<n then some (a,n) else none)(go: ∀(b:Bool),b=decide (fr<n)-> ∀(T:TV) (H:az) (c:Nat),Ev G ⟨xf,⟨(0,.ref 0 0 0)::(4,.int .i64 a)::(5,.int .i64 (fr:Int))::T,(0,some (0,.cells [.str s,.int .i64 (n:Int)]))::H,c⟩,[.t 2,.t 3],1⟩ (rpR s (.tup [.int .i64 a,.bool b]) n)),∃v b m,n<=m/\m<=s.length/\(match rnL s fr (f+1) a n with
  |some (x,k)=>b=true/\v=x/\m=k
  |none=>b=false)/\ ∀(T:TV)(H:az)(c:Nat),
  Ev G ⟨xf,⟨(0,.ref 0 0 0)::(4,.int .i64 a)::(5,.int .i64 (fr:Int))::T,(0,some (0,.cells [.str s,.int .i64 (n:Int)]))::H,c⟩,[.t 2,.t 3],1⟩ (rpR s (.tup [.int .i64 v,.bool b]) m):=λhr go=>by
   rw[hr]
   by_cases q:fr<n
   ·rw[Ac q]
    exact ⟨a,true,n,by omega,hn,⟨rfl,rfl,rfl⟩,go true (by simp[q])⟩
   ·rw[Aa q]
    exact ⟨a,false,n,by omega,hn,rfl,go false (by simp[q])⟩
  by_cases h:n<s.length
  ·have hb:s[((n:Nat):Int).toNat]? =some s[n]:=by simp[h]
   have hb2:s[n]? =some s[n]:=AF h;generalize s[n]=b at*;have hbl:=b.toNat_lt
   by_cases d1:48<=b.toNat
   ·by_cases d2:b.toNat<=57
    ·have hd:isD b=true:=by simp[isD,d1,d2]
     have hv:=vI hd;rw[rnL,hb2];simp only[hd,if_true]
     by_cases hg:4294967295<10*a+gN b
     ·rw[Ac hg]
      refine ⟨0,false,n+1,by omega,by omega,rfl,λT H c=>?_⟩
      refine evl ?_
      repeat' ((conv=>whnf);first|refine zIstr ?_ hb (by omega)|refine FP ?_ d1|refine aq ?_|apply ae<;>intro h)
      refine fX1 ?_;rfl
     ·rw[Aa hg]
      obtain ⟨v,b',m,q1,q2,q3,q4⟩:=wb s hs fr f (10*a+gN b) (n+1) (by omega) (by omega) (by omega) (by omega) (by omega)
      refine ⟨v,b',m,by omega,q2,q3,λT H c=>?_⟩
      refine evl ?_
      repeat' ((conv=>whnf);first|refine zIstr ?_ hb (by omega)|refine FP ?_ d1|refine aq ?_|apply ae<;>intro h)
      refine au [0,4,5] [0] ?_;exact q4 _ _ _
    ·have hd:isD b=false:=by simp[isD,d2]
     refine stop (by rw[rnL,hb2];simp[hd]) λe he T H c=>?_
     subst he;refine evl ?_
     repeat' (first|refine bp ?_|apply ae<;>intro h)
     refine fX1 ?_;simp[rpR];exact ⟨rfl,rfl⟩
   ·have hd:isD b=false:=by simp[isD,d1]
    refine stop (by rw[rnL,hb2];simp[hd]) λe he T H c=>?_
    subst he;refine evl ?_
    repeat' (first|refine bp ?_|apply ae<;>intro h)
    refine fX1 ?_;simp[rpR];exact ⟨rfl,rfl⟩
  ·refine stop (by rw[rnL,AA (by omega)]) λe he T H c=>?_
   subst he;refine evA ?_;refine fX1 ?_;simp[rpR];exact ⟨rfl,rfl⟩
theorem o5 (s:B5)(hs:s.length<2^40)(n:Nat)(hn:n<=s.length):NumG s n (js s n):=by
 obtain ⟨v,b,m,q1,q2,q3,q4⟩:=wb s hs n (s.length+1) 0 n (by omega) hn (by omega) (by omega) (by omega)
 refine ⟨v,b,m,q1,q2,?_,q3⟩;refine gvB (F:=QL) ?_;refine au [0,4,5] [0] ?_;exact q4 _ _ _
set_option linter.unusedVariables false
inductive Sml:Rx->Prop
 |mk {k lo hi:Int} {l:C7} (h:l.length<2^40) (hk: ∀x∈l,Sml x):Sml (.mk k lo hi l)
section
variable {k lo hi:Int}{l:C7}(h:Sml (.mk k lo hi l))
include h
theorem Sml.len:l.length<2^40:=by cases h;assumption
theorem Sml.kid: ∀x∈l,Sml x:=by cases h;assumption
end
theorem Sml.leaf (k lo hi:Int):Sml (.mk k lo hi []):=.mk (by simp) (by simp)
def Pos (s:B5)(P:PR):Prop:= ∀n x m,n<=s.length->P n=some (x,m)->n<=m/\m<=s.length/\Sml x
def SB (s:B5)(P:NR):Prop:= ∀n a m,n<=s.length->P n=some (a,m)->n<=m/\m<=s.length
theorem dy {s:B5}{n:Nat}{c:UInt8}(h:chr s n c=true):n<s.length:=by
 unfold chr at h;rcases AO n s.length with q|q
 ·exact q
 ·rw[AA q] at h;simp at h
theorem xL {s:B5}{num:NR}{alt:PR}(hn:SB s num)(ha:Pos s alt):Pos s (di s num alt):=by
 intro n x m hl h;unfold di at h;split at h
 ·rename_i c;have:=dy c;cases h;exact ⟨by omega,by omega,.leaf ..⟩
 split at h
 ·rename_i c;have:=dy c;cases h;exact ⟨by omega,by omega,.leaf ..⟩
 split at h
 ·rename_i c;have:=dy c
  split at h
  ·rename_i c;have:=dy c;cases h;exact ⟨by omega,by omega,.leaf ..⟩
  ·split at h
   ·rename_i y k hk
    have:=ha _ _ _ (by omega) hk
    split at h
    ·rename_i c;have:=dy c;cases h;exact ⟨by omega,by omega,(by assumption:_/\_/\_).2.2⟩
    ·cases h
   ·cases h
 split at h
 ·rename_i c;have:=dy c
  split at h
  ·rename_i a k hk
   have:=hn _ _ _ (by omega) hk
   split at h
   ·rename_i c;have:=dy c
    split at h
    ·rename_i b j hj
     have:=hn _ _ _ (by omega) hj
     split at h
     ·rename_i c;have:=dy c;cases h;exact ⟨by omega,by omega,.leaf ..⟩
     ·cases h
    ·cases h
   ·cases h
  ·cases h
 ·split at h
  ·rename_i a k hk
   have:=hn _ _ _ (by omega) hk
   cases h;exact ⟨by omega,by omega,.leaf ..⟩
  ·cases h
theorem mY {s:B5}{atom:PR}(ha:Pos s atom):Pos s (eO s atom):=by
 intro n x m hl h;unfold eO at h;split at h
 ·rename_i y k hk
  obtain ⟨h1,h2,h3⟩:=ha _ _ _ hl hk;have hs: ∀p:Int,Sml (.mk p 0 0 [y]):=λp=>.mk (by simp) (by simpa using h3)
  split at h
  ·rename_i c;have:=dy c;cases h;exact ⟨by omega,by omega,hs _⟩
  split at h
  ·rename_i c;have:=dy c;cases h;exact ⟨by omega,by omega,hs _⟩
  split at h
  ·rename_i c;have:=dy c;cases h;exact ⟨by omega,by omega,hs _⟩
  ·cases h;exact ⟨h1,h2,h3⟩
 ·cases h
theorem Nw {s:B5}{item:PR}{c:UInt8}(hi:Pos s item): ∀(f:Nat)(acc:C7)(n:Nat)(l:C7)(m:Nat),n<=s.length->(∀x∈acc,Sml x)->fe s item c f acc n=some (l,m)->n<=m/\m<=s.length/\(∀x∈l,Sml x)/\l.length<=acc.length+f
 |0,_,_,_,_,_,_,h=>by simp[fe] at h
 |f+1,acc,n,l,m,hn,ha,h=>by
  rw[fe] at h;split at h
  ·rename_i y k hk
   obtain ⟨h1,h2,h3⟩:=hi _ _ _ hn hk
   have ha': ∀x∈acc++[y],Sml x:=λx hx=>by
    rcases BE.1 hx with q|q
    ·exact ha x q
    ·simp only[BO] at q;rw[q];exact h3
   split at h
   ·rename_i q
    have:=dy q;obtain ⟨q1,q2,q3,q4⟩:=Nw hi f (acc++[y]) (k+1) l m (by omega) ha' h
    simp at q4;exact ⟨by omega,q2,q3,by omega⟩
   ·cases h
    exact ⟨h1,h2,ha',by simp⟩
  ·cases h
section
variable {s:B5}(hs:s.length<2^32){item:PR}{c:UInt8}{k:Int}(hi:Pos s item)
include hs hi
theorem one_pos:Pos s (λn=>ix k (fe s item c (s.length+1) [] n)):=by
 intro n x m hl h;dsimp only at h;cases hq:fe s item c (s.length+1) [] n with
 |none=>rw[hq] at h;cases h
 |some p=>
  obtain ⟨l,j⟩:=p;obtain ⟨q1,q2,q3,q4⟩:=Nw hi _ _ _ _ _ hl (by simp) hq
  rw[hq] at h;have hl2:Sml (.mk k 0 0 l):=.mk (by simp at q4;omega) q3
  unfold ix at h;split at h
  ·rename_i y m' e
   obtain ⟨rfl,rfl⟩:=Prod.mk.inj (Ad e);cases h;exact ⟨q1,q2,q3 x (by simp)⟩
  ·rename_i l' m' _ e
   obtain ⟨rfl,rfl⟩:=Prod.mk.inj (Ad e);cases h;exact ⟨q1,q2,hl2⟩
  ·cases h
theorem vl:Pos s (kH s item):=one_pos hs hi
end
theorem rB {s:B5}(hs:s.length<2^32){num:NR}(hn:SB s num): ∀k,Pos s (dj s num k)
 |0=>λn x m _ h=>by simp[dj] at h
 |k+1=>by
  rw[dj];exact one_pos hs (vl hs (mY (xL hn (rB hs hn k))))
theorem Ny {s:B5}{fr:Nat}: ∀(f:Nat)(a:Int)(n:Nat)(b:Int)(m:Nat),n<=s.length->rnL s fr f a n=some (b,m)->n<=m/\m<=s.length
 |0,_,_,_,_,_,h=>by simp[rnL] at h
 |f+1,a,n,b,m,hn,h=>by
  rw[rnL] at h;split at h
  ·rename_i c hc
   have hlt:n<s.length:=by
    rcases AO n s.length with q|q
    ·exact q
    ·rw[AA q] at hc;cases hc
   split at h
   ·split at h
    ·cases h
    ·have:=Ny f _ (n+1) b m (by omega) h;omega
   ·split at h
    ·cases h;omega
    ·cases h
  ·split at h
   ·cases h;omega
   ·cases h
section
variable (f:Nat)(s:B5)(lv:Int)
theorem wL:SB s (js s):=λn a m hn h=>Ny _ _ _ _ _ hn h
theorem mH:SB s (gH s):=λn a m hn h=>by
 unfold gH at h;dsimp only at h;split at h
 ·cases h
 split at h
 ·cases h
 split at h
 ·cases h
 cases h;have h1:((s.drop n).takeWhile isD).length<=(s.drop n).length:=(List.takeWhile_sublist _).length_le;simp at h1;omega
def ir (n:Nat):DD->Prop
 |some (x,m)=>ag G f [.ref 0 0 0,.int .i64 lv] [.cells [.str s,.int .i64 (n:Int)]] (rpR s (.tup [.agg x.enc,.bool true]) m)
 |none=> ∃x m,m<=s.length/\ag G f [.ref 0 0 0,.int .i64 lv] [.cells [.str s,.int .i64 (n:Int)]] (rpR s (.tup [.agg (Rx.enc x),.bool false]) m)
theorem e0 (k lo hi:Int):(Rx.mk k lo hi []).enc= [.int .i64 k,.int .i64 lo,.int .i64 hi,.sl 4 []]:=bl k lo hi []
theorem Lk (hl:32<lv)(n:Nat)(hn:n<=s.length):ir 656 s lv n none:=by
 refine ⟨rx0,n,hn,?_⟩;refine gvB (F:=j7) ?_;refine b9 [] [(68,some (_,.cells (rx0.enc)))] trivial ⟨⟨rfl,leA⟩,trivial⟩ ?_;refine fX1 ?_;refine cx ?_;rfl
theorem FF (hs:s.length<2^40)(alt:PR)(lv:Int)(hl:lv<=32)(hl0:0<=lv)(hp:Pos s alt)(hA: ∀n,n<=s.length->ir 616 s (lv+1) n (alt n))(n:Nat)(hn:n<=s.length):ir 656 s lv n (di s (js s) alt n):=by
 unfold di
 by_cases h1c:chr s n 46=true
 ·rw[Ac h1c]
  have hlt:=dy h1c
  have h1:ag G 642 [.ref 0 0 0,.int .u8 46] [.cells [.str s,.int .i64 ((n:Nat):Int)]] (rpR s (.bool true) (n+1)):=by
   have:=bv s hs 46 (n) (by omega)
   rwa [h1c,Ac rfl] at this
  show ag G 656 _ _ (rpR s (.tup [.agg (Rx.mk 2 0 0 []).enc,.bool true]) (n+1))
  rw[e0];refine gvC (F:=j7) ?_
  repeat' (first|refine aW ?_|refine kX1 0 rfl (h1) ?_|apply ae<;>intro h)
  refine b9 [] [(68,some (_,.cells ([.int .i64 2,.int .i64 0,.int .i64 0,.sl 4 []])))] trivial ⟨⟨rfl,leA⟩,trivial⟩ ?_;refine fX1 ?_;refine cx ?_;rfl
 rw[Aa h1c];rw[AN] at h1c
 have h1:ag G 642 [.ref 0 0 0,.int .u8 46] [.cells [.str s,.int .i64 ((n:Nat):Int)]] (rpR s (.bool false) (n)):=by
  have:=bv s hs 46 (n) (by omega)
  rwa [h1c,Aa (by simp)] at this
 by_cases h2c:chr s n 33=true
 ·rw[Ac h2c]
  have hlt:=dy h2c
  have h2:ag G 642 [.ref 0 0 0,.int .u8 33] [.cells [.str s,.int .i64 ((n:Nat):Int)]] (rpR s (.bool true) (n+1)):=by
   have:=bv s hs 33 (n) (by omega)
   rwa [h2c,Ac rfl] at this
  show ag G 656 _ _ (rpR s (.tup [.agg (Rx.mk 4 0 0 []).enc,.bool true]) (n+1))
  rw[e0];refine gvC (F:=j7) ?_
  repeat' (first|refine aW ?_|refine kX1 0 rfl (h1) ?_|refine kX1 0 rfl (h2) ?_|apply ae<;>intro h)
  refine b9 [] [(68,some (_,.cells ([.int .i64 4,.int .i64 0,.int .i64 0,.sl 4 []])))] trivial ⟨⟨rfl,leA⟩,trivial⟩ ?_;refine fX1 ?_;refine cx ?_;rfl
 rw[Aa h2c];rw[AN] at h2c
 have h2:ag G 642 [.ref 0 0 0,.int .u8 33] [.cells [.str s,.int .i64 ((n:Nat):Int)]] (rpR s (.bool false) (n)):=by
  have:=bv s hs 33 (n) (by omega)
  rwa [h2c,Aa (by simp)] at this
 by_cases h3c:chr s n 40=true
 ·rw[Ac h3c]
  have hlt:=dy h3c
  have h3:ag G 642 [.ref 0 0 0,.int .u8 40] [.cells [.str s,.int .i64 ((n:Nat):Int)]] (rpR s (.bool true) (n+1)):=by
   have:=bv s hs 40 (n) (by omega)
   rwa [h3c,Ac rfl] at this
  by_cases h4c:chr s (n+1) 41=true
  ·rw[Ac h4c]
   have hlt2:=dy h4c
   have h4:ag G 642 [.ref 0 0 0,.int .u8 41] [.cells [.str s,.int .i64 ((n+1:Nat):Int)]] (rpR s (.bool true) (n+1+1)):=by
    have:=bv s hs 41 (n+1) (by omega)
    rwa [h4c,Ac rfl] at this
   show ag G 656 _ _ (rpR s (.tup [.agg (Rx.mk 0 0 0 []).enc,.bool true]) (n+1+1))
   rw[e0];refine gvC (F:=j7) ?_
   repeat' (first|refine aW ?_|refine kX1 0 rfl (h1) ?_|refine kX1 0 rfl (h2) ?_|refine kX1 0 rfl (h3) ?_|refine kX1 0 rfl (h4) ?_|apply ae<;>intro h)
   refine b9 [] [(68,some (_,.cells ([.int .i64 0,.int .i64 0,.int .i64 0,.sl 4 []])))] trivial ⟨⟨rfl,leA⟩,trivial⟩ ?_;refine fX1 ?_;refine cx ?_;rfl
  rw[Aa h4c];rw[AN] at h4c
  have h4:ag G 642 [.ref 0 0 0,.int .u8 41] [.cells [.str s,.int .i64 ((n+1:Nat):Int)]] (rpR s (.bool false) (n+1)):=by
   have:=bv s hs 41 (n+1) (by omega)
   rwa [h4c,Aa (by simp)] at this
  have hq:=hA (n+1) (by omega)
  cases ha:alt (n+1) with
  |none=>
   rw[ha] at hq;obtain ⟨x,m,hm,hq⟩:=hq;refine ⟨x,m,hm,?_⟩;have hpx:=cM x;obtain ⟨k,lo,hi,l⟩:=x;rw[bl] at hq hpx⊢;refine gvC (F:=j7) ?_
   repeat' (first|refine aW ?_|refine kX1 0 rfl (h1) ?_|refine kX1 0 rfl (h2) ?_|refine kX1 0 rfl (h3) ?_|refine kX1 0 rfl (h4) ?_|refine kX1 0 rfl (hq) ?_|apply ae<;>intro h)
   refine fX1 ?_;refine cx ?_;rfl
  |some p=>
   obtain ⟨x,m⟩:=p;rw[ha] at hq;obtain ⟨p1,p2,_⟩:=hp _ _ _ (by omega) ha
   dsimp only;simp only[ir] at hq;have hpx:=cM x;obtain ⟨k,lo,hi,l⟩:=x;rw[bl] at hq hpx
   by_cases h5c:chr s m 41=true
   ·rw[Ac h5c]
    have hlt3:=dy h5c
    have h5:ag G 642 [.ref 0 0 0,.int .u8 41] [.cells [.str s,.int .i64 ((m:Nat):Int)]] (rpR s (.bool true) (m+1)):=by
     have:=bv s hs 41 (m) (by omega)
     rwa [h5c,Ac rfl] at this
    show ag G 656 _ _ (rpR s (.tup [.agg (Rx.mk k lo hi l).enc,.bool true]) (m+1))
    rw[bl];refine gvC (F:=j7) ?_
    repeat' (first|refine aW ?_|refine kX1 0 rfl (h1) ?_|refine kX1 0 rfl (h2) ?_|refine kX1 0 rfl (h3) ?_|refine kX1 0 rfl (h4) ?_|refine kX1 0 rfl (hq) ?_|refine kX1 0 rfl (h5) ?_|apply ae<;>intro h)
    refine fX1 ?_;refine cx ?_;rfl
   ·rw[Aa h5c]
    rw[AN] at h5c
    have h5:ag G 642 [.ref 0 0 0,.int .u8 41] [.cells [.str s,.int .i64 ((m:Nat):Int)]] (rpR s (.bool false) (m)):=by
     have:=bv s hs 41 (m) (by omega)
     rwa [h5c,Aa (by simp)] at this
    refine ⟨.mk k lo hi l,m,p2,?_⟩;rw[bl];refine gvC (F:=j7) ?_
    repeat' (first|refine aW ?_|refine kX1 0 rfl (h1) ?_|refine kX1 0 rfl (h2) ?_|refine kX1 0 rfl (h3) ?_|refine kX1 0 rfl (h4) ?_|refine kX1 0 rfl (hq) ?_|refine kX1 0 rfl (h5) ?_|apply ae<;>intro h)
    refine fX1 ?_;refine cx ?_;rfl
 rw[Aa h3c];rw[AN] at h3c
 have h3:ag G 642 [.ref 0 0 0,.int .u8 40] [.cells [.str s,.int .i64 ((n:Nat):Int)]] (rpR s (.bool false) (n)):=by
  have:=bv s hs 40 (n) (by omega)
  rwa [h3c,Aa (by simp)] at this
 by_cases h4c:chr s n 91=true
 ·rw[Ac h4c]
  have hlt:=dy h4c
  have h4:ag G 642 [.ref 0 0 0,.int .u8 91] [.cells [.str s,.int .i64 ((n:Nat):Int)]] (rpR s (.bool true) (n+1)):=by
   have:=bv s hs 91 (n) (by omega)
   rwa [h4c,Ac rfl] at this
  obtain ⟨v,b,m,p1,p2,g1,r1⟩:=o5 s hs (n+1) (by omega)
  have hmj:(if chr s m 45 then m+1 else m)<=s.length:=by
   split
   ·rename_i c;have:=dy c;omega
   ·omega
  obtain ⟨v2,b2,m2,p3,p4,g2,r2⟩:=o5 s hs (if chr s m 45 then m+1 else m) hmj
  have h5:=bv s hs 45 m (by omega)
  have h6:=bv s hs 93 m2 (by omega)
  have h5:ag G 642 [.ref 0 0 0,.int .u8 45] [.cells [.str s,.int .i64 (m:Int)]] (rpR s (.bool (chr s m 45)) (if chr s m 45 then m+1 else m)):=h5
  have h6:ag G 642 [.ref 0 0 0,.int .u8 93] [.cells [.str s,.int .i64 (m2:Int)]] (rpR s (.bool (chr s m2 93)) (if chr s m2 93 then m2+1 else m2)):=h6
  -- the result fails
  have bad:(b=false∨chr s m 45=false∨b2=false)->ir 656 s lv n none:=λhb=>by
   refine ⟨.mk 1 v v2 [],m2,p4,?_⟩;rw[e0];generalize hj:(if chr s m 45 then m+1 else m)=j at*
   generalize chr s m 45=d at*;cases b
   ·refine gvC (F:=j7) ?_
    repeat' (first|refine aW ?_|refine kX1 0 rfl (h1) ?_|refine kX1 0 rfl (h2) ?_|refine kX1 0 rfl (h3) ?_|refine kX1 0 rfl (h4) ?_|refine kX1 0 rfl (g1) ?_|refine kX1 0 rfl (h5) ?_|refine kX1 0 rfl (g2) ?_|apply ae<;>intro h)
    refine b9 [] [(68,some (_,.cells ([.int .i64 1,.int .i64 v,.int .i64 v2,.sl 4 []])))] trivial ⟨⟨rfl,leA⟩,trivial⟩ ?_;refine fX1 ?_;refine cx ?_;rfl
   ·cases d
    ·refine gvC (F:=j7) ?_
     repeat' (first|refine aW ?_|refine kX1 0 rfl (h1) ?_|refine kX1 0 rfl (h2) ?_|refine kX1 0 rfl (h3) ?_|refine kX1 0 rfl (h4) ?_|refine kX1 0 rfl (g1) ?_|refine kX1 0 rfl (h5) ?_|refine kX1 0 rfl (g2) ?_|apply ae<;>intro h)
     refine b9 [] [(68,some (_,.cells ([.int .i64 1,.int .i64 v,.int .i64 v2,.sl 4 []])))] trivial ⟨⟨rfl,leA⟩,trivial⟩ ?_;refine fX1 ?_;refine cx ?_;rfl
    ·obtain rfl:b2=false:=by simpa using hb
     refine gvC (F:=j7) ?_
     repeat' (first|refine aW ?_|refine kX1 0 rfl (h1) ?_|refine kX1 0 rfl (h2) ?_|refine kX1 0 rfl (h3) ?_|refine kX1 0 rfl (h4) ?_|refine kX1 0 rfl (g1) ?_|refine kX1 0 rfl (h5) ?_|refine kX1 0 rfl (g2) ?_|apply ae<;>intro h)
     refine b9 [] [(68,some (_,.cells ([.int .i64 1,.int .i64 v,.int .i64 v2,.sl 4 []])))] trivial ⟨⟨rfl,leA⟩,trivial⟩ ?_;refine fX1 ?_;refine cx ?_;rfl
  cases hr:js s (n+1) with
  |none=>
   rw[hr] at r1;exact bad (.inl r1)
  |some q=>
   obtain ⟨a,k⟩:=q;rw[hr] at r1;obtain ⟨rfl,rfl,rfl⟩:=r1;dsimp only
   by_cases h5c:chr s m 45=true
   ·rw[Ac h5c]
    have hj:(if chr s m 45 then m+1 else m)=m+1:=Ac h5c
    cases hr2:js s (m+1) with
    |none=>
     rw[hj,hr2] at r2;exact bad (.inr (.inr r2))
    |some q=>
     obtain ⟨a2,k2⟩:=q;rw[hj,hr2] at r2;obtain ⟨rfl,rfl,rfl⟩:=r2;dsimp only;rw[hj] at h5 g2;rw[h5c] at h5
     by_cases h6c:chr s m2 93=true
     ·rw[Ac h6c]
      have hj2:(if chr s m2 93 then m2+1 else m2)=m2+1:=Ac h6c
      rw[hj2,h6c] at h6;show ag G 656 _ _ (rpR s (.tup [.agg (Rx.mk 1 v v2 []).enc,.bool true]) (m2+1))
      rw[e0];refine gvC (F:=j7) ?_
      repeat' (first|refine aW ?_|refine kX1 0 rfl (h1) ?_|refine kX1 0 rfl (h2) ?_|refine kX1 0 rfl (h3) ?_|refine kX1 0 rfl (h4) ?_|refine kX1 0 rfl (g1) ?_|refine kX1 0 rfl (h5) ?_|refine kX1 0 rfl (g2) ?_|refine kX1 0 rfl (h6) ?_|apply ae<;>intro h)
      refine b9 [] [(68,some (_,.cells ([.int .i64 1,.int .i64 v,.int .i64 v2,.sl 4 []])))] trivial ⟨⟨rfl,leA⟩,trivial⟩ ?_;refine fX1 ?_;refine cx ?_;rfl
     ·rw[Aa h6c]
      have hj2:(if chr s m2 93 then m2+1 else m2)=m2:=Aa h6c
      rw[AN] at h6c;rw[hj2,h6c] at h6;refine ⟨.mk 1 v v2 [],m2,p4,?_⟩;rw[e0];refine gvC (F:=j7) ?_
      repeat' (first|refine aW ?_|refine kX1 0 rfl (h1) ?_|refine kX1 0 rfl (h2) ?_|refine kX1 0 rfl (h3) ?_|refine kX1 0 rfl (h4) ?_|refine kX1 0 rfl (g1) ?_|refine kX1 0 rfl (h5) ?_|refine kX1 0 rfl (g2) ?_|refine kX1 0 rfl (h6) ?_|apply ae<;>intro h)
      refine b9 [] [(68,some (_,.cells ([.int .i64 1,.int .i64 v,.int .i64 v2,.sl 4 []])))] trivial ⟨⟨rfl,leA⟩,trivial⟩ ?_;refine fX1 ?_;refine cx ?_;rfl
   ·rw[Aa h5c]
    rw[AN] at h5c;exact bad (.inr (.inl h5c))
 rw[Aa h4c];rw[AN] at h4c
 have h4:ag G 642 [.ref 0 0 0,.int .u8 91] [.cells [.str s,.int .i64 ((n:Nat):Int)]] (rpR s (.bool false) (n)):=by
  have:=bv s hs 91 (n) (by omega)
  rwa [h4c,Aa (by simp)] at this
 obtain ⟨v,b,m,p1,p2,g1,r1⟩:=o5 s hs n hn;cases hr:js s n with
 |none=>
  rw[hr] at r1;obtain rfl:b=false:=r1;refine ⟨.mk 1 v v [],m,p2,?_⟩;rw[e0];refine gvC (F:=j7) ?_
  repeat' (first|refine aW ?_|refine kX1 0 rfl (h1) ?_|refine kX1 0 rfl (h2) ?_|refine kX1 0 rfl (h3) ?_|refine kX1 0 rfl (h4) ?_|refine kX1 0 rfl (g1) ?_|apply ae<;>intro h)
  refine b9 [] [(68,some (_,.cells ([.int .i64 1,.int .i64 v,.int .i64 v,.sl 4 []])))] trivial ⟨⟨rfl,leA⟩,trivial⟩ ?_;refine fX1 ?_;refine cx ?_;rfl
 |some q=>
  obtain ⟨a,k⟩:=q;rw[hr] at r1;obtain ⟨rfl,rfl,rfl⟩:=r1;show ag G 656 _ _ (rpR s (.tup [.agg (Rx.mk 1 v v []).enc,.bool true]) m)
  rw[e0];refine gvC (F:=j7) ?_
  repeat' (first|refine aW ?_|refine kX1 0 rfl (h1) ?_|refine kX1 0 rfl (h2) ?_|refine kX1 0 rfl (h3) ?_|refine kX1 0 rfl (h4) ?_|refine kX1 0 rfl (g1) ?_|apply ae<;>intro h)
  refine b9 [] [(68,some (_,.cells ([.int .i64 1,.int .i64 v,.int .i64 v,.sl 4 []])))] trivial ⟨⟨rfl,leA⟩,trivial⟩ ?_;refine fX1 ?_;refine cx ?_;rfl
theorem sS (hs:s.length<2^40)(atom:PR)(lv:Int)(hp:Pos s atom)(hA: ∀n,n<=s.length->ir 656 s lv n (atom n))(n:Nat)(hn:n<=s.length):ir 651 s lv n (eO s atom n):=by
 unfold eO;have hq:=hA n hn;cases ha:atom n with
 |none=>
  rw[ha] at hq;obtain ⟨x,m,hm,hq⟩:=hq;refine ⟨x,m,hm,?_⟩;have hpx:=cM x;obtain ⟨k,lo,hi,l⟩:=x;rw[bl] at hq hpx⊢;refine gvC (F:=xk) ?_
  repeat' (first|refine aW ?_|refine kX1 0 rfl (hq) ?_|apply ae<;>intro h)
  refine fX1 ?_;refine cx ?_;rfl
 |some p=>
  obtain ⟨x,m⟩:=p;rw[ha] at hq;obtain ⟨p1,p2,_⟩:=hp _ _ _ hn ha;dsimp only;simp only[ir] at hq;have hpx:=cM x;have hex: ∀k:Int,(Rx.mk k 0 0 [x]).enc= [.int .i64 k,.int .i64 0,.int .i64 0,.sl 4 [x.enc]]:=λk=>bl k 0 0 [x]
  obtain ⟨k,lo,hi,l⟩:=x;have hen:=bl k lo hi l;rw[hen] at hq hpx hex
  by_cases h1c:chr s m 42=true
  ·rw[Ac h1c]
   have hlt:=dy h1c
   have h1:ag G 642 [.ref 0 0 0,.int .u8 42] [.cells [.str s,.int .i64 ((m:Nat):Int)]] (rpR s (.bool true) (m+1)):=by
    have:=bv s hs 42 (m) (by omega)
    rwa [h1c,Ac rfl] at this
   show ag G 651 _ _ (rpR s (.tup [.agg (Rx.mk 5 0 0 [.mk k lo hi l]).enc,.bool true]) (m+1))
   rw[hex];refine gvC (F:=xk) ?_
   repeat' (first|refine aW ?_|refine kX1 0 rfl (hq) ?_|refine kX1 0 rfl (h1) ?_|apply ae<;>intro h)
   refine lx [(97,_,_)] [5,4] [0,68] ⟨rfl,frP,trivial⟩ ?_;repeat ((conv=>whnf);first|refine frA ?_|intro T H)
   refine fX1 ?_;refine cx ?_;rfl
  rw[Aa h1c];rw[AN] at h1c
  have h1:ag G 642 [.ref 0 0 0,.int .u8 42] [.cells [.str s,.int .i64 ((m:Nat):Int)]] (rpR s (.bool false) (m)):=by
   have:=bv s hs 42 (m) (by omega)
   rwa [h1c,Aa (by simp)] at this
  by_cases h2c:chr s m 43=true
  ·rw[Ac h2c]
   have hlt:=dy h2c
   have h2:ag G 642 [.ref 0 0 0,.int .u8 43] [.cells [.str s,.int .i64 ((m:Nat):Int)]] (rpR s (.bool true) (m+1)):=by
    have:=bv s hs 43 (m) (by omega)
    rwa [h2c,Ac rfl] at this
   show ag G 651 _ _ (rpR s (.tup [.agg (Rx.mk 6 0 0 [.mk k lo hi l]).enc,.bool true]) (m+1))
   rw[hex];refine gvC (F:=xk) ?_
   repeat' (first|refine aW ?_|refine kX1 0 rfl (hq) ?_|refine kX1 0 rfl (h1) ?_|refine kX1 0 rfl (h2) ?_|apply ae<;>intro h)
   refine lx [(97,_,_)] [5,4] [0,68] ⟨rfl,frP,trivial⟩ ?_;repeat ((conv=>whnf);first|refine frA ?_|intro T H)
   refine fX1 ?_;refine cx ?_;rfl
  rw[Aa h2c];rw[AN] at h2c
  have h2:ag G 642 [.ref 0 0 0,.int .u8 43] [.cells [.str s,.int .i64 ((m:Nat):Int)]] (rpR s (.bool false) (m)):=by
   have:=bv s hs 43 (m) (by omega)
   rwa [h2c,Aa (by simp)] at this
  by_cases h3c:chr s m 63=true
  ·rw[Ac h3c]
   have hlt:=dy h3c
   have h3:ag G 642 [.ref 0 0 0,.int .u8 63] [.cells [.str s,.int .i64 ((m:Nat):Int)]] (rpR s (.bool true) (m+1)):=by
    have:=bv s hs 63 (m) (by omega)
    rwa [h3c,Ac rfl] at this
   show ag G 651 _ _ (rpR s (.tup [.agg (Rx.mk 7 0 0 [.mk k lo hi l]).enc,.bool true]) (m+1))
   rw[hex];refine gvC (F:=xk) ?_
   repeat' (first|refine aW ?_|refine kX1 0 rfl (hq) ?_|refine kX1 0 rfl (h1) ?_|refine kX1 0 rfl (h2) ?_|refine kX1 0 rfl (h3) ?_|apply ae<;>intro h)
   refine lx [(97,_,_)] [5,4] [0,68] ⟨rfl,frP,trivial⟩ ?_;repeat ((conv=>whnf);first|refine frA ?_|intro T H)
   refine fX1 ?_;refine cx ?_;rfl
  rw[Aa h3c];rw[AN] at h3c
  have h3:ag G 642 [.ref 0 0 0,.int .u8 63] [.cells [.str s,.int .i64 ((m:Nat):Int)]] (rpR s (.bool false) (m)):=by
   have:=bv s hs 63 (m) (by omega)
   rwa [h3c,Aa (by simp)] at this
  show ag G 651 _ _ (rpR s (.tup [.agg (Rx.mk k lo hi l).enc,.bool true]) m)
  rw[hen];refine gvC (F:=xk) ?_
  repeat' (first|refine aW ?_|refine kX1 0 rfl (hq) ?_|refine kX1 0 rfl (h1) ?_|refine kX1 0 rfl (h2) ?_|refine kX1 0 rfl (h3) ?_|apply ae<;>intro h)
  refine fX1 ?_;refine cx ?_;rfl
def PQ:DD->Ret->Prop
 |some (x,m),t=>t=rpR s (.tup [.agg x.enc,.bool true]) m
 |none,t=> ∃x m,m<=s.length/\t=rpR s (.tup [.agg (Rx.enc x),.bool false]) m
end
theorem NS {f:Nat}{s:B5}{lv:Int}{n:Nat}{o:DD}{t:Ret}(h:PQ s o t)(g:ag G f [.ref 0 0 0,.int .i64 lv] [.cells [.str s,.int .i64 (n:Int)]] t):ir f s lv n o:=by
 cases o with
 |none=>obtain ⟨x,m,hm,rfl⟩:=h;exact ⟨x,m,hm,g⟩
 |some p=>obtain ⟨x,m⟩:=p;obtain rfl:t=_:=h;exact g
theorem mB:rx0.enc= [.int .i64 0,.int .i64 0,.int .i64 0,.sl 4 []]:=e0 0 0 0
theorem yc (s:B5)(hs:s.length<2^32)(item:PR)(lv:Int)(hp:Pos s item)(hA: ∀n,n<=s.length->ir 651 s lv n (item n)): ∀(f:Nat)(acc:C7)(n:Nat)(hf:s.length<f+n)(hn:n<=s.length)(hac:acc.length+f<=s.length+1),∃t,PQ s (ix 3 (fe s item 32 f acc n)) t/\ ∀(T:TV)(H:az)(c g g4:Nat)(es:B6)(k:Nat)(hes:es=acc.map Rx.enc)(hk:k=acc.length),Ev G ⟨Zy,⟨(4,.ref 68 g4 0)::(0,.ref 0 0 0)::(6,.vs 200 g k)::(1,.int .i64 lv)::T,(0,some (0,.cells [.str s,.int .i64 (n:Int)]))::(68,some (g4,.cells [.int .i64 0,.int .i64 0,.int .i64 0,.con (.slice none 0 0)]))::(200,some (g,.vec 4 es))::H,c⟩,[.cell 4 (some 4),.t 5],1⟩ t
 |0,acc,n,hf,hn,hac=>by omega
 |f+1,acc,n,hf,hn,hac=>by
  have hq:=hA n hn;rw[fe];have hl:=ml acc Rx.enc;cases ha:item n with
  |none=>
   rw[ha] at hq;obtain ⟨x,m,hm,hq⟩:=hq;refine ⟨_,⟨rx0,m,hm,rfl⟩,λT H c g g4 es k hes hk=>?_⟩
   subst hes hk;have hpx:=cM x;generalize hxe:x.enc=xe at*;obtain ⟨k,lo,hi,l⟩:=x;rw[bl] at hxe;subst hxe;rw[mB];refine evl ?_
   repeat' (first|refine aW ?_|refine kX1 0 rfl (hq) ?_|apply ae<;>intro h)
   refine b9 [] [(68,some (_,.cells ([.int .i64 0,.int .i64 0,.int .i64 0,.sl 4 []])))] trivial ⟨⟨rfl,leA⟩,trivial⟩ ?_;refine fX1 ?_;refine cx ?_;rfl
  |some p=>
   obtain ⟨x,m⟩:=p;rw[ha] at hq;obtain ⟨p1,p2,_⟩:=hp _ _ _ hn ha;simp only[ir] at hq;dsimp only;have hpx:=cM x;have hax:(acc++[x]).map Rx.enc=acc.map Rx.enc++[x.enc]:=by simp
   by_cases hc:chr s m 32=true
   ·rw[Ac hc]
    have hlt:=dy hc
    have h1:ag G 642 [.ref 0 0 0,.int .u8 32] [.cells [.str s,.int .i64 ((m:Nat):Int)]] (rpR s (.bool true) (m+1)):=by
     have:=bv s (by omega) 32 m (by omega)
     rwa [hc,Ac rfl] at this
    obtain ⟨t,h2,h3⟩:=yc s hs item lv hp hA f (acc++[x]) (m+1) (by omega) (by omega) (by simp;omega)
    refine ⟨t,h2,λT H c g g4 es k hes hk=>?_⟩
    subst hes hk;rw[hax] at h3;generalize hxe:x.enc=xe at*;obtain ⟨k,lo,hi,l⟩:=x;rw[bl] at hxe;subst hxe;refine evl ?_
    repeat' (first|refine aW ?_|refine kX1 0 rfl (hq) ?_|refine kX1 0 rfl (h1) ?_|apply ae<;>intro h)
    refine au [4,0,6,1] [0,68,200] ?_;exact h3 _ _ _ _ _ _ _ rfl (by simp)
   ·rw[Aa hc]
    rw[AN] at hc
    have h1:ag G 642 [.ref 0 0 0,.int .u8 32] [.cells [.str s,.int .i64 ((m:Nat):Int)]] (rpR s (.bool false) m):=by
     have:=bv s (by omega) 32 m (by omega)
     rwa [hc,Aa (by simp)] at this
    cases acc with
    |nil=>
     refine ⟨rpR s (.tup [.agg x.enc,.bool true]) m,rfl,λT H c g g4 es k hes hk=>?_⟩
     obtain rfl:es= []:=hes;obtain rfl:k=0:=hk;generalize hxe:x.enc=xe at*;obtain ⟨k,lo,hi,l⟩:=x;rw[bl] at hxe;subst hxe;refine evl ?_
     repeat' (first|refine aW ?_|refine kX1 0 rfl (hq) ?_|refine kX1 0 rfl (h1) ?_|refine And.intro (show Int.toNat 0<0+1 from Nat.one_pos) ?_|apply ae<;>intro h)
     refine fX1 ?_;refine cx ?_;rfl
    |cons y r=>
     refine ⟨rpR s (.tup [.agg (Rx.mk 3 0 0 (y::r++[x])).enc,.bool true]) m,?_,λT H c g g4 es k hes hk=>?_⟩
     ·cases r with
      |nil=>rfl
      |cons z q=>rfl
     subst hes hk;rw[bl,hax];have hl2:(y::r).length=r.length+1:=rfl;generalize hxe:x.enc=xe at*;obtain ⟨k,lo,hi,l⟩:=x;rw[bl] at hxe;subst hxe;refine evl ?_
     repeat' (first|refine aW ?_|refine kX1 0 rfl (hq) ?_|refine kX1 0 rfl (h1) ?_|apply ae<;>intro h)
     refine lx [(200,_,_)] [5,4] [0,68] ⟨rfl,frP,trivial⟩ ?_;repeat ((conv=>whnf);first|refine frA ?_|intro T H)
     refine fX1 ?_;refine cx ?_;rfl
theorem vU (s:B5)(hs:s.length<2^32)(item:PR)(lv:Int)(hp:Pos s item)(hA: ∀n,n<=s.length->ir 651 s lv n (item n))(n:Nat)(hn:n<=s.length):ir 641 s lv n (ix 3 (fe s item 32 (s.length+1) [] n)):=by
 obtain ⟨t,h1,h2⟩:=yc s hs item lv hp hA (s.length+1) [] n (by omega) hn (by simp)
 refine NS h1 ?_;refine gvB (F:=QU) ?_;refine cP 200 4 [(6,.vs 200 _ 0)] [] ⟨LeP.nilV _ _ _,trivial⟩ trivial ?_;refine au [4,0,6,1] [0,68,200] ?_;exact h2 _ _ _ _ _ _ _ rfl rfl
theorem ye (s:B5)(hs:s.length<2^32)(item:PR)(lv:Int)(hp:Pos s item)(hA: ∀n,n<=s.length->ir 641 s lv n (item n)): ∀(f:Nat)(acc:C7)(n:Nat)(hf:s.length<f+n)(hn:n<=s.length)(hac:acc.length+f<=s.length+1),∃t,PQ s (ix 4 (fe s item 124 f acc n)) t/\ ∀(T:TV)(H:az)(c g g4:Nat)(es:B6)(k:Nat)(hes:es=acc.map Rx.enc)(hk:k=acc.length),Ev G ⟨ZR,⟨(4,.ref 68 g4 0)::(0,.ref 0 0 0)::(6,.vs 200 g k)::(1,.int .i64 lv)::T,(0,some (0,.cells [.str s,.int .i64 (n:Int)]))::(68,some (g4,.cells [.int .i64 0,.int .i64 0,.int .i64 0,.con (.slice none 0 0)]))::(200,some (g,.vec 4 es))::H,c⟩,[.cell 4 (some 4),.t 5],1⟩ t
 |0,acc,n,hf,hn,hac=>by omega
 |f+1,acc,n,hf,hn,hac=>by
  have hq:=hA n hn;rw[fe];have hl:=ml acc Rx.enc;cases ha:item n with
  |none=>
   rw[ha] at hq;obtain ⟨x,m,hm,hq⟩:=hq;refine ⟨_,⟨rx0,m,hm,rfl⟩,λT H c g g4 es k hes hk=>?_⟩
   subst hes hk;have hpx:=cM x;generalize hxe:x.enc=xe at*;obtain ⟨k,lo,hi,l⟩:=x;rw[bl] at hxe;subst hxe;rw[mB];refine evl ?_
   repeat' (first|refine aW ?_|refine kX1 0 rfl (hq) ?_|apply ae<;>intro h)
   refine b9 [] [(68,some (_,.cells ([.int .i64 0,.int .i64 0,.int .i64 0,.sl 4 []])))] trivial ⟨⟨rfl,leA⟩,trivial⟩ ?_;refine fX1 ?_;refine cx ?_;rfl
  |some p=>
   obtain ⟨x,m⟩:=p;rw[ha] at hq;obtain ⟨p1,p2,_⟩:=hp _ _ _ hn ha;simp only[ir] at hq;dsimp only;have hpx:=cM x;have hax:(acc++[x]).map Rx.enc=acc.map Rx.enc++[x.enc]:=by simp
   by_cases hc:chr s m 124=true
   ·rw[Ac hc]
    have hlt:=dy hc
    have h1:ag G 642 [.ref 0 0 0,.int .u8 124] [.cells [.str s,.int .i64 ((m:Nat):Int)]] (rpR s (.bool true) (m+1)):=by
     have:=bv s (by omega) 124 m (by omega)
     rwa [hc,Ac rfl] at this
    obtain ⟨t,h2,h3⟩:=ye s hs item lv hp hA f (acc++[x]) (m+1) (by omega) (by omega) (by simp;omega)
    refine ⟨t,h2,λT H c g g4 es k hes hk=>?_⟩
    subst hes hk;rw[hax] at h3;generalize hxe:x.enc=xe at*;obtain ⟨k,lo,hi,l⟩:=x;rw[bl] at hxe;subst hxe;refine evl ?_
    repeat' (first|refine aW ?_|refine kX1 0 rfl (hq) ?_|refine kX1 0 rfl (h1) ?_|apply ae<;>intro h)
    refine au [4,0,6,1] [0,68,200] ?_;exact h3 _ _ _ _ _ _ _ rfl (by simp)
   ·rw[Aa hc]
    rw[AN] at hc
    have h1:ag G 642 [.ref 0 0 0,.int .u8 124] [.cells [.str s,.int .i64 ((m:Nat):Int)]] (rpR s (.bool false) m):=by
     have:=bv s (by omega) 124 m (by omega)
     rwa [hc,Aa (by simp)] at this
    cases acc with
    |nil=>
     refine ⟨rpR s (.tup [.agg x.enc,.bool true]) m,rfl,λT H c g g4 es k hes hk=>?_⟩
     obtain rfl:es= []:=hes;obtain rfl:k=0:=hk;generalize hxe:x.enc=xe at*;obtain ⟨k,lo,hi,l⟩:=x;rw[bl] at hxe;subst hxe;refine evl ?_
     repeat' (first|refine aW ?_|refine kX1 0 rfl (hq) ?_|refine kX1 0 rfl (h1) ?_|refine And.intro (show Int.toNat 0<0+1 from Nat.one_pos) ?_|apply ae<;>intro h)
     refine fX1 ?_;refine cx ?_;rfl
    |cons y r=>
     refine ⟨rpR s (.tup [.agg (Rx.mk 4 0 0 (y::r++[x])).enc,.bool true]) m,?_,λT H c g g4 es k hes hk=>?_⟩
     ·cases r with
      |nil=>rfl
      |cons z q=>rfl
     subst hes hk;rw[bl,hax];have hl2:(y::r).length=r.length+1:=rfl;generalize hxe:x.enc=xe at*;obtain ⟨k,lo,hi,l⟩:=x;rw[bl] at hxe;subst hxe;refine evl ?_
     repeat' (first|refine aW ?_|refine kX1 0 rfl (hq) ?_|refine kX1 0 rfl (h1) ?_|apply ae<;>intro h)
     refine lx [(200,_,_)] [5,4] [0,68] ⟨rfl,frP,trivial⟩ ?_;repeat ((conv=>whnf);first|refine frA ?_|intro T H)
     refine fX1 ?_;refine cx ?_;rfl
theorem vX (s:B5)(hs:s.length<2^32)(item:PR)(lv:Int)(hp:Pos s item)(hA: ∀n,n<=s.length->ir 641 s lv n (item n))(n:Nat)(hn:n<=s.length):ir 616 s lv n (ix 4 (fe s item 124 (s.length+1) [] n)):=by
 obtain ⟨t,h1,h2⟩:=ye s hs item lv hp hA (s.length+1) [] n (by omega) hn (by simp)
 refine NS h1 ?_;refine gvB (F:=Rk) ?_;refine cP 200 4 [(6,.vs 200 _ 0)] [] ⟨LeP.nilV _ _ _,trivial⟩ trivial ?_;refine au [4,0,6,1] [0,68,200] ?_;exact h2 _ _ _ _ _ _ _ rfl rfl
theorem uY (s:B5)(hs:s.length<2^32): ∀(k:Nat)(lv:Int)(hk:lv+k=33)(h0:0<=lv)(n:Nat)(hn:n<=s.length),ir 616 s lv n (dj s (js s) k n)
 |0,lv,hk,h0,n,hn=>by
  have h1: ∀n,n<=s.length->ir 656 s lv n ((λ_=>none:PR) n):=λn hn=>Lk s lv (by omega) n hn
  have p1:Pos s (λ_=>none:PR):=λn x m _ h=>by cases h
  have h2:=sS s (by omega) (λ_=>none) lv p1 h1
  have h3: ∀n,n<=s.length->ir 641 s lv n (kH s (eO s (λ_=>none)) n):=λn hn=>vU s hs _ lv (mY p1) h2 n hn
  have h4:=vX s hs _ lv (vl hs (mY p1)) h3 n hn;have e:ix 4 (fe s (kH s (eO s (λ_=>none))) 124 (s.length+1) [] n)=none:=by simp[fe,kH,eO,ix]
  rw[e] at h4;exact h4
 |k+1,lv,hk,h0,n,hn=>by
  have pa:=rB hs (wL s) k;have h1: ∀n,n<=s.length->ir 656 s lv n (di s (js s) (dj s (js s) k) n):=λn hn=>FF s (by omega) _ lv (by omega) h0 pa (λn hn=>uY s hs k (lv+1) (by omega) (by omega) n hn) n hn
  have p1:=xL (wL s) pa;have h2:=sS s (by omega) _ lv p1 h1
  have h3: ∀n,n<=s.length->ir 641 s lv n (kH s (eO s (di s (js s) (dj s (js s) k))) n):=λn hn=>vU s hs _ lv (mY p1) h2 n hn
  rw[dj];exact vX s hs _ lv (vl hs (mY p1)) h3 n hn
theorem Jp (k lo hi:Int)(l:C7)(hl:l.length<2^40): ∃e:Int,ag G 652 [.agg [.int .i64 k,.int .i64 lo,.int .i64 hi,.sl 4 (l.map Rx.enc)]] [] ⟨.int .i64 e,[]⟩/\(e=0↔bq k lo hi l.length=true):=by
 have m1:=ml l Rx.enc;obtain ⟨N,hN⟩: ∃N,N=l.length:=⟨_,rfl⟩
 rw[<-hN] at m1 hl⊢
 by_cases k1:k=1
 ·subst k1
  by_cases a:lo<0
  ·refine ⟨5,?_,by simp[bq];omega⟩
   exact gvA (F:=dA)
  by_cases b:lo>hi
  ·refine ⟨5,?_,by simp[bq];omega⟩
   exact gvA (F:=dA)
  by_cases c:hi>4294967295
  ·refine ⟨5,?_,by simp[bq];omega⟩
   exact gvA (F:=dA)
  by_cases d:(N:Int)>0
  ·refine ⟨1,?_,by simp[bq];omega⟩
   exact gvA (F:=dA)
  ·refine ⟨0,?_,by simp[bq];omega⟩
   exact gvA (F:=dA)
 by_cases k0:k=0
 ·subst k0
  by_cases d:(N:Int)>0
  ·refine ⟨1,?_,by simp[bq];omega⟩
   exact gvA (F:=dA)
  by_cases a:lo=0
  ·by_cases b:hi=0
   ·refine ⟨0,?_,by simp[bq,a,b];omega⟩
    exact gvA (F:=dA)
   ·refine ⟨1,?_,by simp[bq,a,b]⟩
    exact gvA (F:=dA)
  ·refine ⟨1,?_,by simp[bq,a]⟩
   exact gvA (F:=dA)
 by_cases k2:k=2
 ·subst k2
  by_cases d:(N:Int)>0
  ·refine ⟨1,?_,by simp[bq];omega⟩
   exact gvA (F:=dA)
  by_cases a:lo=0
  ·by_cases b:hi=0
   ·refine ⟨0,?_,by simp[bq,a,b];omega⟩
    exact gvA (F:=dA)
   ·refine ⟨1,?_,by simp[bq,a,b]⟩
    exact gvA (F:=dA)
  ·refine ⟨1,?_,by simp[bq,a]⟩
   exact gvA (F:=dA)
 by_cases k3:k=3
 ·subst k3
  by_cases d:(N:Int)<2
  ·refine ⟨1,?_,by simp[bq];omega⟩
   exact gvA (F:=dA)
  by_cases a:lo=0
  ·by_cases b:hi=0
   ·refine ⟨0,?_,by simp[bq,a,b];omega⟩
    exact gvA (F:=dA)
   ·refine ⟨1,?_,by simp[bq,a,b]⟩
    exact gvA (F:=dA)
  ·refine ⟨1,?_,by simp[bq,a]⟩
   exact gvA (F:=dA)
 by_cases k4:k=4
 ·subst k4
  by_cases d:(N:Int)=1
  ·refine ⟨1,?_,by simp[bq];omega⟩
   exact gvA (F:=dA)
  by_cases a:lo=0
  ·by_cases b:hi=0
   ·refine ⟨0,?_,by simp[bq,a,b];omega⟩
    exact gvA (F:=dA)
   ·refine ⟨1,?_,by simp[bq,a,b]⟩
    exact gvA (F:=dA)
  ·refine ⟨1,?_,by simp[bq,a]⟩
   exact gvA (F:=dA)
 by_cases k5:k=5
 ·subst k5
  by_cases d: ¬(N:Int)=1
  ·refine ⟨1,?_,by simp[bq];omega⟩
   exact gvA (F:=dA)
  by_cases a:lo=0
  ·by_cases b:hi=0
   ·refine ⟨0,?_,by simp[bq,a,b];omega⟩
    exact gvA (F:=dA)
   ·refine ⟨1,?_,by simp[bq,a,b]⟩
    exact gvA (F:=dA)
  ·refine ⟨1,?_,by simp[bq,a]⟩
   exact gvA (F:=dA)
 by_cases k6:k=6
 ·subst k6
  by_cases d: ¬(N:Int)=1
  ·refine ⟨1,?_,by simp[bq];omega⟩
   exact gvA (F:=dA)
  by_cases a:lo=0
  ·by_cases b:hi=0
   ·refine ⟨0,?_,by simp[bq,a,b];omega⟩
    exact gvA (F:=dA)
   ·refine ⟨1,?_,by simp[bq,a,b]⟩
    exact gvA (F:=dA)
  ·refine ⟨1,?_,by simp[bq,a]⟩
   exact gvA (F:=dA)
 by_cases k7:k=7
 ·subst k7
  by_cases d: ¬(N:Int)=1
  ·refine ⟨1,?_,by simp[bq];omega⟩
   exact gvA (F:=dA)
  by_cases a:lo=0
  ·by_cases b:hi=0
   ·refine ⟨0,?_,by simp[bq,a,b];omega⟩
    exact gvA (F:=dA)
   ·refine ⟨1,?_,by simp[bq,a,b]⟩
    exact gvA (F:=dA)
  ·refine ⟨1,?_,by simp[bq,a]⟩
   exact gvA (F:=dA)
 refine ⟨15,?_,by simp[bq,k0,k1,k2,k3,k4];omega⟩
 exact gvA (F:=dA)
def SE (o:CV)(n e:Int):Prop:=match o with
 |some c=>n=c/\e=0
 |none=>e≠0
mutual
theorem uM: ∀{x:Rx}{lv c c':Nat},chk x lv c=some c'->c'<=64
 | .mk k lo hi l,lv,c,c',h=>by
  rw[chk] at h;split at h
  ·cases h
  ·split at h
   ·cases h
   ·split at h
    ·exact Oz (by omega) h
    ·cases h
theorem Oz: ∀{l:C7}{lv c c':Nat},c<=64->i6 l lv c=some c'->c'<=64
 | [],_,_,_,hc,h=>by rw[i6] at h;cases h;exact hc
 |x::r,lv,c,c',hc,h=>by
  rw[i6] at h;split at h
  ·rename_i c1 h1
   exact Oz (uM h1) h
  ·cases h
end
def zH (x:Rx)(lv:Nat):Prop:= ∀c:Nat,c<=64-> ∃n e:Int,SE (chk x lv c) n e/\ag G 643 [.agg x.enc,.int .i64 (lv:Int),.int .i64 (c:Int)] [] ⟨.tup [.int .i64 n,.int .i64 e],[]⟩
theorem wA (l:C7)(hl:l.length<2^40)(lv:Nat)(hlv:lv<=16)(hk: ∀y∈l,zH y (lv+1)): ∀(rest done:C7)(c:Nat)(n:Int)(e:l=done++rest)(hn:n=done.length)(hc:c<=64),∃N E:Int,SE (i6 rest (lv+1) c) N E/\ ∀(T:TV)(H:az)(ct:Nat),
  Ev G ⟨UG,⟨(30,.int .i64 n)::(2,.int .i64 (c:Int))::(1,.int .i64 (lv:Int))::(28,.sl 4 (l.map Rx.enc))::(29,.int .i64 l.length)::T,H,ct⟩,[.t 6,.t 7],0⟩ ⟨.tup [.int .i64 N,.int .i64 E],[]⟩
 | [],done,c,n,e,hn,hc=>by
  have hd:=md0 e;refine ⟨c,0,by rw[i6];exact ⟨rfl,rfl⟩,λT H ct=>?_⟩
  refine evA ?_;refine ap ?_;rfl
 |x::r,done,c,n,e,hn,hc=>by
  have hd:=md e;have hll:=ml l Rx.enc;have hx:=mx Rx.enc e hn;obtain ⟨n1,e1,h1,g1⟩:=hk x (by simp[e]) c hc
  have g1:ag G 643 [.agg x.enc,.int .i64 ((lv:Int)+1),.int .i64 (c:Int)] [] ⟨.tup [.int .i64 n1,.int .i64 e1],[]⟩:=g1;have hpx:=cM x;rw[i6];cases hq:chk x (lv+1) c with
  |none=>
   rw[hq] at h1;have h1: ¬e1=0:=h1;refine ⟨n1,e1,h1,λT H ct=>?_⟩
   generalize hxe:x.enc=xe at*;obtain ⟨k,lo,hi,q⟩:=x;rw[bl] at hxe;subst hxe;refine evA ?_;refine ap ?_;rfl
  |some c1=>
   rw[hq] at h1;obtain ⟨rfl,rfl⟩:=h1;obtain ⟨N,E,h2,h3⟩:=wA l hl lv hlv hk r (done++[x]) c1 (n+1) (by simp[e]) (by simp[hn]) (uM hq)
   refine ⟨N,E,h2,λT H ct=>?_⟩
   generalize hxe:x.enc=xe at*;obtain ⟨k,lo,hi,q⟩:=x;rw[bl] at hxe;subst hxe;refine evA ?_;refine au [30,2,1,28,29] [] ?_;exact h3 _ _ _
theorem adE (k lo hi:Int)(l:C7)(hs:l.length<2^40)(lv:Nat)(hlv:lv<=17)(hk:lv<=16-> ∀y∈l,zH y (lv+1)):zH (.mk k lo hi l) lv:=by
 intro c hc;have m1:=ml l Rx.enc;obtain ⟨e0,g0,h0⟩:=Jp k lo hi l hs;rw[chk,bl]
 by_cases a:16<lv
 ·rw[Ac a]
  have a':(lv:Int)>16:=by omega
  refine ⟨c,24,(show (24:Int)≠0 by decide),?_⟩
  exact gvA (F:=xn)
 rw[Aa a]
 by_cases b:64<=c
 ·rw[Ac b]
  have b':(c:Int)>=64:=by omega
  refine ⟨c,4,(show (4:Int)≠0 by decide),?_⟩
  exact gvA (F:=xn)
 rw[Aa b]
 by_cases d:bq k lo hi l.length=true
 ·rw[Ac d]
  obtain rfl:e0=0:=h0.2 d;obtain ⟨N,E,h2,h3⟩:=wA l hs lv (by omega) (hk (by omega)) l [] (c+1) 0 rfl rfl (by omega)
  refine ⟨N,E,h2,?_⟩;refine gvB (F:=xn) ?_;refine au [30,2,1,28,29] [] ?_;rw[m1];exact h3 _ _ _
 ·rw[Aa d]
  have d': ¬e0=0:=λq=>d (h0.1 q)
  refine ⟨c,e0,d',?_⟩;exact gvA (F:=xn)
mutual
theorem chk_all: ∀(x:Rx),Sml x-> ∀lv:Nat,lv<=17->zH x lv
 | .mk k lo hi l,hs,lv,hlv=>adE k lo hi l hs.len lv hlv λh=>KL l hs.kid (lv+1) (by omega)
theorem KL: ∀(l:C7),(∀x∈l,Sml x)-> ∀lv:Nat,lv<=17-> ∀y∈l,zH y lv
 | [],_,_,_=>λy hy=>by simp at hy
 |x::r,hs,lv,hlv=>λy hy=>by
  have h1:=chk_all x (hs x (by simp)) lv hlv
  rcases AI.1 hy with q|q
  ·rw[q];exact h1
  ·exact KL r (λz hz=>hs z (by simp[hz])) lv hlv y q
end
theorem Cr (x:Rx)(hs:Sml x): ∃e:Int,ag G 617 [.agg x.enc] [] ⟨.int .i64 e,[]⟩/\(e=0↔ (chk x 1 0).isSome=true):=by
 obtain ⟨n,e,h1,g1⟩:=chk_all x hs 1 (by omega) 0 (by omega)
 have g1:ag G 643 [.agg x.enc,.int .i64 1,.int .i64 0] [] ⟨.tup [.int .i64 n,.int .i64 e],[]⟩:=g1;refine ⟨e,?_,?_⟩
 ·generalize hxe:x.enc=xe at*
  obtain ⟨k,lo,hi,q⟩:=x;rw[bl] at hxe;subst hxe;exact gvA (F:=ZP)
 ·cases hq:chk x 1 0 with
  |none=>rw[hq] at h1;simp;exact h1
  |some c=>rw[hq] at h1;simp;exact h1.2
set_option linter.unusedVariables false
theorem DP: ∀(f m n:Nat),n<10^ (m+1)->(bT f n).length<=m+1
 |0,m,n,h=>by simp[bT]
 |f+1,m,n,h=>by
  simp only[bT];split
  ·simp
  ·rename_i hn
   cases m with
   |zero=>simp at h;omega
   |succ m=>
    have:=DP f m (n/ 10) (by rw[Nat.pow_succ] at h;omega)
    simp;omega
theorem itoa_len {a:Int}(h0:0<=a)(h1:a<=4294967295):(am a).length<=10:=by
 unfold am;rw[Aa (by omega)]
 exact DP 19 9 a.toNat (by omega)
def eU:CF->Nat
 | []=>0
 |p::r=>p.length+1+eU r
theorem ul {c:UInt8}: ∀ps:CF,(dl c ps).length<=eU ps
 | []=>by simp[dl]
 | [p]=>by simp[dl,eU]
 |p::q::qs=>by
  have:=ul (c:=c) (q::qs);rw[lk,eU];simp;omega
theorem Yo (p:Int)(x:Rx)(l:B5):(dz p x l).length<=l.length+2:=by
 unfold dz;split
 ·simp
 ·omega
mutual
theorem acu: ∀(x:Rx){lv c c':Nat},chk x lv c=some c'->(pat am x).length+3+32*c<=32*c'
 | .mk k lo hi l,lv,c,c',h=>by
  rw[chk] at h;split at h
  ·cases h
  ·split at h
   ·cases h
   ·split at h
    ·rename_i hn
     have h1:=qi k l h;rw[pat];generalize hps:bw am k l=ps at*;have h2:=ul (c:=32) ps;have h3:=ul (c:=124) ps;have h4:(ps.headD []).length<=eU ps:=by cases ps<;>simp[eU];omega
     unfold bq at hn;unfold dL;split
     ·simp;omega
     split
     ·rename_i h0 hk1
      rw[Ac hk1] at hn;have hn:=of_decide_eq_true hn;have i1:=itoa_len (a:=lo) hn.1 (by omega)
      have i2:=itoa_len (a:=hi) (by omega) hn.2.2.1
      split
      ·omega
      ·simp;omega
     split
     ·simp;omega
     split
     ·omega
     split
     ·split
      ·simp;omega
      ·omega
     split
     ·simp at h4⊢;omega
     split
     ·simp at h4⊢;omega
     ·simp at h4⊢;omega
    ·cases h
theorem qi (k:Int): ∀(l:C7){lv c c':Nat},i6 l lv c=some c'->eU (bw am k l)+32*c<=32*c'
 | [],lv,c,c',h=>by rw[i6] at h;cases h;rw[bw];simp[eU]
 |x::r,lv,c,c',h=>by
  rw[i6] at h;split at h
  ·rename_i c1 h1
   have h2:=acu x h1;have h3:=qi k r h;have h4:=Yo k x (pat am x);rw[bw,eU];omega
  ·cases h
end
section
variable {kv:AV->Prop} {k:Eff->Prop} {x:Opd} {g key:Nat} {hg:Nat->Cl} {n d:Nat}
theorem tk {v:Int}(h0:0<=v)(h1:v<18446744073709551616):IntKind.wrap .u64 v=v:=by
 simp[IntKind.wrap,IntKind.bits,IntKind.signed];omega
theorem Wc (hn:n<18446744073709551616)(h:kv (.int .u64 ((n % 10:Nat):Int))): ∃v,bm .rem (.int .u64 (n:Int)) (.int .u64 10)=some v/\kv v:=by
 refine ⟨_,?_,h⟩;simp only[bm];simp only[ne_eq,not_true_eq_false,if_false,reduceIte];rw[Aa (by decide)]
 have e:(n:Int).tmod 10=((n % 10:Nat):Int):=by rw[Int.tmod_eq_emod_of_nonneg (by omega)];omega
 rw[e]
theorem zQuo (hn:n<18446744073709551616)(h:kv (.int .u64 ((n/ 10:Nat):Int))): ∃v,bm .quo (.int .u64 (n:Int)) (.int .u64 10)=some v/\kv v:=by
 refine ⟨_,?_,h⟩;simp only[bm];simp only[ne_eq,not_true_eq_false,if_false,reduceIte];rw[Aa (by decide)]
 have e:(n:Int).tdiv 10=((n/ 10:Nat):Int):=by rw[Int.tdiv_eq_ediv_of_nonneg (by omega)];omega
 rw[e,tk (by omega) (by omega)]
theorem OM (hd:d<10)(h:kv (.int .u64 ((48+d:Nat):Int))): ∃v,bm .add (.int .u64 48) (.int .u64 (d:Int))=some v/\kv v:=by
 refine ⟨_,?_,h⟩;show some (AV.int .u64 (IntKind.wrap .u64 (48+(d:Int))))=_
 rw[tk (by omega) (by omega)];simp
theorem Wh (hd:d<10)(h:k {res:=.int .u8 ((UInt8.ofNat (48+d)).toNat:Int)}): ∃e,aX (.conv .u8 x) g key [.int .u64 ((48+d:Nat):Int)] hg=some e/\k e:=by
 refine ⟨_,?_,h⟩;have e:(UInt8.ofNat (48+d)).toNat=48+d:=by rw[UInt8.toNat_ofNat'];omega
 show some ({res:=AV.int .u8 (IntKind.wrap .u8 ((48+d:Nat):Int))}:Eff)=_
 rw[e,rc (by omega) (by omega)]
end
theorem zq {f n:Nat}(h:n<10):bT f n= [UInt8.ofNat (48+n)]:=by
 cases f<;>simp[bT,h]
theorem sA: ∀(f n:Nat),(bT f n).length<=f+1
 |0,n=>by simp[bT]
 |f+1,n=>by
  have:=sA f (n/ 10);simp only[bT];split
  ·simp
  ·simp;omega
theorem pD: ∀(f n:Nat),f<2^40->n<10^ (f+1)->n<18446744073709551616->ag G 344 [.int .u64 (n:Int)] [] ⟨.str (bT f n),[]⟩:=by
 intro f
 induction f with
 |zero=>
  intro n _ h h2;have hn:n<10:=by simpa using h
  rw[zq hn];have hd:n % 10<10:=by omega
  have hlt:(n:Int)<10:=by omega
  have e:UInt8.ofNat (48+n)=UInt8.ofNat (48+n % 10):=by rw[Nat.mod_eq_of_lt hn]
  rw[e];refine gvC (F:=JL) ?_
  repeat' ((conv=>whnf);first|refine Wc h2 ?_|refine OM hd ?_|refine Wh hd ?_|refine zBv (l:=[UInt8.ofNat (48+n % 10)]) rfl rfl ?_|refine aq ?_|apply ae<;>intro h)
  refine ap ?_;rfl
 |succ f ih=>
  intro n hf h h2;have hd:n % 10<10:=by omega
  by_cases hn:n<10
  ·rw[zq hn]
   have hlt:(n:Int)<10:=by omega
   have e:UInt8.ofNat (48+n)=UInt8.ofNat (48+n % 10):=by rw[Nat.mod_eq_of_lt hn]
   rw[e];refine gvC (F:=JL) ?_
   repeat' ((conv=>whnf);first|refine Wc h2 ?_|refine OM hd ?_|refine Wh hd ?_|refine zBv (l:=[UInt8.ofNat (48+n % 10)]) rfl rfl ?_|refine aq ?_|apply ae<;>intro h)
   refine ap ?_;rfl
  ·have hlt: ¬(n:Int)<10:=by omega
   have h1:=ih (n/ 10) (by omega) (by rw[Nat.pow_succ] at h;omega) (by omega)
   have e:bT (f+1) n=bT f (n/ 10)++[UInt8.ofNat (48+n % 10)]:=by simp[bT,hn]
   rw[e];have hwl:=sA f (n/ 10);generalize bT f (n/ 10)=w at*;have hul: [UInt8.ofNat (48+n % 10)].length=1:=rfl;refine gvC (F:=JL) ?_
   repeat' ((conv=>whnf);first|refine Wc h2 ?_|refine OM hd ?_|refine Wh hd ?_|refine zBv (l:=[UInt8.ofNat (48+n % 10)]) rfl rfl ?_|refine zQuo h2 ?_|refine iG ?_|refine aq ?_|apply ae<;>intro h)
   refine ap ?_;rfl
theorem tf (a:Int)(h0:0<=a)(h1:a<=4294967295):ag G 338 [.int .i64 a] [] ⟨.str (am a),[]⟩:=by
 have h:=pD 19 a.toNat (by omega) (by omega) (by omega)
 have e:((a.toNat:Nat):Int)=a:=by omega
 rw[e] at h;have e2:am a=bT 19 a.toNat:=by unfold am;rw[Aa (by omega)]
 rw[e2];generalize bT 19 a.toNat=w at*;exact gvA (F:=f338)
theorem JY (k k2 lo hi:Int)(l:C7):fx k (.mk k2 lo hi l)=if k2=3 then decide (k≠4) else if k2=4 then !l.isEmpty else decide (5<=k2/\k2<=7)&&decide (5<=k/\k<=7):=rfl
theorem Fm (k lo hi k2 lo2 hi2:Int)(l l2:C7)(hl:l2.length<2^40):ag G 644 [.agg [.int .i64 k,.int .i64 lo,.int .i64 hi,.sl 4 (l.map Rx.enc)],.agg [.int .i64 k2,.int .i64 lo2,.int .i64 hi2,.sl 4 (l2.map Rx.enc)]] [] ⟨.bool (fx k (.mk k2 lo2 hi2 l2)),[]⟩:=by
 have m1:=ml l2 Rx.enc;have hrep: ∀b:Bool,b=decide (5<=k/\k<=7)->True:=λ_ _=>trivial
 rw[JY]
 by_cases a3:k2=3
 ·rw[Ac a3]
  subst a3
  by_cases e:k=4
  ·subst e
   exact gvA (F:=iL)
  ·rw[Ak e]
   by_cases e5:k=5
   ·subst e5
    exact gvA (F:=iL)
   by_cases e6:k=6
   ·subst e6
    exact gvA (F:=iL)
   refine gvB (F:=iL) ?_;refine ap ?_;simp[e]
 rw[Aa a3]
 by_cases a4:k2=4
 ·rw[Ac a4]
  subst a4;have hem:(!l2.isEmpty)=decide ((l2.length:Int)>0):=by cases l2<;>simp
  rw[hem]
  by_cases e5:k=5
  ·subst e5
   refine gvB (F:=iL) ?_;refine ap ?_;rw[m1]
  by_cases e6:k=6
  ·subst e6
   refine gvB (F:=iL) ?_;refine ap ?_;rw[m1]
  refine gvB (F:=iL) ?_;refine ap ?_;rw[m1]
 rw[Aa a4]
 have run: ∀d:Bool,d=decide (5<=k/\k<=7)-> ∀e:Bool,e=decide (5<=k2/\k2<=7)->ag G 644 [.agg [.int .i64 k,.int .i64 lo,.int .i64 hi,.sl 4 (l.map Rx.enc)],.agg [.int .i64 k2,.int .i64 lo2,.int .i64 hi2,.sl 4 (l2.map Rx.enc)]] [] ⟨.bool (e&&d),[]⟩:=λd hd e he=>by
  by_cases b5:k2=5
  ·subst b5
   obtain rfl:e=true:=by rw[he];decide
   by_cases e5:k=5
   ·subst e5
    obtain rfl:d=true:=by rw[hd];decide
    exact gvA (F:=iL)
   by_cases e6:k=6
   ·subst e6
    obtain rfl:d=true:=by rw[hd];decide
    exact gvA (F:=iL)
   obtain rfl:d=decide (k=7):=by rw[hd,Bool.eq_iff_iff];simp only[AK];omega
   refine gvB (F:=iL) ?_;refine ap ?_;simp;rw[Bool.eq_iff_iff];simp
  by_cases b6:k2=6
  ·subst b6
   obtain rfl:e=true:=by rw[he];decide
   by_cases e5:k=5
   ·subst e5
    obtain rfl:d=true:=by rw[hd];decide
    exact gvA (F:=iL)
   by_cases e6:k=6
   ·subst e6
    obtain rfl:d=true:=by rw[hd];decide
    exact gvA (F:=iL)
   obtain rfl:d=decide (k=7):=by rw[hd,Bool.eq_iff_iff];simp only[AK];omega
   refine gvB (F:=iL) ?_;refine ap ?_;simp;rw[Bool.eq_iff_iff];simp
  by_cases b7:k2=7
  ·subst b7
   obtain rfl:e=true:=by rw[he];decide
   by_cases e5:k=5
   ·subst e5
    obtain rfl:d=true:=by rw[hd];decide
    exact gvA (F:=iL)
   by_cases e6:k=6
   ·subst e6
    obtain rfl:d=true:=by rw[hd];decide
    exact gvA (F:=iL)
   obtain rfl:d=decide (k=7):=by rw[hd,Bool.eq_iff_iff];simp only[AK];omega
   refine gvB (F:=iL) ?_;refine ap ?_;simp;rw[Bool.eq_iff_iff];simp
  obtain rfl:e=false:=by rw[he];simp;omega
  by_cases e5:k=5
  ·subst e5
   exact gvA (F:=iL)
  by_cases e6:k=6
  ·subst e6
   exact gvA (F:=iL)
  exact gvA (F:=iL)
 exact run _ rfl _ rfl
def n8 (w:B5):B7:=[.str w]
@[simp] theorem W9: ∀l:CF,ab (l.map n8)=true
 | []=>rfl
 |x::r=>by simp only[An,ab,W9 r];rfl
def jr (c:UInt8):CF->B5
 | []=>[]
 |x::r=>c::(x++jr c r)
theorem w9 (c:UInt8): ∀(x:B5)(r:CF),dl c (x::r)=x++jr c r
 |x,[]=>by simp[dl,jr]
 |x,y::r=>by rw[lk,w9 c y r,jr]
theorem pb (l:CF)(hl:l.length<2^40)(c:UInt8): ∀(rest done:CF)(acc R:B5)(T:TV)(H:az)(ct:Nat)(n:Int)(e:l=done++rest)(hn:n=done.length)(hb:acc.length+eU rest<2^40)(hR:R=if done= [] then dl c rest else acc++jr c rest)(hd0:done= []->acc= []),
  Ev G ⟨Zx,⟨(10,.int .i64 n)::(1,.str [c])::(5,.str acc)::(8,.sl 1 (l.map n8))::(9,.int .i64 l.length)::T,H,ct⟩,[.t 4],0⟩ ⟨.str R,[]⟩
 | [],done,acc,R,T,H,ct,n,e,hn,hb,hR,hd0=>by
  have hd:=md0 e
  obtain rfl:R=acc:=by
   rw[hR]
   by_cases h:done= []
   ·rw[Ac h,hd0 h];rfl
   ·rw[Aa h];simp[jr]
  refine evA ?_;refine ap ?_;rfl
 |x::r,done,acc,R,T,H,ct,n,e,hn,hb,hR,hd0=>by
  have hd:=md e;have hll:=ml l n8;have hx:(l.map n8)[n.toNat]? =some [.str x]:=by simp[e,hn,n8]
  have h1: [c].length=1:=rfl;rw[eU] at hb
  by_cases h:done= []
  ·have h0:=hd0 h
   subst h h0;obtain rfl:n=0:=hn;rw[Ac rfl,w9] at hR;have hz:([]:B5).length=0:=rfl;refine evl ?_
   repeat' ((conv=>whnf);first|refine iG ?_|refine aq ?_|apply ae<;>intro h)
   refine au [10,1,5,8,9] [] ?_;exact pb l hl c r [x] x R _ _ _ 1 (by simpa using e) rfl (by simp at hb;omega) (by rw[Aa (by simp)];exact hR) (by simp)
  ·rw[Aa h,jr] at hR
   have hp:(0:Int)<n:=by
    have:done.length≠0:=λq=>h (AD q)
    omega
   have h2:(acc++[c]).length=acc.length+1:=by simp
   refine evl ?_
   repeat' ((conv=>whnf);first|refine iG ?_|refine aq ?_|apply ae<;>intro h)
   refine au [10,1,5,8,9] [] ?_;exact pb l hl c r (done++[x]) (acc++[c]++x) R _ _ _ (n+1) (by simp[e]) (by simp[hn]) (by simp;omega) (by rw[Aa (by simp),hR];simp) (by simp)
theorem sR (l:CF)(hl:l.length<2^40)(hb:eU l<2^40)(c:UInt8):ag G 645 [.sl 1 (l.map n8),.str [c]] [] ⟨.str (dl c l),[]⟩:=by
 have hll:=ml l n8;refine gvB (F:=QT) ?_;refine au [10,1,5,8,9] [] ?_;rw[hll];exact pb l hl c l [] [] _ _ _ _ 0 rfl rfl (by simpa using hb) (by rw[Ac rfl]) (λ_=>rfl)
theorem wE: ∀(a b:CF),eU (a++b)=eU a+eU b
 | [],b=>by simp[eU]
 |x::r,b=>by rw[BD,eU,eU,wE r b];omega
theorem sd (dec:Int->B5)(k:Int): ∀(a b:C7),bw dec k (a++b)=bw dec k a++bw dec k b
 | [],b=>by rw[bw];rfl
 |x::r,b=>by rw[BD,bw,bw,sd dec k r b];rfl
def u9 (x:Rx):Prop:=ag G 618 [.agg x.enc] [] ⟨.str (pat am x),[]⟩
theorem Mg (k lo hi:Int)(l:C7)(hn:bq k lo hi l.length=true)(hl:l.length<2^40)(hb:eU (bw am k l)<2^30)(g gp:Nat)(T:TV)(H:az)(ct:Nat)(ps:CF)(hps:ps=bw am k l):
  Ev G ⟨qt,⟨(10,.int .i64 l.length)::(3,.vs 200 g ps.length)::(1,.ref 65 gp 0)::(8,.sl 4 (l.map Rx.enc))::(9,.int .i64 l.length)::T,(200,some (g,.vec 1 (ps.map n8)))::(65,some (gp,.cells [.int .i64 k,.int .i64 lo,.int .i64 hi,.sl 4 (l.map Rx.enc)]))::H,ct⟩,[.t 2],0⟩ ⟨.str (dL am k lo hi ps),[]⟩:=by
 have hpl:ps.length=l.length:=by rw[hps];exact o4 l
 have m1:=ml ps n8;rw[<-hps] at hb;unfold bq at hn
 by_cases k1:k=1
 ·rw[Ac k1] at hn
  obtain ⟨q1,q2,q3,q4⟩:=of_decide_eq_true hn;subst k1;have d1:=tf lo q1 (by omega)
  have d2:=tf hi (by omega) q3
  have i1:=itoa_len (a:=lo) q1 (by omega)
  have i2:=itoa_len (a:=hi) (by omega) q3
  by_cases e:lo=hi
  ·rw[show dL am 1 lo hi ps=am lo from by unfold dL;rw[Aa (by omega),Ac rfl,Ac e]]
   generalize am lo=w1 at*;refine evA ?_;refine ap ?_;rfl
  ·rw[show dL am 1 lo hi ps=91::(am lo++45::(am hi++[93])) from by unfold dL;rw[Aa (by omega),Ac rfl,Aa e]]
   generalize am lo=w1 at*;generalize am hi=w2 at*;have z1:([91]:B5).length=1:=rfl;have z2:([45]:B5).length=1:=rfl;have z3:([93]:B5).length=1:=rfl;refine evl ?_
   repeat' ((conv=>whnf);first|refine iG ?_|refine aq ?_|apply ae<;>intro h)
   refine ap ?_;simp
 rw[Aa k1,At] at hn;obtain ⟨hz,hn⟩:=hn;obtain ⟨rfl,rfl⟩:=of_decide_eq_true hz
 by_cases k0:k=0
 ·subst k0
  refine evA ?_;refine ap ?_;rfl
 by_cases k2:k=2
 ·subst k2
  refine evA ?_;refine ap ?_;rfl
 rw[Aa (by omega)] at hn
 by_cases k3:k=3
 ·subst k3
  have hj:=sR ps (by omega) (by omega) 32
  rw[show dL am 3 0 0 ps=dl 32 ps from rfl]
  generalize dl 32 ps=w at*;refine evl ?_
  repeat' (first|refine aW ?_|refine kZ [(200,_,_)] ⟨rfl,pz trivial⟩ (hj) ?_|apply ae<;>intro h)
  refine ap ?_;rfl
 rw[Aa k3] at hn
 by_cases k4:k=4
 ·subst k4
  by_cases hz:ps= []
  ·subst hz
   rw[show dL am 4 0 0 []= [33] from rfl]
   have z0:([]:CF).length=0:=rfl;refine evA ?_;refine ap ?_;rfl
  ·have hpz:ps.length≠0:=λq=>hz (AD q)
   have hj:=sR ps (by omega) (by omega) 124
   rw[show dL am 4 0 0 ps=dl 124 ps from by unfold dL;rw[Aa (by omega),Aa (by omega),Aa (by omega),Aa (by omega),Ac rfl,Aa (by cases ps<;>simp_all)]]
   generalize dl 124 ps=w at*;refine evl ?_
   repeat' (first|refine aW ?_|refine kZ [(200,_,_)] ⟨rfl,pz trivial⟩ (hj) ?_|apply ae<;>intro h)
   refine ap ?_;rfl
 rw[Aa k4] at hn
 by_cases k5:5<=k/\k<=7
 ·rw[Ac k5] at hn
  have hn:=of_decide_eq_true hn
  obtain ⟨p,rfl⟩: ∃p,ps= [p]:=by
   match ps,hpl with
   | [p],_=>exact ⟨p,rfl⟩
   | [],h=>simp at h;omega
   |a::b::r,h=>simp at h;omega
  simp only[eU] at hb;have hx:([p].map n8)[(0:Int).toNat]? =some [.str p]:=rfl;have z1:([p]:CF).length=1:=rfl;have z2:([42]:B5).length=1:=rfl;have z3:([43]:B5).length=1:=rfl;have z4:([63]:B5).length=1:=rfl;rcases (by omega:k=5∨k=6∨k=7) with rfl|rfl|rfl
  ·rw[show dL am 5 0 0 [p]=p++[42] from rfl]
   refine evl ?_
   repeat' ((conv=>whnf);first|refine iG ?_|refine aq ?_|apply ae<;>intro h)
   refine ap ?_;rfl
  ·rw[show dL am 6 0 0 [p]=p++[43] from rfl]
   refine evl ?_
   repeat' ((conv=>whnf);first|refine iG ?_|refine aq ?_|apply ae<;>intro h)
   refine ap ?_;rfl
  ·rw[show dL am 7 0 0 [p]=p++[63] from rfl]
   refine evl ?_
   repeat' ((conv=>whnf);first|refine iG ?_|refine aq ?_|apply ae<;>intro h)
   refine ap ?_;rfl
 ·rw[Aa k5] at hn;cases hn
theorem wa (k lo hi:Int)(l:C7)(hn:bq k lo hi l.length=true)(hl:l.length<2^40)(hb:eU (bw am k l)<2^30)(hk: ∀y∈l,u9 y/\Sml y)(gp:Nat): ∀(rest done:C7)(T:TV)(H:az)(ct g m:Nat)(es:B6)(n:Int)(e:l=done++rest)(hnn:n=done.length)(hm:m=(bw am k done).length)(hes:es=(bw am k done).map n8),
  Ev G ⟨qt,⟨(10,.int .i64 n)::(3,.vs 200 g m)::(1,.ref 65 gp 0)::(8,.sl 4 (l.map Rx.enc))::(9,.int .i64 l.length)::T,(200,some (g,.vec 1 es))::(65,some (gp,.cells [.int .i64 k,.int .i64 lo,.int .i64 hi,.sl 4 (l.map Rx.enc)]))::H,ct⟩,[.t 2],0⟩ ⟨.str (dL am k lo hi (bw am k l)),[]⟩
 | [],done,T,H,ct,g,m,es,n,e,hnn,hm,hes=>by
  obtain rfl:l=done:=by simpa using e
  subst hm hes hnn;exact Mg k lo hi l hn hl hb g gp T H ct _ rfl
 |x::r,done,T,H,ct,g,m,es,n,e,hnn,hm,hes=>by
  have hd:=md e;have hll:=ml l Rx.enc;have hx:(l.map Rx.enc)[n.toNat]? =some x.enc:=by simp[e,hnn]
  obtain ⟨hp,hs⟩:=hk x (by simp[e])
  have hpx:=cM x;have hpl:(bw am k done).length=done.length:=o4 done;have hpa:bw am k (done++[x])=bw am k done++[dz k x (pat am x)]:=by rw[sd,bw,bw]
  have hbx:(pat am x).length+2<2^31:=by
   have h1:bw am k l=bw am k done++(dz k x (pat am x)::bw am k r):=by rw[e,sd,bw]
   rw[h1,wE,eU] at hb;have:(pat am x).length<=(dz k x (pat am x)).length:=by unfold dz;split<;>simp;omega
   omega
  have ih:=λT H ct g=>wa k lo hi l hn hl hb hk gp r (done++[x]) T H ct g (m+1) (es++[n8 (dz k x (pat am x))]) (n+1) (by simp[e]) (by simp[hnn]) (by rw[hpa,hm];simp) (by rw[hpa,hes];simp)
  have hmm:m=done.length:=by rw[hm,hpl]
  have hel:es.length=m:=by rw[hes,hm];simp
  have hmn:(m:Int)=n:=by omega
  have hpe:ab es=true:=by rw[hes];simp
  unfold u9 at hp
  have hen: ∀k2 lo2 hi2 l2,x= .mk k2 lo2 hi2 l2->ag G 644 [.agg [.int .i64 k,.int .i64 lo,.int .i64 hi,.sl 4 (l.map Rx.enc)],.agg [.int .i64 k2,.int .i64 lo2,.int .i64 hi2,.sl 4 (l2.map Rx.enc)]] [] ⟨.bool (fx k x),[]⟩:=λk2 lo2 hi2 l2 hxx=>by
   subst hxx;exact Fm k lo hi k2 lo2 hi2 l l2 hs.len
  have z1:([40]:B5).length=1:=rfl;have z2:([41]:B5).length=1:=rfl;cases hc:fx k x with
  |true=>
   have hin:dz k x (pat am x)=40::(pat am x++[41]):=by unfold dz;rw[Ac hc]
   rw[hin] at ih;rw[hc] at hen;have ih: ∀T H ct g,Ev G ⟨qt,⟨(10,.int .i64 (n+1))::(3,.vs 200 g (m+1))::(1,.ref 65 gp 0)::(8,.sl 4 (l.map Rx.enc))::(9,.int .i64 l.length)::T,(200,some (g,.vec 1 (es++[[.str ([40]++pat am x++[41])]])))::(65,some (gp,.cells [.int .i64 k,.int .i64 lo,.int .i64 hi,.sl 4 (l.map Rx.enc)]))::H,ct⟩,[.t 2],0⟩ ⟨.str (dL am k lo hi (bw am k l)),[]⟩:=ih
   generalize pat am x=w at*;generalize hxe:x.enc=xe at*;obtain ⟨k2,lo2,hi2,l2⟩:=x;rw[bl] at hxe;subst hxe;have hen:=hen k2 lo2 hi2 l2 rfl;have hwl:([40]++w).length=w.length+1:=by simp
   refine evl ?_
   repeat' ((conv=>whnf);first|refine iG ?_|refine kV hp ?_ hpx|refine aq ?_|apply ae<;>intro h)
   refine au [10,3,1,8,9] [200,65] ?_;exact ih _ _ _ _
  |false=>
   have hin:dz k x (pat am x)=pat am x:=by unfold dz;rw[Aa (by rw[hc];simp)]
   rw[hin] at ih;rw[hc] at hen;have ih: ∀T H ct g,Ev G ⟨qt,⟨(10,.int .i64 (n+1))::(3,.vs 200 g (m+1))::(1,.ref 65 gp 0)::(8,.sl 4 (l.map Rx.enc))::(9,.int .i64 l.length)::T,(200,some (g,.vec 1 (es++[[.str (pat am x)]])))::(65,some (gp,.cells [.int .i64 k,.int .i64 lo,.int .i64 hi,.sl 4 (l.map Rx.enc)]))::H,ct⟩,[.t 2],0⟩ ⟨.str (dL am k lo hi (bw am k l)),[]⟩:=ih
   generalize pat am x=w at*;generalize hxe:x.enc=xe at*;obtain ⟨k2,lo2,hi2,l2⟩:=x;rw[bl] at hxe;subst hxe;have hen:=hen k2 lo2 hi2 l2 rfl;refine evl ?_
   repeat' ((conv=>whnf);first|refine iG ?_|refine kV hp ?_ hpx|refine aq ?_|apply ae<;>intro h)
   refine au [10,3,1,8,9] [200,65] ?_;exact ih _ _ _ _
theorem act (k lo hi:Int)(l:C7)(hn:bq k lo hi l.length=true)(hl:l.length<2^40)(hb:eU (bw am k l)<2^30)(hk: ∀y∈l,u9 y/\Sml y):u9 (.mk k lo hi l):=by
 have hll:=ml l Rx.enc;unfold u9;rw[bl,pat];refine gvB (F:=Rj) ?_;refine cP 200 1 [(3,.vs 200 _ 0)] [] ⟨LeP.nilV _ _ _,trivial⟩ trivial ?_;refine au [10,3,1,8,9] [200,65] ?_;rw[hll];exact wa k lo hi l hn hl hb hk _ l [] _ _ _ _ _ _ 0 rfl rfl rfl rfl
mutual
theorem NQ: ∀(x:Rx){lv c c':Nat},Sml x->chk x lv c=some c'->u9 x
 | .mk k lo hi l,lv,c,c',hs,h=>by
  have hc':=uM h;rw[chk] at h;split at h
  ·cases h
  ·split at h
   ·cases h
   ·split at h
    ·rename_i hn
     have h1:=qi k l h;have h2:=IK l hs.kid h;exact act k lo hi l hn hs.len (by omega) h2
    ·cases h
theorem IK: ∀(l:C7){lv c c':Nat},(∀x∈l,Sml x)->i6 l lv c=some c'-> ∀y∈l,u9 y/\Sml y
 | [],_,_,_,_,_=>λy hy=>by simp at hy
 |x::r,lv,c,c',hs,h=>λy hy=>by
  rw[i6] at h;split at h
  ·rename_i c1 h1
   have h2:=NQ x (hs x (by simp)) h1
   rcases AI.1 hy with q|q
   ·rw[q];exact ⟨h2,hs x (by simp)⟩
   ·exact IK r (λz hz=>hs z (by simp[hz])) h y q
  ·cases h
end
theorem AZ (s:B5)(hs:s.length<2^32):ag G 571 [.str s] [] (rQ (ff s)):=by
 have hq:=uY s hs 32 1 (by omega) (by omega) 0 (by omega)
 unfold ff;cases ha:dj s (js s) 32 0 with
 |none=>
  rw[ha] at hq;obtain ⟨x,m,hm,hq⟩:=hq;have hq:ag G 616 [.ref 0 0 0,.int .i64 1] [.cells [.str s,.int .i64 0]] (rpR s (.tup [.agg x.enc,.bool false]) m):=hq;have hpx:=cM x;show ag G 571 _ _ ⟨.tup [.agg rx0.enc,.int .i64 2],[]⟩
  rw[mB];obtain ⟨k,lo,hi,l⟩:=x;rw[bl] at hq hpx;refine gvC (F:=xu) ?_
  repeat' (first|refine aW ?_|refine kX1 73 rfl (hq) ?_|apply ae<;>intro h)
  refine b9 [] [(66,some (_,.cells ([.int .i64 0,.int .i64 0,.int .i64 0,.sl 4 []])))] trivial ⟨⟨rfl,leA⟩,trivial⟩ ?_;refine ap ?_;(conv=>whnf);refine Go.AM.finC ?_;rfl
 |some p=>
  obtain ⟨x,m⟩:=p;rw[ha] at hq;obtain ⟨_,p2,hsm⟩:=rB hs (wL s) 32 _ _ _ (by omega) ha
  have hq:ag G 616 [.ref 0 0 0,.int .i64 1] [.cells [.str s,.int .i64 0]] (rpR s (.tup [.agg x.enc,.bool true]) m):=hq;obtain ⟨e,hc,he⟩:=Cr x hsm;have hpx:=cM x;dsimp only
  by_cases h1:m=s.length
  ·subst h1
   by_cases h2:(chk x 1 0).isSome=true
   ·obtain rfl:e=0:=he.2 h2
    obtain ⟨c',hc'⟩:=A8.1 h2;have hp:=NQ x hsm hc';unfold u9 at hp
    by_cases h3:pat am x=s
    ·rw[Ac ⟨rfl,h2,h3⟩]
     show ag G 571 _ _ ⟨.tup [.agg x.enc,.int .i64 0],[]⟩
     generalize pat am x=w at*;generalize hxe:x.enc=xe at*;obtain ⟨k,lo,hi,l⟩:=x;rw[bl] at hxe;subst hxe;refine gvC (F:=xu) ?_
     repeat' ((conv=>whnf);first|refine kV hc ?_ hpx|refine kV hp ?_ hpx|refine O6 h3 ?_|refine aq ?_|refine kX1 73 rfl (hq) ?_|apply ae<;>intro h)
     refine ap ?_;(conv=>whnf);refine Go.AM.finC ?_;rfl
    ·rw[Aa (λq=>h3 q.2.2)]
     show ag G 571 _ _ ⟨.tup [.agg rx0.enc,.int .i64 2],[]⟩
     rw[mB];generalize pat am x=w at*;have hne:(w==s)=false:=by simpa using h3
     have zne: ∀{kv:AV->Prop},kv (.bool true)-> ∃v,bm .neq (.str w) (.str s)=some v/\kv v:=λh=>⟨.bool true,by show some (AV.bool (!(w==s)))=_;rw[hne];rfl,h⟩
     generalize hxe:x.enc=xe at*;obtain ⟨k,lo,hi,l⟩:=x;rw[bl] at hxe;subst hxe;refine gvC (F:=xu) ?_
     repeat' ((conv=>whnf);first|refine kV hc ?_ hpx|refine kV hp ?_ hpx|refine zne ?_|refine aq ?_|refine kX1 73 rfl (hq) ?_|apply ae<;>intro h)
     refine b9 [] [(66,some (_,.cells ([.int .i64 0,.int .i64 0,.int .i64 0,.sl 4 []])))] trivial ⟨⟨rfl,leA⟩,trivial⟩ ?_;refine ap ?_;(conv=>whnf);refine Go.AM.finC ?_;rfl
   ·rw[Aa (λq=>h2 q.2.1)]
    have he': ¬e=0:=λq=>h2 (he.1 q)
    show ag G 571 _ _ ⟨.tup [.agg rx0.enc,.int .i64 2],[]⟩
    rw[mB];generalize hxe:x.enc=xe at*;obtain ⟨k,lo,hi,l⟩:=x;rw[bl] at hxe;subst hxe;refine gvC (F:=xu) ?_
    repeat' ((conv=>whnf);first|refine kV hc ?_ hpx|refine aq ?_|refine kX1 73 rfl (hq) ?_|apply ae<;>intro h)
    refine b9 [] [(66,some (_,.cells ([.int .i64 0,.int .i64 0,.int .i64 0,.sl 4 []])))] trivial ⟨⟨rfl,leA⟩,trivial⟩ ?_;refine ap ?_;(conv=>whnf);refine Go.AM.finC ?_;rfl
  ·rw[Aa (λq=>h1 q.1)]
   have hlt:m<s.length:=by omega
   show ag G 571 _ _ ⟨.tup [.agg rx0.enc,.int .i64 2],[]⟩
   rw[mB];generalize hxe:x.enc=xe at*;obtain ⟨k,lo,hi,l⟩:=x;rw[bl] at hxe;subst hxe;refine gvC (F:=xu) ?_
   repeat' (first|refine aW ?_|refine kX1 73 rfl (hq) ?_|apply ae<;>intro h)
   refine b9 [] [(66,some (_,.cells ([.int .i64 0,.int .i64 0,.int .i64 0,.sl 4 []])))] trivial ⟨⟨rfl,leA⟩,trivial⟩ ?_;refine ap ?_;(conv=>whnf);refine Go.AM.finC ?_;rfl
end Go.AM.IR
