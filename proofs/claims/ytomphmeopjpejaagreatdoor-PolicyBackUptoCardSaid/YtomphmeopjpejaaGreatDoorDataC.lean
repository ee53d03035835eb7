/- What functions of this program give. -/
import Derived.Test.YtomphmeopjpejaaGreatDoorDataB
set_option linter.unusedSectionVars false
set_option linter.unusedVariables false
set_option linter.unusedSimpArgs false
set_option maxHeartbeats 4000000
set_option maxRecDepth 20000
namespace Go.AM.IR
def rpR (s:CF)(v:AV)(m:Nat):Ret:=⟨v,[(true,.cells [.str s,.int .i64 (m:Int)])]⟩
theorem bq (s:CF)(hs:s.length<2^40)(c:UInt8)(n:Nat)(hn:n<=s.length):ab G 642 [.ref 0 0 0,.int .u8 (c.toNat:Int)] [.cells [.str s,.int .i64 (n:Int)]] (rpR s (.bool (chr s n c)) (if chr s n c then n+1 else n)):=by
 by_cases h:n<s.length
 ·have hb:s[((n:Nat):Int).toNat]? =some s[n]:=by simp[h]
  have hch:chr s n c=(s[n]==c):=by unfold chr;simp[h]
  generalize s[n]=b at*
  by_cases hbc:b.toNat=c.toNat
  ·have e:b=c:=A9.1 hbc
   have hi:(b.toNat:Int)=(c.toNat:Int):=by rw[hbc]
   rw[hch,show (b==c)=true from by simp[e],Ad rfl]
   refine gvC (F:=JL) ?_
   repeat' (first|refine bz ?_|apply ae<;>intro h)
   refine fX1 ?_;rfl
  ·have e: ¬b=c:=λq=>hbc (by rw[q])
   have hi: ¬(b.toNat:Int)=(c.toNat:Int):=by omega
   rw[hch,show (b==c)=false from by simp[e],Ac (by simp)]
   refine gvC (F:=JL) ?_
   repeat' (first|refine bz ?_|apply ae<;>intro h)
   refine fX1 ?_;rfl
 ·have hch:chr s n c=false:=by unfold chr;rw[AD (by omega)];rfl
  rw[hch,Ac (by simp)]
  refine gvB (F:=JL) ?_;refine fX1 ?_;rfl
theorem FF {kv:AV->Prop}{b:UInt8}(h:kv (.int .u8 (gN b)))(hb:48<=b.toNat): ∃v,bp .sub (.int .u8 (b.toNat:Int)) (.int .u8 48)=some v/\kv v:=by
 refine ⟨_,?_,h⟩;have hl:=b.toNat_lt;show some (AV.int .u8 (IntKind.wrap .u8 ((b.toNat:Int)-48)))=_
 unfold gN;rw[qk (by omega) (by omega)]
def NumG (s:CF)(n:Nat)(o:Option (Int×Nat)):Prop:= ∃v b m,n<=m/\m<=s.length/\ab G 661 [.ref 0 0 0] [.cells [.str s,.int .i64 (n:Int)]] (rpR s (.tup [.int .i64 v,.bool b]) m)/\match o with
 |some (a,k)=>b=true/\v=a/\m=k
 |none=>b=false
theorem vc (s:CF)(hs:s.length<2^40)(fr:Nat): ∀(f:Nat)(a:Int)(n:Nat)(hf:s.length<f+n)(hn:n<=s.length)(h0:0<=a)(h1:a<=4294967295)(hfr:fr<=n),∃v b m,n<=m/\m<=s.length/\(match rnL s fr f a n with
  |some (x,k)=>b=true/\v=x/\m=k
  |none=>b=false)/\ ∀(T:TV)(H:aq)(c:Nat),
  Ev G ⟨wo,⟨(0,.ref 0 0 0)::(4,.int .i64 a)::(5,.int .i64 (fr:Int))::T,(0,some (0,.cells [.str s,.int .i64 (n:Int)]))::H,c⟩,[.t 2,.t 3],1⟩ (rpR s (.tup [.int .i64 v,.bool b]) m)
 |0,a,n,hf,hn,h0,h1,hfr=>by omega
 |f+1,a,n,hf,hn,h0,h1,hfr=>by
  have stop: ∀(hr:rnL s fr (f+1) a n=if fr<n then some (a,n) else none)(go: ∀(b:Bool),b=decide (fr<n)-> ∀(T:TV) (H:aq) (c:Nat),Ev G ⟨wo,⟨(0,.ref 0 0 0)::(4,.int .i64 a)::(5,.int .i64 (fr:Int))::T,(0,some (0,.cells [.str s,.int .i64 (n:Int)]))::H,c⟩,[.t 2,.t 3],1⟩ (rpR s (.tup [.int .i64 a,.bool b]) n)),∃v b m,n<=m/\m<=s.length/\(match rnL s fr (f+1) a n with
  |some (x,k)=>b=true/\v=x/\m=k
  |none=>b=false)/\ ∀(T:TV)(H:aq)(c:Nat),
  Ev G ⟨wo,⟨(0,.ref 0 0 0)::(4,.int .i64 a)::(5,.int .i64 (fr:Int))::T,(0,some (0,.cells [.str s,.int .i64 (n:Int)]))::H,c⟩,[.t 2,.t 3],1⟩ (rpR s (.tup [.int .i64 v,.bool b]) m):=λhr go=>by
   rw[hr]
   by_cases q:fr<n
   ·rw[Ad q]
    exact ⟨a,true,n,by omega,hn,⟨rfl,rfl,rfl⟩,go true (by simp[q])⟩
   ·rw[Ac q]
    exact ⟨a,false,n,by omega,hn,rfl,go false (by simp[q])⟩
  by_cases h:n<s.length
  ·have hb:s[((n:Nat):Int).toNat]? =some s[n]:=by simp[h]
   have hb2:s[n]? =some s[n]:=AK h;generalize s[n]=b at*;have hbl:=b.toNat_lt
   by_cases d1:48<=b.toNat
   ·by_cases d2:b.toNat<=57
    ·have hd:isD b=true:=by simp[isD,d1,d2]
     have hv:=uG hd;rw[rnL,hb2];simp only[hd,if_true]
     by_cases hg:4294967295<10*a+gN b
     ·rw[Ad hg]
      refine ⟨0,false,n+1,by omega,by omega,rfl,λT H c=>?_⟩
      refine evl ?_
      repeat' ((conv=>whnf);first|refine zIstr ?_ hb (by omega)|refine FF ?_ d1|refine ay ?_|apply ae<;>intro h)
      refine fX1 ?_;rfl
     ·rw[Ac hg]
      obtain ⟨v,b',m,q1,q2,q3,q4⟩:=vc s hs fr f (10*a+gN b) (n+1) (by omega) (by omega) (by omega) (by omega) (by omega)
      refine ⟨v,b',m,by omega,q2,q3,λT H c=>?_⟩
      refine evl ?_
      repeat' ((conv=>whnf);first|refine zIstr ?_ hb (by omega)|refine FF ?_ d1|refine ay ?_|apply ae<;>intro h)
      refine ag [0,4,5] [0] ?_;exact q4 _ _ _
    ·have hd:isD b=false:=by simp[isD,d2]
     refine stop (by rw[rnL,hb2];simp[hd]) λe he T H c=>?_
     subst he;refine evl ?_
     repeat' (first|refine bz ?_|apply ae<;>intro h)
     refine fX1 ?_;simp[rpR];exact ⟨rfl,rfl⟩
   ·have hd:isD b=false:=by simp[isD,d1]
    refine stop (by rw[rnL,hb2];simp[hd]) λe he T H c=>?_
    subst he;refine evl ?_
    repeat' (first|refine bz ?_|apply ae<;>intro h)
    refine fX1 ?_;simp[rpR];exact ⟨rfl,rfl⟩
  ·refine stop (by rw[rnL,AD (by omega)]) λe he T H c=>?_
   subst he;refine evA ?_;refine fX1 ?_;simp[rpR];exact ⟨rfl,rfl⟩
theorem ou (s:CF)(hs:s.length<2^40)(n:Nat)(hn:n<=s.length):NumG s n (jv s n):=by
 obtain ⟨v,b,m,q1,q2,q3,q4⟩:=vc s hs n (s.length+1) 0 n (by omega) hn (by omega) (by omega) (by omega)
 refine ⟨v,b,m,q1,q2,?_,q3⟩;refine gvB (F:=RZ) ?_;refine ag [0,4,5] [0] ?_;exact q4 _ _ _
set_option linter.unusedVariables false
inductive Sml:Rx->Prop
 |mk {k lo hi:Int} {l:Do} (h:l.length<2^40) (hk: ∀x∈l,Sml x):Sml (.mk k lo hi l)
section
variable {k lo hi:Int}{l:Do}(h:Sml (.mk k lo hi l))
include h
theorem Sml.len:l.length<2^40:=by cases h;assumption
theorem Sml.kid: ∀x∈l,Sml x:=by cases h;assumption
end
theorem Sml.leaf (k lo hi:Int):Sml (.mk k lo hi []):=.mk (by simp) (by simp)
def Pos (s:CF)(P:PR):Prop:= ∀n x m,n<=s.length->P n=some (x,m)->n<=m/\m<=s.length/\Sml x
def TW (s:CF)(P:NR):Prop:= ∀n a m,n<=s.length->P n=some (a,m)->n<=m/\m<=s.length
theorem dv {s:CF}{n:Nat}{c:UInt8}(h:chr s n c=true):n<s.length:=by
 unfold chr at h;rcases A4 n s.length with q|q
 ·exact q
 ·rw[AD q] at h;simp at h
theorem xa {s:CF}{num:NR}{alt:PR}(hn:TW s num)(ha:Pos s alt):Pos s (dc s num alt):=by
 intro n x m hl h;unfold dc at h;split at h
 ·rename_i c;have:=dv c;cases h;exact ⟨by omega,by omega,.leaf ..⟩
 split at h
 ·rename_i c;have:=dv c;cases h;exact ⟨by omega,by omega,.leaf ..⟩
 split at h
 ·rename_i c;have:=dv c
  split at h
  ·rename_i c;have:=dv c;cases h;exact ⟨by omega,by omega,.leaf ..⟩
  ·split at h
   ·rename_i y k hk
    have:=ha _ _ _ (by omega) hk
    split at h
    ·rename_i c;have:=dv c;cases h;exact ⟨by omega,by omega,(by assumption:_/\_/\_).2.2⟩
    ·cases h
   ·cases h
 split at h
 ·rename_i c;have:=dv c
  split at h
  ·rename_i a k hk
   have:=hn _ _ _ (by omega) hk
   split at h
   ·rename_i c;have:=dv c
    split at h
    ·rename_i b j hj
     have:=hn _ _ _ (by omega) hj
     split at h
     ·rename_i c;have:=dv c;cases h;exact ⟨by omega,by omega,.leaf ..⟩
     ·cases h
    ·cases h
   ·cases h
  ·cases h
 ·split at h
  ·rename_i a k hk
   have:=hn _ _ _ (by omega) hk
   cases h;exact ⟨by omega,by omega,.leaf ..⟩
  ·cases h
theorem mi {s:CF}{atom:PR}(ha:Pos s atom):Pos s (fc s atom):=by
 intro n x m hl h;unfold fc at h;split at h
 ·rename_i y k hk
  obtain ⟨h1,h2,h3⟩:=ha _ _ _ hl hk;have hs: ∀p:Int,Sml (.mk p 0 0 [y]):=λp=>.mk (by simp) (by simpa using h3)
  split at h
  ·rename_i c;have:=dv c;cases h;exact ⟨by omega,by omega,hs _⟩
  split at h
  ·rename_i c;have:=dv c;cases h;exact ⟨by omega,by omega,hs _⟩
  split at h
  ·rename_i c;have:=dv c;cases h;exact ⟨by omega,by omega,hs _⟩
  ·cases h;exact ⟨h1,h2,h3⟩
 ·cases h
theorem Ou {s:CF}{item:PR}{c:UInt8}(hi:Pos s item): ∀(f:Nat)(acc:Do)(n:Nat)(l:Do)(m:Nat),n<=s.length->(∀x∈acc,Sml x)->fk s item c f acc n=some (l,m)->n<=m/\m<=s.length/\(∀x∈l,Sml x)/\l.length<=acc.length+f
 |0,_,_,_,_,_,_,h=>by simp[fk] at h
 |f+1,acc,n,l,m,hn,ha,h=>by
  rw[fk] at h;split at h
  ·rename_i y k hk
   obtain ⟨h1,h2,h3⟩:=hi _ _ _ hn hk
   have ha': ∀x∈acc++[y],Sml x:=λx hx=>by
    rcases B5.1 hx with q|q
    ·exact ha x q
    ·simp only[B6] at q;rw[q];exact h3
   split at h
   ·rename_i q
    have:=dv q;obtain ⟨q1,q2,q3,q4⟩:=Ou hi f (acc++[y]) (k+1) l m (by omega) ha' h
    simp at q4;exact ⟨by omega,q2,q3,by omega⟩
   ·cases h
    exact ⟨h1,h2,ha',by simp⟩
  ·cases h
section
variable {s:CF}(hs:s.length<2^32){item:PR}{c:UInt8}{k:Int}(hi:Pos s item)
include hs hi
theorem one_pos:Pos s (λn=>iu k (fk s item c (s.length+1) [] n)):=by
 intro n x m hl h;dsimp only at h;cases hq:fk s item c (s.length+1) [] n with
 |none=>rw[hq] at h;cases h
 |some p=>
  obtain ⟨l,j⟩:=p;obtain ⟨q1,q2,q3,q4⟩:=Ou hi _ _ _ _ _ hl (by simp) hq
  rw[hq] at h;have hl2:Sml (.mk k 0 0 l):=.mk (by simp at q4;omega) q3
  unfold iu at h;split at h
  ·rename_i y m' e
   obtain ⟨rfl,rfl⟩:=Prod.mk.inj (Ai e);cases h;exact ⟨q1,q2,q3 x (by simp)⟩
  ·rename_i l' m' _ e
   obtain ⟨rfl,rfl⟩:=Prod.mk.inj (Ai e);cases h;exact ⟨q1,q2,hl2⟩
  ·cases h
theorem uk:Pos s (kC s item):=one_pos hs hi
end
theorem qC {s:CF}(hs:s.length<2^32){num:NR}(hn:TW s num): ∀k,Pos s (de s num k)
 |0=>λn x m _ h=>by simp[de] at h
 |k+1=>by
  rw[de];exact one_pos hs (uk hs (mi (xa hn (qC hs hn k))))
theorem Ox {s:CF}{fr:Nat}: ∀(f:Nat)(a:Int)(n:Nat)(b:Int)(m:Nat),n<=s.length->rnL s fr f a n=some (b,m)->n<=m/\m<=s.length
 |0,_,_,_,_,_,h=>by simp[rnL] at h
 |f+1,a,n,b,m,hn,h=>by
  rw[rnL] at h;split at h
  ·rename_i c hc
   have hlt:n<s.length:=by
    rcases A4 n s.length with q|q
    ·exact q
    ·rw[AD q] at hc;cases hc
   split at h
   ·split at h
    ·cases h
    ·have:=Ox f _ (n+1) b m (by omega) h;omega
   ·split at h
    ·cases h;omega
    ·cases h
  ·split at h
   ·cases h;omega
   ·cases h
section
variable (f:Nat)(s:CF)(lv:Int)
theorem vM:TW s (jv s):=λn a m hn h=>Ox _ _ _ _ _ hn h
theorem mc:TW s (gM s):=λn a m hn h=>by
 unfold gM at h;dsimp only at h;split at h
 ·cases h
 split at h
 ·cases h
 split at h
 ·cases h
 cases h;have h1:((s.drop n).takeWhile isD).length<=(s.drop n).length:=(List.takeWhile_sublist _).length_le;simp at h1;omega
def ik (n:Nat):D1->Prop
 |some (x,m)=>ab G f [.ref 0 0 0,.int .i64 lv] [.cells [.str s,.int .i64 (n:Int)]] (rpR s (.tup [.agg x.enc,.bool true]) m)
 |none=> ∃x m,m<=s.length/\ab G f [.ref 0 0 0,.int .i64 lv] [.cells [.str s,.int .i64 (n:Int)]] (rpR s (.tup [.agg (Rx.enc x),.bool false]) m)
theorem e0 (k lo hi:Int):(Rx.mk k lo hi []).enc= [.int .i64 k,.int .i64 lo,.int .i64 hi,.sl 4 []]:=bi k lo hi []
theorem LQ (hl:32<lv)(n:Nat)(hn:n<=s.length):ik 656 s lv n none:=by
 refine ⟨rx0,n,hn,?_⟩;refine gvB (F:=j6) ?_;refine db [] [(68,some (_,.cells (rx0.enc)))] trivial ⟨⟨rfl,leA⟩,trivial⟩ ?_;refine fX1 ?_;refine cp ?_;rfl
theorem FA (hs:s.length<2^40)(alt:PR)(lv:Int)(hl:lv<=32)(hl0:0<=lv)(hp:Pos s alt)(hA: ∀n,n<=s.length->ik 616 s (lv+1) n (alt n))(n:Nat)(hn:n<=s.length):ik 656 s lv n (dc s (jv s) alt n):=by
 unfold dc
 by_cases h1c:chr s n 46=true
 ·rw[Ad h1c]
  have hlt:=dv h1c
  have h1:ab G 642 [.ref 0 0 0,.int .u8 46] [.cells [.str s,.int .i64 ((n:Nat):Int)]] (rpR s (.bool true) (n+1)):=by
   have:=bq s hs 46 (n) (by omega)
   rwa [h1c,Ad rfl] at this
  show ab G 656 _ _ (rpR s (.tup [.agg (Rx.mk 2 0 0 []).enc,.bool true]) (n+1))
  rw[e0];refine gvC (F:=j6) ?_
  repeat' (first|refine aQ ?_|refine kX1 0 rfl (h1) ?_|apply ae<;>intro h)
  refine db [] [(68,some (_,.cells ([.int .i64 2,.int .i64 0,.int .i64 0,.sl 4 []])))] trivial ⟨⟨rfl,leA⟩,trivial⟩ ?_;refine fX1 ?_;refine cp ?_;rfl
 rw[Ac h1c];rw[A3] at h1c
 have h1:ab G 642 [.ref 0 0 0,.int .u8 46] [.cells [.str s,.int .i64 ((n:Nat):Int)]] (rpR s (.bool false) (n)):=by
  have:=bq s hs 46 (n) (by omega)
  rwa [h1c,Ac (by simp)] at this
 by_cases h2c:chr s n 33=true
 ·rw[Ad h2c]
  have hlt:=dv h2c
  have h2:ab G 642 [.ref 0 0 0,.int .u8 33] [.cells [.str s,.int .i64 ((n:Nat):Int)]] (rpR s (.bool true) (n+1)):=by
   have:=bq s hs 33 (n) (by omega)
   rwa [h2c,Ad rfl] at this
  show ab G 656 _ _ (rpR s (.tup [.agg (Rx.mk 4 0 0 []).enc,.bool true]) (n+1))
  rw[e0];refine gvC (F:=j6) ?_
  repeat' (first|refine aQ ?_|refine kX1 0 rfl (h1) ?_|refine kX1 0 rfl (h2) ?_|apply ae<;>intro h)
  refine db [] [(68,some (_,.cells ([.int .i64 4,.int .i64 0,.int .i64 0,.sl 4 []])))] trivial ⟨⟨rfl,leA⟩,trivial⟩ ?_;refine fX1 ?_;refine cp ?_;rfl
 rw[Ac h2c];rw[A3] at h2c
 have h2:ab G 642 [.ref 0 0 0,.int .u8 33] [.cells [.str s,.int .i64 ((n:Nat):Int)]] (rpR s (.bool false) (n)):=by
  have:=bq s hs 33 (n) (by omega)
  rwa [h2c,Ac (by simp)] at this
 by_cases h3c:chr s n 40=true
 ·rw[Ad h3c]
  have hlt:=dv h3c
  have h3:ab G 642 [.ref 0 0 0,.int .u8 40] [.cells [.str s,.int .i64 ((n:Nat):Int)]] (rpR s (.bool true) (n+1)):=by
   have:=bq s hs 40 (n) (by omega)
   rwa [h3c,Ad rfl] at this
  by_cases h4c:chr s (n+1) 41=true
  ·rw[Ad h4c]
   have hlt2:=dv h4c
   have h4:ab G 642 [.ref 0 0 0,.int .u8 41] [.cells [.str s,.int .i64 ((n+1:Nat):Int)]] (rpR s (.bool true) (n+1+1)):=by
    have:=bq s hs 41 (n+1) (by omega)
    rwa [h4c,Ad rfl] at this
   show ab G 656 _ _ (rpR s (.tup [.agg (Rx.mk 0 0 0 []).enc,.bool true]) (n+1+1))
   rw[e0];refine gvC (F:=j6) ?_
   repeat' (first|refine aQ ?_|refine kX1 0 rfl (h1) ?_|refine kX1 0 rfl (h2) ?_|refine kX1 0 rfl (h3) ?_|refine kX1 0 rfl (h4) ?_|apply ae<;>intro h)
   refine db [] [(68,some (_,.cells ([.int .i64 0,.int .i64 0,.int .i64 0,.sl 4 []])))] trivial ⟨⟨rfl,leA⟩,trivial⟩ ?_;refine fX1 ?_;refine cp ?_;rfl
  rw[Ac h4c];rw[A3] at h4c
  have h4:ab G 642 [.ref 0 0 0,.int .u8 41] [.cells [.str s,.int .i64 ((n+1:Nat):Int)]] (rpR s (.bool false) (n+1)):=by
   have:=bq s hs 41 (n+1) (by omega)
   rwa [h4c,Ac (by simp)] at this
  have hq:=hA (n+1) (by omega)
  cases ha:alt (n+1) with
  |none=>
   rw[ha] at hq;obtain ⟨x,m,hm,hq⟩:=hq;refine ⟨x,m,hm,?_⟩;have hpx:=cy x;obtain ⟨k,lo,hi,l⟩:=x;rw[bi] at hq hpx⊢;refine gvC (F:=j6) ?_
   repeat' (first|refine aQ ?_|refine kX1 0 rfl (h1) ?_|refine kX1 0 rfl (h2) ?_|refine kX1 0 rfl (h3) ?_|refine kX1 0 rfl (h4) ?_|refine kX1 0 rfl (hq) ?_|apply ae<;>intro h)
   refine fX1 ?_;refine cp ?_;rfl
  |some p=>
   obtain ⟨x,m⟩:=p;rw[ha] at hq;obtain ⟨p1,p2,_⟩:=hp _ _ _ (by omega) ha
   dsimp only;simp only[ik] at hq;have hpx:=cy x;obtain ⟨k,lo,hi,l⟩:=x;rw[bi] at hq hpx
   by_cases h5c:chr s m 41=true
   ·rw[Ad h5c]
    have hlt3:=dv h5c
    have h5:ab G 642 [.ref 0 0 0,.int .u8 41] [.cells [.str s,.int .i64 ((m:Nat):Int)]] (rpR s (.bool true) (m+1)):=by
     have:=bq s hs 41 (m) (by omega)
     rwa [h5c,Ad rfl] at this
    show ab G 656 _ _ (rpR s (.tup [.agg (Rx.mk k lo hi l).enc,.bool true]) (m+1))
    rw[bi];refine gvC (F:=j6) ?_
    repeat' (first|refine aQ ?_|refine kX1 0 rfl (h1) ?_|refine kX1 0 rfl (h2) ?_|refine kX1 0 rfl (h3) ?_|refine kX1 0 rfl (h4) ?_|refine kX1 0 rfl (hq) ?_|refine kX1 0 rfl (h5) ?_|apply ae<;>intro h)
    refine fX1 ?_;refine cp ?_;rfl
   ·rw[Ac h5c]
    rw[A3] at h5c
    have h5:ab G 642 [.ref 0 0 0,.int .u8 41] [.cells [.str s,.int .i64 ((m:Nat):Int)]] (rpR s (.bool false) (m)):=by
     have:=bq s hs 41 (m) (by omega)
     rwa [h5c,Ac (by simp)] at this
    refine ⟨.mk k lo hi l,m,p2,?_⟩;rw[bi];refine gvC (F:=j6) ?_
    repeat' (first|refine aQ ?_|refine kX1 0 rfl (h1) ?_|refine kX1 0 rfl (h2) ?_|refine kX1 0 rfl (h3) ?_|refine kX1 0 rfl (h4) ?_|refine kX1 0 rfl (hq) ?_|refine kX1 0 rfl (h5) ?_|apply ae<;>intro h)
    refine fX1 ?_;refine cp ?_;rfl
 rw[Ac h3c];rw[A3] at h3c
 have h3:ab G 642 [.ref 0 0 0,.int .u8 40] [.cells [.str s,.int .i64 ((n:Nat):Int)]] (rpR s (.bool false) (n)):=by
  have:=bq s hs 40 (n) (by omega)
  rwa [h3c,Ac (by simp)] at this
 by_cases h4c:chr s n 91=true
 ·rw[Ad h4c]
  have hlt:=dv h4c
  have h4:ab G 642 [.ref 0 0 0,.int .u8 91] [.cells [.str s,.int .i64 ((n:Nat):Int)]] (rpR s (.bool true) (n+1)):=by
   have:=bq s hs 91 (n) (by omega)
   rwa [h4c,Ad rfl] at this
  obtain ⟨v,b,m,p1,p2,g1,r1⟩:=ou s hs (n+1) (by omega)
  have hmj:(if chr s m 45 then m+1 else m)<=s.length:=by
   split
   ·rename_i c;have:=dv c;omega
   ·omega
  obtain ⟨v2,b2,m2,p3,p4,g2,r2⟩:=ou s hs (if chr s m 45 then m+1 else m) hmj
  have h5:=bq s hs 45 m (by omega)
  have h6:=bq s hs 93 m2 (by omega)
  have h5:ab G 642 [.ref 0 0 0,.int .u8 45] [.cells [.str s,.int .i64 (m:Int)]] (rpR s (.bool (chr s m 45)) (if chr s m 45 then m+1 else m)):=h5
  have h6:ab G 642 [.ref 0 0 0,.int .u8 93] [.cells [.str s,.int .i64 (m2:Int)]] (rpR s (.bool (chr s m2 93)) (if chr s m2 93 then m2+1 else m2)):=h6
  -- the result fails
  have bad:(b=false∨chr s m 45=false∨b2=false)->ik 656 s lv n none:=λhb=>by
   refine ⟨.mk 1 v v2 [],m2,p4,?_⟩;rw[e0];generalize hj:(if chr s m 45 then m+1 else m)=j at*
   generalize chr s m 45=d at*;cases b
   ·refine gvC (F:=j6) ?_
    repeat' (first|refine aQ ?_|refine kX1 0 rfl (h1) ?_|refine kX1 0 rfl (h2) ?_|refine kX1 0 rfl (h3) ?_|refine kX1 0 rfl (h4) ?_|refine kX1 0 rfl (g1) ?_|refine kX1 0 rfl (h5) ?_|refine kX1 0 rfl (g2) ?_|apply ae<;>intro h)
    refine db [] [(68,some (_,.cells ([.int .i64 1,.int .i64 v,.int .i64 v2,.sl 4 []])))] trivial ⟨⟨rfl,leA⟩,trivial⟩ ?_;refine fX1 ?_;refine cp ?_;rfl
   ·cases d
    ·refine gvC (F:=j6) ?_
     repeat' (first|refine aQ ?_|refine kX1 0 rfl (h1) ?_|refine kX1 0 rfl (h2) ?_|refine kX1 0 rfl (h3) ?_|refine kX1 0 rfl (h4) ?_|refine kX1 0 rfl (g1) ?_|refine kX1 0 rfl (h5) ?_|refine kX1 0 rfl (g2) ?_|apply ae<;>intro h)
     refine db [] [(68,some (_,.cells ([.int .i64 1,.int .i64 v,.int .i64 v2,.sl 4 []])))] trivial ⟨⟨rfl,leA⟩,trivial⟩ ?_;refine fX1 ?_;refine cp ?_;rfl
    ·obtain rfl:b2=false:=by simpa using hb
     refine gvC (F:=j6) ?_
     repeat' (first|refine aQ ?_|refine kX1 0 rfl (h1) ?_|refine kX1 0 rfl (h2) ?_|refine kX1 0 rfl (h3) ?_|refine kX1 0 rfl (h4) ?_|refine kX1 0 rfl (g1) ?_|refine kX1 0 rfl (h5) ?_|refine kX1 0 rfl (g2) ?_|apply ae<;>intro h)
     refine db [] [(68,some (_,.cells ([.int .i64 1,.int .i64 v,.int .i64 v2,.sl 4 []])))] trivial ⟨⟨rfl,leA⟩,trivial⟩ ?_;refine fX1 ?_;refine cp ?_;rfl
  cases hr:jv s (n+1) with
  |none=>
   rw[hr] at r1;exact bad (.inl r1)
  |some q=>
   obtain ⟨a,k⟩:=q;rw[hr] at r1;obtain ⟨rfl,rfl,rfl⟩:=r1;dsimp only
   by_cases h5c:chr s m 45=true
   ·rw[Ad h5c]
    have hj:(if chr s m 45 then m+1 else m)=m+1:=Ad h5c
    cases hr2:jv s (m+1) with
    |none=>
     rw[hj,hr2] at r2;exact bad (.inr (.inr r2))
    |some q=>
     obtain ⟨a2,k2⟩:=q;rw[hj,hr2] at r2;obtain ⟨rfl,rfl,rfl⟩:=r2;dsimp only;rw[hj] at h5 g2;rw[h5c] at h5
     by_cases h6c:chr s m2 93=true
     ·rw[Ad h6c]
      have hj2:(if chr s m2 93 then m2+1 else m2)=m2+1:=Ad h6c
      rw[hj2,h6c] at h6;show ab G 656 _ _ (rpR s (.tup [.agg (Rx.mk 1 v v2 []).enc,.bool true]) (m2+1))
      rw[e0];refine gvC (F:=j6) ?_
      repeat' (first|refine aQ ?_|refine kX1 0 rfl (h1) ?_|refine kX1 0 rfl (h2) ?_|refine kX1 0 rfl (h3) ?_|refine kX1 0 rfl (h4) ?_|refine kX1 0 rfl (g1) ?_|refine kX1 0 rfl (h5) ?_|refine kX1 0 rfl (g2) ?_|refine kX1 0 rfl (h6) ?_|apply ae<;>intro h)
      refine db [] [(68,some (_,.cells ([.int .i64 1,.int .i64 v,.int .i64 v2,.sl 4 []])))] trivial ⟨⟨rfl,leA⟩,trivial⟩ ?_;refine fX1 ?_;refine cp ?_;rfl
     ·rw[Ac h6c]
      have hj2:(if chr s m2 93 then m2+1 else m2)=m2:=Ac h6c
      rw[A3] at h6c;rw[hj2,h6c] at h6;refine ⟨.mk 1 v v2 [],m2,p4,?_⟩;rw[e0];refine gvC (F:=j6) ?_
      repeat' (first|refine aQ ?_|refine kX1 0 rfl (h1) ?_|refine kX1 0 rfl (h2) ?_|refine kX1 0 rfl (h3) ?_|refine kX1 0 rfl (h4) ?_|refine kX1 0 rfl (g1) ?_|refine kX1 0 rfl (h5) ?_|refine kX1 0 rfl (g2) ?_|refine kX1 0 rfl (h6) ?_|apply ae<;>intro h)
      refine db [] [(68,some (_,.cells ([.int .i64 1,.int .i64 v,.int .i64 v2,.sl 4 []])))] trivial ⟨⟨rfl,leA⟩,trivial⟩ ?_;refine fX1 ?_;refine cp ?_;rfl
   ·rw[Ac h5c]
    rw[A3] at h5c;exact bad (.inr (.inl h5c))
 rw[Ac h4c];rw[A3] at h4c
 have h4:ab G 642 [.ref 0 0 0,.int .u8 91] [.cells [.str s,.int .i64 ((n:Nat):Int)]] (rpR s (.bool false) (n)):=by
  have:=bq s hs 91 (n) (by omega)
  rwa [h4c,Ac (by simp)] at this
 obtain ⟨v,b,m,p1,p2,g1,r1⟩:=ou s hs n hn;cases hr:jv s n with
 |none=>
  rw[hr] at r1;obtain rfl:b=false:=r1;refine ⟨.mk 1 v v [],m,p2,?_⟩;rw[e0];refine gvC (F:=j6) ?_
  repeat' (first|refine aQ ?_|refine kX1 0 rfl (h1) ?_|refine kX1 0 rfl (h2) ?_|refine kX1 0 rfl (h3) ?_|refine kX1 0 rfl (h4) ?_|refine kX1 0 rfl (g1) ?_|apply ae<;>intro h)
  refine db [] [(68,some (_,.cells ([.int .i64 1,.int .i64 v,.int .i64 v,.sl 4 []])))] trivial ⟨⟨rfl,leA⟩,trivial⟩ ?_;refine fX1 ?_;refine cp ?_;rfl
 |some q=>
  obtain ⟨a,k⟩:=q;rw[hr] at r1;obtain ⟨rfl,rfl,rfl⟩:=r1;show ab G 656 _ _ (rpR s (.tup [.agg (Rx.mk 1 v v []).enc,.bool true]) m)
  rw[e0];refine gvC (F:=j6) ?_
  repeat' (first|refine aQ ?_|refine kX1 0 rfl (h1) ?_|refine kX1 0 rfl (h2) ?_|refine kX1 0 rfl (h3) ?_|refine kX1 0 rfl (h4) ?_|refine kX1 0 rfl (g1) ?_|apply ae<;>intro h)
  refine db [] [(68,some (_,.cells ([.int .i64 1,.int .i64 v,.int .i64 v,.sl 4 []])))] trivial ⟨⟨rfl,leA⟩,trivial⟩ ?_;refine fX1 ?_;refine cp ?_;rfl
theorem rM (hs:s.length<2^40)(atom:PR)(lv:Int)(hp:Pos s atom)(hA: ∀n,n<=s.length->ik 656 s lv n (atom n))(n:Nat)(hn:n<=s.length):ik 651 s lv n (fc s atom n):=by
 unfold fc;have hq:=hA n hn;cases ha:atom n with
 |none=>
  rw[ha] at hq;obtain ⟨x,m,hm,hq⟩:=hq;refine ⟨x,m,hm,?_⟩;have hpx:=cy x;obtain ⟨k,lo,hi,l⟩:=x;rw[bi] at hq hpx⊢;refine gvC (F:=wu) ?_
  repeat' (first|refine aQ ?_|refine kX1 0 rfl (hq) ?_|apply ae<;>intro h)
  refine fX1 ?_;refine cp ?_;rfl
 |some p=>
  obtain ⟨x,m⟩:=p;rw[ha] at hq;obtain ⟨p1,p2,_⟩:=hp _ _ _ hn ha;dsimp only;simp only[ik] at hq;have hpx:=cy x;have hex: ∀k:Int,(Rx.mk k 0 0 [x]).enc= [.int .i64 k,.int .i64 0,.int .i64 0,.sl 4 [x.enc]]:=λk=>bi k 0 0 [x]
  obtain ⟨k,lo,hi,l⟩:=x;have hen:=bi k lo hi l;rw[hen] at hq hpx hex
  by_cases h1c:chr s m 42=true
  ·rw[Ad h1c]
   have hlt:=dv h1c
   have h1:ab G 642 [.ref 0 0 0,.int .u8 42] [.cells [.str s,.int .i64 ((m:Nat):Int)]] (rpR s (.bool true) (m+1)):=by
    have:=bq s hs 42 (m) (by omega)
    rwa [h1c,Ad rfl] at this
   show ab G 651 _ _ (rpR s (.tup [.agg (Rx.mk 5 0 0 [.mk k lo hi l]).enc,.bool true]) (m+1))
   rw[hex];refine gvC (F:=wu) ?_
   repeat' (first|refine aQ ?_|refine kX1 0 rfl (hq) ?_|refine kX1 0 rfl (h1) ?_|apply ae<;>intro h)
   refine mq [(97,_,_)] [5,4] [0,68] ⟨rfl,frP,trivial⟩ ?_;repeat ((conv=>whnf);first|refine frA ?_|intro T H)
   refine fX1 ?_;refine cp ?_;rfl
  rw[Ac h1c];rw[A3] at h1c
  have h1:ab G 642 [.ref 0 0 0,.int .u8 42] [.cells [.str s,.int .i64 ((m:Nat):Int)]] (rpR s (.bool false) (m)):=by
   have:=bq s hs 42 (m) (by omega)
   rwa [h1c,Ac (by simp)] at this
  by_cases h2c:chr s m 43=true
  ·rw[Ad h2c]
   have hlt:=dv h2c
   have h2:ab G 642 [.ref 0 0 0,.int .u8 43] [.cells [.str s,.int .i64 ((m:Nat):Int)]] (rpR s (.bool true) (m+1)):=by
    have:=bq s hs 43 (m) (by omega)
    rwa [h2c,Ad rfl] at this
   show ab G 651 _ _ (rpR s (.tup [.agg (Rx.mk 6 0 0 [.mk k lo hi l]).enc,.bool true]) (m+1))
   rw[hex];refine gvC (F:=wu) ?_
   repeat' (first|refine aQ ?_|refine kX1 0 rfl (hq) ?_|refine kX1 0 rfl (h1) ?_|refine kX1 0 rfl (h2) ?_|apply ae<;>intro h)
   refine mq [(97,_,_)] [5,4] [0,68] ⟨rfl,frP,trivial⟩ ?_;repeat ((conv=>whnf);first|refine frA ?_|intro T H)
   refine fX1 ?_;refine cp ?_;rfl
  rw[Ac h2c];rw[A3] at h2c
  have h2:ab G 642 [.ref 0 0 0,.int .u8 43] [.cells [.str s,.int .i64 ((m:Nat):Int)]] (rpR s (.bool false) (m)):=by
   have:=bq s hs 43 (m) (by omega)
   rwa [h2c,Ac (by simp)] at this
  by_cases h3c:chr s m 63=true
  ·rw[Ad h3c]
   have hlt:=dv h3c
   have h3:ab G 642 [.ref 0 0 0,.int .u8 63] [.cells [.str s,.int .i64 ((m:Nat):Int)]] (rpR s (.bool true) (m+1)):=by
    have:=bq s hs 63 (m) (by omega)
    rwa [h3c,Ad rfl] at this
   show ab G 651 _ _ (rpR s (.tup [.agg (Rx.mk 7 0 0 [.mk k lo hi l]).enc,.bool true]) (m+1))
   rw[hex];refine gvC (F:=wu) ?_
   repeat' (first|refine aQ ?_|refine kX1 0 rfl (hq) ?_|refine kX1 0 rfl (h1) ?_|refine kX1 0 rfl (h2) ?_|refine kX1 0 rfl (h3) ?_|apply ae<;>intro h)
   refine mq [(97,_,_)] [5,4] [0,68] ⟨rfl,frP,trivial⟩ ?_;repeat ((conv=>whnf);first|refine frA ?_|intro T H)
   refine fX1 ?_;refine cp ?_;rfl
  rw[Ac h3c];rw[A3] at h3c
  have h3:ab G 642 [.ref 0 0 0,.int .u8 63] [.cells [.str s,.int .i64 ((m:Nat):Int)]] (rpR s (.bool false) (m)):=by
   have:=bq s hs 63 (m) (by omega)
   rwa [h3c,Ac (by simp)] at this
  show ab G 651 _ _ (rpR s (.tup [.agg (Rx.mk k lo hi l).enc,.bool true]) m)
  rw[hen];refine gvC (F:=wu) ?_
  repeat' (first|refine aQ ?_|refine kX1 0 rfl (hq) ?_|refine kX1 0 rfl (h1) ?_|refine kX1 0 rfl (h2) ?_|refine kX1 0 rfl (h3) ?_|apply ae<;>intro h)
  refine fX1 ?_;refine cp ?_;rfl
def QT:D1->Ret->Prop
 |some (x,m),t=>t=rpR s (.tup [.agg x.enc,.bool true]) m
 |none,t=> ∃x m,m<=s.length/\t=rpR s (.tup [.agg (Rx.enc x),.bool false]) m
end
theorem OO {f:Nat}{s:CF}{lv:Int}{n:Nat}{o:D1}{t:Ret}(h:QT s o t)(g:ab G f [.ref 0 0 0,.int .i64 lv] [.cells [.str s,.int .i64 (n:Int)]] t):ik f s lv n o:=by
 cases o with
 |none=>obtain ⟨x,m,hm,rfl⟩:=h;exact ⟨x,m,hm,g⟩
 |some p=>obtain ⟨x,m⟩:=p;obtain rfl:t=_:=h;exact g
theorem ma:rx0.enc= [.int .i64 0,.int .i64 0,.int .i64 0,.sl 4 []]:=e0 0 0 0
theorem xw (s:CF)(hs:s.length<2^32)(item:PR)(lv:Int)(hp:Pos s item)(hA: ∀n,n<=s.length->ik 651 s lv n (item n)): ∀(f:Nat)(acc:Do)(n:Nat)(hf:s.length<f+n)(hn:n<=s.length)(hac:acc.length+f<=s.length+1),∃t,QT s (iu 3 (fk s item 32 f acc n)) t/\ ∀(T:TV)(H:aq)(c g g4:Nat)(es:CS)(k:Nat)(hes:es=acc.map Rx.enc)(hk:k=acc.length),Ev G ⟨aak,⟨(4,.ref 68 g4 0)::(0,.ref 0 0 0)::(6,.vs 200 g k)::(1,.int .i64 lv)::T,(0,some (0,.cells [.str s,.int .i64 (n:Int)]))::(68,some (g4,.cells [.int .i64 0,.int .i64 0,.int .i64 0,.con (.slice none 0 0)]))::(200,some (g,.vec 4 es))::H,c⟩,[.cell 4 (some 4),.t 5],1⟩ t
 |0,acc,n,hf,hn,hac=>by omega
 |f+1,acc,n,hf,hn,hac=>by
  have hq:=hA n hn;rw[fk];have hl:=ml acc Rx.enc;cases ha:item n with
  |none=>
   rw[ha] at hq;obtain ⟨x,m,hm,hq⟩:=hq;refine ⟨_,⟨rx0,m,hm,rfl⟩,λT H c g g4 es k hes hk=>?_⟩
   subst hes hk;have hpx:=cy x;generalize hxe:x.enc=xe at*;obtain ⟨k,lo,hi,l⟩:=x;rw[bi] at hxe;subst hxe;rw[ma];refine evl ?_
   repeat' (first|refine aQ ?_|refine kX1 0 rfl (hq) ?_|apply ae<;>intro h)
   refine db [] [(68,some (_,.cells ([.int .i64 0,.int .i64 0,.int .i64 0,.sl 4 []])))] trivial ⟨⟨rfl,leA⟩,trivial⟩ ?_;refine fX1 ?_;refine cp ?_;rfl
  |some p=>
   obtain ⟨x,m⟩:=p;rw[ha] at hq;obtain ⟨p1,p2,_⟩:=hp _ _ _ hn ha;simp only[ik] at hq;dsimp only;have hpx:=cy x;have hax:(acc++[x]).map Rx.enc=acc.map Rx.enc++[x.enc]:=by simp
   by_cases hc:chr s m 32=true
   ·rw[Ad hc]
    have hlt:=dv hc
    have h1:ab G 642 [.ref 0 0 0,.int .u8 32] [.cells [.str s,.int .i64 ((m:Nat):Int)]] (rpR s (.bool true) (m+1)):=by
     have:=bq s (by omega) 32 m (by omega)
     rwa [hc,Ad rfl] at this
    obtain ⟨t,h2,h3⟩:=xw s hs item lv hp hA f (acc++[x]) (m+1) (by omega) (by omega) (by simp;omega)
    refine ⟨t,h2,λT H c g g4 es k hes hk=>?_⟩
    subst hes hk;rw[hax] at h3;generalize hxe:x.enc=xe at*;obtain ⟨k,lo,hi,l⟩:=x;rw[bi] at hxe;subst hxe;refine evl ?_
    repeat' (first|refine aQ ?_|refine kX1 0 rfl (hq) ?_|refine kX1 0 rfl (h1) ?_|apply ae<;>intro h)
    refine ag [4,0,6,1] [0,68,200] ?_;exact h3 _ _ _ _ _ _ _ rfl (by simp)
   ·rw[Ac hc]
    rw[A3] at hc
    have h1:ab G 642 [.ref 0 0 0,.int .u8 32] [.cells [.str s,.int .i64 ((m:Nat):Int)]] (rpR s (.bool false) m):=by
     have:=bq s (by omega) 32 m (by omega)
     rwa [hc,Ac (by simp)] at this
    cases acc with
    |nil=>
     refine ⟨rpR s (.tup [.agg x.enc,.bool true]) m,rfl,λT H c g g4 es k hes hk=>?_⟩
     obtain rfl:es= []:=hes;obtain rfl:k=0:=hk;generalize hxe:x.enc=xe at*;obtain ⟨k,lo,hi,l⟩:=x;rw[bi] at hxe;subst hxe;refine evl ?_
     repeat' (first|refine aQ ?_|refine kX1 0 rfl (hq) ?_|refine kX1 0 rfl (h1) ?_|refine And.intro (show Int.toNat 0<0+1 from Nat.one_pos) ?_|apply ae<;>intro h)
     refine fX1 ?_;refine cp ?_;rfl
    |cons y r=>
     refine ⟨rpR s (.tup [.agg (Rx.mk 3 0 0 (y::r++[x])).enc,.bool true]) m,?_,λT H c g g4 es k hes hk=>?_⟩
     ·cases r with
      |nil=>rfl
      |cons z q=>rfl
     subst hes hk;rw[bi,hax];have hl2:(y::r).length=r.length+1:=rfl;generalize hxe:x.enc=xe at*;obtain ⟨k,lo,hi,l⟩:=x;rw[bi] at hxe;subst hxe;refine evl ?_
     repeat' (first|refine aQ ?_|refine kX1 0 rfl (hq) ?_|refine kX1 0 rfl (h1) ?_|apply ae<;>intro h)
     refine mq [(200,_,_)] [5,4] [0,68] ⟨rfl,frP,trivial⟩ ?_;repeat ((conv=>whnf);first|refine frA ?_|intro T H)
     refine fX1 ?_;refine cp ?_;rfl
theorem uQ (s:CF)(hs:s.length<2^32)(item:PR)(lv:Int)(hp:Pos s item)(hA: ∀n,n<=s.length->ik 651 s lv n (item n))(n:Nat)(hn:n<=s.length):ik 641 s lv n (iu 3 (fk s item 32 (s.length+1) [] n)):=by
 obtain ⟨t,h1,h2⟩:=xw s hs item lv hp hA (s.length+1) [] n (by omega) hn (by simp)
 refine OO h1 ?_;refine gvB (F:=R8) ?_;refine en 200 4 [(6,.vs 200 _ 0)] [] ⟨LeP.nilV _ _ _,trivial⟩ trivial ?_;refine ag [4,0,6,1] [0,68,200] ?_;exact h2 _ _ _ _ _ _ _ rfl rfl
theorem xy (s:CF)(hs:s.length<2^32)(item:PR)(lv:Int)(hp:Pos s item)(hA: ∀n,n<=s.length->ik 641 s lv n (item n)): ∀(f:Nat)(acc:Do)(n:Nat)(hf:s.length<f+n)(hn:n<=s.length)(hac:acc.length+f<=s.length+1),∃t,QT s (iu 4 (fk s item 124 f acc n)) t/\ ∀(T:TV)(H:aq)(c g g4:Nat)(es:CS)(k:Nat)(hes:es=acc.map Rx.enc)(hk:k=acc.length),Ev G ⟨aat,⟨(4,.ref 68 g4 0)::(0,.ref 0 0 0)::(6,.vs 200 g k)::(1,.int .i64 lv)::T,(0,some (0,.cells [.str s,.int .i64 (n:Int)]))::(68,some (g4,.cells [.int .i64 0,.int .i64 0,.int .i64 0,.con (.slice none 0 0)]))::(200,some (g,.vec 4 es))::H,c⟩,[.cell 4 (some 4),.t 5],1⟩ t
 |0,acc,n,hf,hn,hac=>by omega
 |f+1,acc,n,hf,hn,hac=>by
  have hq:=hA n hn;rw[fk];have hl:=ml acc Rx.enc;cases ha:item n with
  |none=>
   rw[ha] at hq;obtain ⟨x,m,hm,hq⟩:=hq;refine ⟨_,⟨rx0,m,hm,rfl⟩,λT H c g g4 es k hes hk=>?_⟩
   subst hes hk;have hpx:=cy x;generalize hxe:x.enc=xe at*;obtain ⟨k,lo,hi,l⟩:=x;rw[bi] at hxe;subst hxe;rw[ma];refine evl ?_
   repeat' (first|refine aQ ?_|refine kX1 0 rfl (hq) ?_|apply ae<;>intro h)
   refine db [] [(68,some (_,.cells ([.int .i64 0,.int .i64 0,.int .i64 0,.sl 4 []])))] trivial ⟨⟨rfl,leA⟩,trivial⟩ ?_;refine fX1 ?_;refine cp ?_;rfl
  |some p=>
   obtain ⟨x,m⟩:=p;rw[ha] at hq;obtain ⟨p1,p2,_⟩:=hp _ _ _ hn ha;simp only[ik] at hq;dsimp only;have hpx:=cy x;have hax:(acc++[x]).map Rx.enc=acc.map Rx.enc++[x.enc]:=by simp
   by_cases hc:chr s m 124=true
   ·rw[Ad hc]
    have hlt:=dv hc
    have h1:ab G 642 [.ref 0 0 0,.int .u8 124] [.cells [.str s,.int .i64 ((m:Nat):Int)]] (rpR s (.bool true) (m+1)):=by
     have:=bq s (by omega) 124 m (by omega)
     rwa [hc,Ad rfl] at this
    obtain ⟨t,h2,h3⟩:=xy s hs item lv hp hA f (acc++[x]) (m+1) (by omega) (by omega) (by simp;omega)
    refine ⟨t,h2,λT H c g g4 es k hes hk=>?_⟩
    subst hes hk;rw[hax] at h3;generalize hxe:x.enc=xe at*;obtain ⟨k,lo,hi,l⟩:=x;rw[bi] at hxe;subst hxe;refine evl ?_
    repeat' (first|refine aQ ?_|refine kX1 0 rfl (hq) ?_|refine kX1 0 rfl (h1) ?_|apply ae<;>intro h)
    refine ag [4,0,6,1] [0,68,200] ?_;exact h3 _ _ _ _ _ _ _ rfl (by simp)
   ·rw[Ac hc]
    rw[A3] at hc
    have h1:ab G 642 [.ref 0 0 0,.int .u8 124] [.cells [.str s,.int .i64 ((m:Nat):Int)]] (rpR s (.bool false) m):=by
     have:=bq s (by omega) 124 m (by omega)
     rwa [hc,Ac (by simp)] at this
    cases acc with
    |nil=>
     refine ⟨rpR s (.tup [.agg x.enc,.bool true]) m,rfl,λT H c g g4 es k hes hk=>?_⟩
     obtain rfl:es= []:=hes;obtain rfl:k=0:=hk;generalize hxe:x.enc=xe at*;obtain ⟨k,lo,hi,l⟩:=x;rw[bi] at hxe;subst hxe;refine evl ?_
     repeat' (first|refine aQ ?_|refine kX1 0 rfl (hq) ?_|refine kX1 0 rfl (h1) ?_|refine And.intro (show Int.toNat 0<0+1 from Nat.one_pos) ?_|apply ae<;>intro h)
     refine fX1 ?_;refine cp ?_;rfl
    |cons y r=>
     refine ⟨rpR s (.tup [.agg (Rx.mk 4 0 0 (y::r++[x])).enc,.bool true]) m,?_,λT H c g g4 es k hes hk=>?_⟩
     ·cases r with
      |nil=>rfl
      |cons z q=>rfl
     subst hes hk;rw[bi,hax];have hl2:(y::r).length=r.length+1:=rfl;generalize hxe:x.enc=xe at*;obtain ⟨k,lo,hi,l⟩:=x;rw[bi] at hxe;subst hxe;refine evl ?_
     repeat' (first|refine aQ ?_|refine kX1 0 rfl (hq) ?_|refine kX1 0 rfl (h1) ?_|apply ae<;>intro h)
     refine mq [(200,_,_)] [5,4] [0,68] ⟨rfl,frP,trivial⟩ ?_;repeat ((conv=>whnf);first|refine frA ?_|intro T H)
     refine fX1 ?_;refine cp ?_;rfl
theorem uR (s:CF)(hs:s.length<2^32)(item:PR)(lv:Int)(hp:Pos s item)(hA: ∀n,n<=s.length->ik 641 s lv n (item n))(n:Nat)(hn:n<=s.length):ik 616 s lv n (iu 4 (fk s item 124 (s.length+1) [] n)):=by
 obtain ⟨t,h1,h2⟩:=xy s hs item lv hp hA (s.length+1) [] n (by omega) hn (by simp)
 refine OO h1 ?_;refine gvB (F:=Sn) ?_;refine en 200 4 [(6,.vs 200 _ 0)] [] ⟨LeP.nilV _ _ _,trivial⟩ trivial ?_;refine ag [4,0,6,1] [0,68,200] ?_;exact h2 _ _ _ _ _ _ _ rfl rfl
theorem ua (s:CF)(hs:s.length<2^32): ∀(k:Nat)(lv:Int)(hk:lv+k=33)(h0:0<=lv)(n:Nat)(hn:n<=s.length),ik 616 s lv n (de s (jv s) k n)
 |0,lv,hk,h0,n,hn=>by
  have h1: ∀n,n<=s.length->ik 656 s lv n ((λ_=>none:PR) n):=λn hn=>LQ s lv (by omega) n hn
  have p1:Pos s (λ_=>none:PR):=λn x m _ h=>by cases h
  have h2:=rM s (by omega) (λ_=>none) lv p1 h1
  have h3: ∀n,n<=s.length->ik 641 s lv n (kC s (fc s (λ_=>none)) n):=λn hn=>uQ s hs _ lv (mi p1) h2 n hn
  have h4:=uR s hs _ lv (uk hs (mi p1)) h3 n hn;have e:iu 4 (fk s (kC s (fc s (λ_=>none))) 124 (s.length+1) [] n)=none:=by simp[fk,kC,fc,iu]
  rw[e] at h4;exact h4
 |k+1,lv,hk,h0,n,hn=>by
  have pa:=qC hs (vM s) k;have h1: ∀n,n<=s.length->ik 656 s lv n (dc s (jv s) (de s (jv s) k) n):=λn hn=>FA s (by omega) _ lv (by omega) h0 pa (λn hn=>ua s hs k (lv+1) (by omega) (by omega) n hn) n hn
  have p1:=xa (vM s) pa;have h2:=rM s (by omega) _ lv p1 h1
  have h3: ∀n,n<=s.length->ik 641 s lv n (kC s (fc s (dc s (jv s) (de s (jv s) k))) n):=λn hn=>uQ s hs _ lv (mi p1) h2 n hn
  rw[de];exact uR s hs _ lv (uk hs (mi p1)) h3 n hn
theorem JG (k lo hi:Int)(l:Do)(hl:l.length<2^40): ∃e:Int,ab G 652 [.agg [.int .i64 k,.int .i64 lo,.int .i64 hi,.sl 4 (l.map Rx.enc)]] [] ⟨.int .i64 e,[]⟩/\(e=0↔bm k lo hi l.length=true):=by
 have m1:=ml l Rx.enc;obtain ⟨N,hN⟩: ∃N,N=l.length:=⟨_,rfl⟩
 rw[<-hN] at m1 hl⊢
 by_cases k1:k=1
 ·subst k1
  by_cases a:lo<0
  ·refine ⟨5,?_,by simp[bm];omega⟩
   exact gvA (F:=dz)
  by_cases b:lo>hi
  ·refine ⟨5,?_,by simp[bm];omega⟩
   exact gvA (F:=dz)
  by_cases c:hi>4294967295
  ·refine ⟨5,?_,by simp[bm];omega⟩
   exact gvA (F:=dz)
  by_cases d:(N:Int)>0
  ·refine ⟨1,?_,by simp[bm];omega⟩
   exact gvA (F:=dz)
  ·refine ⟨0,?_,by simp[bm];omega⟩
   exact gvA (F:=dz)
 by_cases k0:k=0
 ·subst k0
  by_cases d:(N:Int)>0
  ·refine ⟨1,?_,by simp[bm];omega⟩
   exact gvA (F:=dz)
  by_cases a:lo=0
  ·by_cases b:hi=0
   ·refine ⟨0,?_,by simp[bm,a,b];omega⟩
    exact gvA (F:=dz)
   ·refine ⟨1,?_,by simp[bm,a,b]⟩
    exact gvA (F:=dz)
  ·refine ⟨1,?_,by simp[bm,a]⟩
   exact gvA (F:=dz)
 by_cases k2:k=2
 ·subst k2
  by_cases d:(N:Int)>0
  ·refine ⟨1,?_,by simp[bm];omega⟩
   exact gvA (F:=dz)
  by_cases a:lo=0
  ·by_cases b:hi=0
   ·refine ⟨0,?_,by simp[bm,a,b];omega⟩
    exact gvA (F:=dz)
   ·refine ⟨1,?_,by simp[bm,a,b]⟩
    exact gvA (F:=dz)
  ·refine ⟨1,?_,by simp[bm,a]⟩
   exact gvA (F:=dz)
 by_cases k3:k=3
 ·subst k3
  by_cases d:(N:Int)<2
  ·refine ⟨1,?_,by simp[bm];omega⟩
   exact gvA (F:=dz)
  by_cases a:lo=0
  ·by_cases b:hi=0
   ·refine ⟨0,?_,by simp[bm,a,b];omega⟩
    exact gvA (F:=dz)
   ·refine ⟨1,?_,by simp[bm,a,b]⟩
    exact gvA (F:=dz)
  ·refine ⟨1,?_,by simp[bm,a]⟩
   exact gvA (F:=dz)
 by_cases k4:k=4
 ·subst k4
  by_cases d:(N:Int)=1
  ·refine ⟨1,?_,by simp[bm];omega⟩
   exact gvA (F:=dz)
  by_cases a:lo=0
  ·by_cases b:hi=0
   ·refine ⟨0,?_,by simp[bm,a,b];omega⟩
    exact gvA (F:=dz)
   ·refine ⟨1,?_,by simp[bm,a,b]⟩
    exact gvA (F:=dz)
  ·refine ⟨1,?_,by simp[bm,a]⟩
   exact gvA (F:=dz)
 by_cases k5:k=5
 ·subst k5
  by_cases d: ¬(N:Int)=1
  ·refine ⟨1,?_,by simp[bm];omega⟩
   exact gvA (F:=dz)
  by_cases a:lo=0
  ·by_cases b:hi=0
   ·refine ⟨0,?_,by simp[bm,a,b];omega⟩
    exact gvA (F:=dz)
   ·refine ⟨1,?_,by simp[bm,a,b]⟩
    exact gvA (F:=dz)
  ·refine ⟨1,?_,by simp[bm,a]⟩
   exact gvA (F:=dz)
 by_cases k6:k=6
 ·subst k6
  by_cases d: ¬(N:Int)=1
  ·refine ⟨1,?_,by simp[bm];omega⟩
   exact gvA (F:=dz)
  by_cases a:lo=0
  ·by_cases b:hi=0
   ·refine ⟨0,?_,by simp[bm,a,b];omega⟩
    exact gvA (F:=dz)
   ·refine ⟨1,?_,by simp[bm,a,b]⟩
    exact gvA (F:=dz)
  ·refine ⟨1,?_,by simp[bm,a]⟩
   exact gvA (F:=dz)
 by_cases k7:k=7
 ·subst k7
  by_cases d: ¬(N:Int)=1
  ·refine ⟨1,?_,by simp[bm];omega⟩
   exact gvA (F:=dz)
  by_cases a:lo=0
  ·by_cases b:hi=0
   ·refine ⟨0,?_,by simp[bm,a,b];omega⟩
    exact gvA (F:=dz)
   ·refine ⟨1,?_,by simp[bm,a,b]⟩
    exact gvA (F:=dz)
  ·refine ⟨1,?_,by simp[bm,a]⟩
   exact gvA (F:=dz)
 refine ⟨15,?_,by simp[bm,k0,k1,k2,k3,k4];omega⟩
 exact gvA (F:=dz)
def T7 (o:C8)(n e:Int):Prop:=match o with
 |some c=>n=c/\e=0
 |none=>e≠0
mutual
theorem tU: ∀{x:Rx}{lv c c':Nat},chk x lv c=some c'->c'<=64
 | .mk k lo hi l,lv,c,c',h=>by
  rw[chk] at h;split at h
  ·cases h
  ·split at h
   ·cases h
   ·split at h
    ·exact PC (by omega) h
    ·cases h
theorem PC: ∀{l:Do}{lv c c':Nat},c<=64->ij l lv c=some c'->c'<=64
 | [],_,_,_,hc,h=>by rw[ij] at h;cases h;exact hc
 |x::r,lv,c,c',hc,h=>by
  rw[ij] at h;split at h
  ·rename_i c1 h1
   exact PC (tU h1) h
  ·cases h
end
def zc (x:Rx)(lv:Nat):Prop:= ∀c:Nat,c<=64-> ∃n e:Int,T7 (chk x lv c) n e/\ab G 643 [.agg x.enc,.int .i64 (lv:Int),.int .i64 (c:Int)] [] ⟨.tup [.int .i64 n,.int .i64 e],[]⟩
theorem vu (l:Do)(hl:l.length<2^40)(lv:Nat)(hlv:lv<=16)(hk: ∀y∈l,zc y (lv+1)): ∀(rest done:Do)(c:Nat)(n:Int)(e:l=done++rest)(hn:n=done.length)(hc:c<=64),∃N E:Int,T7 (ij rest (lv+1) c) N E/\ ∀(T:TV)(H:aq)(ct:Nat),
  Ev G ⟨Vm,⟨(30,.int .i64 n)::(2,.int .i64 (c:Int))::(1,.int .i64 (lv:Int))::(28,.sl 4 (l.map Rx.enc))::(29,.int .i64 l.length)::T,H,ct⟩,[.t 6,.t 7],0⟩ ⟨.tup [.int .i64 N,.int .i64 E],[]⟩
 | [],done,c,n,e,hn,hc=>by
  have hd:=md0 e;refine ⟨c,0,by rw[ij];exact ⟨rfl,rfl⟩,λT H ct=>?_⟩
  refine evA ?_;refine au ?_;rfl
 |x::r,done,c,n,e,hn,hc=>by
  have hd:=md e;have hll:=ml l Rx.enc;have hx:=mx Rx.enc e hn;obtain ⟨n1,e1,h1,g1⟩:=hk x (by simp[e]) c hc
  have g1:ab G 643 [.agg x.enc,.int .i64 ((lv:Int)+1),.int .i64 (c:Int)] [] ⟨.tup [.int .i64 n1,.int .i64 e1],[]⟩:=g1;have hpx:=cy x;rw[ij];cases hq:chk x (lv+1) c with
  |none=>
   rw[hq] at h1;have h1: ¬e1=0:=h1;refine ⟨n1,e1,h1,λT H ct=>?_⟩
   generalize hxe:x.enc=xe at*;obtain ⟨k,lo,hi,q⟩:=x;rw[bi] at hxe;subst hxe;refine evA ?_;refine au ?_;rfl
  |some c1=>
   rw[hq] at h1;obtain ⟨rfl,rfl⟩:=h1;obtain ⟨N,E,h2,h3⟩:=vu l hl lv hlv hk r (done++[x]) c1 (n+1) (by simp[e]) (by simp[hn]) (tU hq)
   refine ⟨N,E,h2,λT H ct=>?_⟩
   generalize hxe:x.enc=xe at*;obtain ⟨k,lo,hi,q⟩:=x;rw[bi] at hxe;subst hxe;refine evA ?_;refine ag [30,2,1,28,29] [] ?_;exact h3 _ _ _
theorem adL (k lo hi:Int)(l:Do)(hs:l.length<2^40)(lv:Nat)(hlv:lv<=17)(hk:lv<=16-> ∀y∈l,zc y (lv+1)):zc (.mk k lo hi l) lv:=by
 intro c hc;have m1:=ml l Rx.enc;obtain ⟨e0,g0,h0⟩:=JG k lo hi l hs;rw[chk,bi]
 by_cases a:16<lv
 ·rw[Ad a]
  have a':(lv:Int)>16:=by omega
  refine ⟨c,24,(show (24:Int)≠0 by decide),?_⟩
  exact gvA (F:=wz)
 rw[Ac a]
 by_cases b:64<=c
 ·rw[Ad b]
  have b':(c:Int)>=64:=by omega
  refine ⟨c,4,(show (4:Int)≠0 by decide),?_⟩
  exact gvA (F:=wz)
 rw[Ac b]
 by_cases d:bm k lo hi l.length=true
 ·rw[Ad d]
  obtain rfl:e0=0:=h0.2 d;obtain ⟨N,E,h2,h3⟩:=vu l hs lv (by omega) (hk (by omega)) l [] (c+1) 0 rfl rfl (by omega)
  refine ⟨N,E,h2,?_⟩;refine gvB (F:=wz) ?_;refine ag [30,2,1,28,29] [] ?_;rw[m1];exact h3 _ _ _
 ·rw[Ac d]
  have d': ¬e0=0:=λq=>d (h0.1 q)
  refine ⟨c,e0,d',?_⟩;exact gvA (F:=wz)
mutual
theorem chk_all: ∀(x:Rx),Sml x-> ∀lv:Nat,lv<=17->zc x lv
 | .mk k lo hi l,hs,lv,hlv=>adL k lo hi l hs.len lv hlv λh=>Lj l hs.kid (lv+1) (by omega)
theorem Lj: ∀(l:Do),(∀x∈l,Sml x)-> ∀lv:Nat,lv<=17-> ∀y∈l,zc y lv
 | [],_,_,_=>λy hy=>by simp at hy
 |x::r,hs,lv,hlv=>λy hy=>by
  have h1:=chk_all x (hs x (by simp)) lv hlv
  rcases AL.1 hy with q|q
  ·rw[q];exact h1
  ·exact Lj r (λz hz=>hs z (by simp[hz])) lv hlv y q
end
theorem BN (x:Rx)(hs:Sml x): ∃e:Int,ab G 617 [.agg x.enc] [] ⟨.int .i64 e,[]⟩/\(e=0↔ (chk x 1 0).isSome=true):=by
 obtain ⟨n,e,h1,g1⟩:=chk_all x hs 1 (by omega) 0 (by omega)
 have g1:ab G 643 [.agg x.enc,.int .i64 1,.int .i64 0] [] ⟨.tup [.int .i64 n,.int .i64 e],[]⟩:=g1;refine ⟨e,?_,?_⟩
 ·generalize hxe:x.enc=xe at*
  obtain ⟨k,lo,hi,q⟩:=x;rw[bi] at hxe;subst hxe;exact gvA (F:=aas)
 ·cases hq:chk x 1 0 with
  |none=>rw[hq] at h1;simp;exact h1
  |some c=>rw[hq] at h1;simp;exact h1.2
set_option linter.unusedVariables false
theorem tG: ∀(f m n:Nat),n<10^ (m+1)->(ca f n).length<=m+1
 |0,m,n,h=>by simp[ca]
 |f+1,m,n,h=>by
  simp only[ca];split
  ·simp
  ·rename_i hn
   cases m with
   |zero=>simp at h;omega
   |succ m=>
    have:=tG f m (n/ 10) (by rw[Nat.pow_succ] at h;omega)
    simp;omega
theorem itoa_len {a:Int}(h0:0<=a)(h1:a<=4294967295):(ah a).length<=10:=by
 unfold ah;rw[Ac (by omega)]
 exact tG 19 9 a.toNat (by omega)
def fd:C5->Nat
 | []=>0
 |p::r=>p.length+1+fd r
theorem sU {c:UInt8}: ∀ps:C5,(cz c ps).length<=fd ps
 | []=>by simp[cz]
 | [p]=>by simp[cz,fd]
 |p::q::qs=>by
  have:=sU (c:=c) (q::qs);rw[lg,fd];simp;omega
theorem Zm (p:Int)(x:Rx)(l:CF):(dq p x l).length<=l.length+2:=by
 unfold dq;split
 ·simp
 ·omega
mutual
theorem acP: ∀(x:Rx){lv c c':Nat},chk x lv c=some c'->(pat ah x).length+3+32*c<=32*c'
 | .mk k lo hi l,lv,c,c',h=>by
  rw[chk] at h;split at h
  ·cases h
  ·split at h
   ·cases h
   ·split at h
    ·rename_i hn
     have h1:=pd k l h;rw[pat];generalize hps:br ah k l=ps at*;have h2:=sU (c:=32) ps;have h3:=sU (c:=124) ps;have h4:(ps.headD []).length<=fd ps:=by cases ps<;>simp[fd];omega
     unfold bm at hn;unfold dy;split
     ·simp;omega
     split
     ·rename_i h0 hk1
      rw[Ad hk1] at hn;have hn:=of_decide_eq_true hn;have i1:=itoa_len (a:=lo) hn.1 (by omega)
      have i2:=itoa_len (a:=hi) (by omega) hn.2.2.1
      split
      ·omega
      ·simp;omega
     split
     ·simp;omega
     split
     ·omega
     split
     ·split
      ·simp;omega
      ·omega
     split
     ·simp at h4⊢;omega
     split
     ·simp at h4⊢;omega
     ·simp at h4⊢;omega
    ·cases h
theorem pd (k:Int): ∀(l:Do){lv c c':Nat},ij l lv c=some c'->fd (br ah k l)+32*c<=32*c'
 | [],lv,c,c',h=>by rw[ij] at h;cases h;rw[br];simp[fd]
 |x::r,lv,c,c',h=>by
  rw[ij] at h;split at h
  ·rename_i c1 h1
   have h2:=acP x h1;have h3:=pd k r h;have h4:=Zm k x (pat ah x);rw[br,fd];omega
  ·cases h
end
section
variable {kv:AV->Prop} {k:Eff->Prop} {x:Opd} {g key:Nat} {hg:Nat->C0} {n d:Nat}
theorem r8 {v:Int}(h0:0<=v)(h1:v<18446744073709551616):IntKind.wrap .u64 v=v:=by
 simp[IntKind.wrap,IntKind.bits,IntKind.signed];omega
theorem Xb (hn:n<18446744073709551616)(h:kv (.int .u64 ((n % 10:Nat):Int))): ∃v,bp .rem (.int .u64 (n:Int)) (.int .u64 10)=some v/\kv v:=by
 refine ⟨_,?_,h⟩;simp only[bp];simp only[ne_eq,not_true_eq_false,if_false,reduceIte];rw[Ac (by decide)]
 have e:(n:Int).tmod 10=((n % 10:Nat):Int):=by rw[Int.tmod_eq_emod_of_nonneg (by omega)];omega
 rw[e]
theorem zQuo (hn:n<18446744073709551616)(h:kv (.int .u64 ((n/ 10:Nat):Int))): ∃v,bp .quo (.int .u64 (n:Int)) (.int .u64 10)=some v/\kv v:=by
 refine ⟨_,?_,h⟩;simp only[bp];simp only[ne_eq,not_true_eq_false,if_false,reduceIte];rw[Ac (by decide)]
 have e:(n:Int).tdiv 10=((n/ 10:Nat):Int):=by rw[Int.tdiv_eq_ediv_of_nonneg (by omega)];omega
 rw[e,r8 (by omega) (by omega)]
theorem P6 (hd:d<10)(h:kv (.int .u64 ((48+d:Nat):Int))): ∃v,bp .add (.int .u64 48) (.int .u64 (d:Int))=some v/\kv v:=by
 refine ⟨_,?_,h⟩;show some (AV.int .u64 (IntKind.wrap .u64 (48+(d:Int))))=_
 rw[r8 (by omega) (by omega)];simp
theorem Xf (hd:d<10)(h:k {res:=.int .u8 ((UInt8.ofNat (48+d)).toNat:Int)}): ∃e,aX (.conv .u8 x) g key [.int .u64 ((48+d:Nat):Int)] hg=some e/\k e:=by
 refine ⟨_,?_,h⟩;have e:(UInt8.ofNat (48+d)).toNat=48+d:=by rw[UInt8.toNat_ofNat'];omega
 show some ({res:=AV.int .u8 (IntKind.wrap .u8 ((48+d:Nat):Int))}:Eff)=_
 rw[e,qk (by omega) (by omega)]
end
theorem yP {f n:Nat}(h:n<10):ca f n= [UInt8.ofNat (48+n)]:=by
 cases f<;>simp[ca,h]
theorem oQ: ∀(f n:Nat),(ca f n).length<=f+1
 |0,n=>by simp[ca]
 |f+1,n=>by
  have:=oQ f (n/ 10);simp only[ca];split
  ·simp
  ·simp;omega
theorem oO: ∀(f n:Nat),f<2^40->n<10^ (f+1)->n<18446744073709551616->ab G 344 [.int .u64 (n:Int)] [] ⟨.str (ca f n),[]⟩:=by
 intro f
 induction f with
 |zero=>
  intro n _ h h2;have hn:n<10:=by simpa using h
  rw[yP hn];have hd:n % 10<10:=by omega
  have hlt:(n:Int)<10:=by omega
  have e:UInt8.ofNat (48+n)=UInt8.ofNat (48+n % 10):=by rw[Nat.mod_eq_of_lt hn]
  rw[e];refine gvC (F:=J3) ?_
  repeat' ((conv=>whnf);first|refine Xb h2 ?_|refine P6 hd ?_|refine Xf hd ?_|refine zBv (l:=[UInt8.ofNat (48+n % 10)]) rfl rfl ?_|refine ay ?_|apply ae<;>intro h)
  refine au ?_;rfl
 |succ f ih=>
  intro n hf h h2;have hd:n % 10<10:=by omega
  by_cases hn:n<10
  ·rw[yP hn]
   have hlt:(n:Int)<10:=by omega
   have e:UInt8.ofNat (48+n)=UInt8.ofNat (48+n % 10):=by rw[Nat.mod_eq_of_lt hn]
   rw[e];refine gvC (F:=J3) ?_
   repeat' ((conv=>whnf);first|refine Xb h2 ?_|refine P6 hd ?_|refine Xf hd ?_|refine zBv (l:=[UInt8.ofNat (48+n % 10)]) rfl rfl ?_|refine ay ?_|apply ae<;>intro h)
   refine au ?_;rfl
  ·have hlt: ¬(n:Int)<10:=by omega
   have h1:=ih (n/ 10) (by omega) (by rw[Nat.pow_succ] at h;omega) (by omega)
   have e:ca (f+1) n=ca f (n/ 10)++[UInt8.ofNat (48+n % 10)]:=by simp[ca,hn]
   rw[e];have hwl:=oQ f (n/ 10);generalize ca f (n/ 10)=w at*;have hul: [UInt8.ofNat (48+n % 10)].length=1:=rfl;refine gvC (F:=J3) ?_
   repeat' ((conv=>whnf);first|refine Xb h2 ?_|refine P6 hd ?_|refine Xf hd ?_|refine zBv (l:=[UInt8.ofNat (48+n % 10)]) rfl rfl ?_|refine zQuo h2 ?_|refine bQ ?_|refine ay ?_|apply ae<;>intro h)
   refine au ?_;rfl
theorem rZ (a:Int)(h0:0<=a)(h1:a<=4294967295):ab G 338 [.int .i64 a] [] ⟨.str (ah a),[]⟩:=by
 have h:=oO 19 a.toNat (by omega) (by omega) (by omega)
 have e:((a.toNat:Nat):Int)=a:=by omega
 rw[e] at h;have e2:ah a=ca 19 a.toNat:=by unfold ah;rw[Ac (by omega)]
 rw[e2];generalize ca 19 a.toNat=w at*;exact gvA (F:=f338)
theorem Kh (k k2 lo hi:Int)(l:Do):fC k (.mk k2 lo hi l)=if k2=3 then decide (k≠4) else if k2=4 then !l.isEmpty else decide (5<=k2/\k2<=7)&&decide (5<=k/\k<=7):=rfl
theorem Fg (k lo hi k2 lo2 hi2:Int)(l l2:Do)(hl:l2.length<2^40):ab G 644 [.agg [.int .i64 k,.int .i64 lo,.int .i64 hi,.sl 4 (l.map Rx.enc)],.agg [.int .i64 k2,.int .i64 lo2,.int .i64 hi2,.sl 4 (l2.map Rx.enc)]] [] ⟨.bool (fC k (.mk k2 lo2 hi2 l2)),[]⟩:=by
 have m1:=ml l2 Rx.enc;have hrep: ∀b:Bool,b=decide (5<=k/\k<=7)->True:=λ_ _=>trivial
 rw[Kh]
 by_cases a3:k2=3
 ·rw[Ad a3]
  subst a3
  by_cases e:k=4
  ·subst e
   exact gvA (F:=iL)
  ·rw[Al e]
   by_cases e5:k=5
   ·subst e5
    exact gvA (F:=iL)
   by_cases e6:k=6
   ·subst e6
    exact gvA (F:=iL)
   refine gvB (F:=iL) ?_;refine au ?_;simp[e]
 rw[Ac a3]
 by_cases a4:k2=4
 ·rw[Ad a4]
  subst a4;have hem:(!l2.isEmpty)=decide ((l2.length:Int)>0):=by cases l2<;>simp
  rw[hem]
  by_cases e5:k=5
  ·subst e5
   refine gvB (F:=iL) ?_;refine au ?_;rw[m1]
  by_cases e6:k=6
  ·subst e6
   refine gvB (F:=iL) ?_;refine au ?_;rw[m1]
  refine gvB (F:=iL) ?_;refine au ?_;rw[m1]
 rw[Ac a4]
 have run: ∀d:Bool,d=decide (5<=k/\k<=7)-> ∀e:Bool,e=decide (5<=k2/\k2<=7)->ab G 644 [.agg [.int .i64 k,.int .i64 lo,.int .i64 hi,.sl 4 (l.map Rx.enc)],.agg [.int .i64 k2,.int .i64 lo2,.int .i64 hi2,.sl 4 (l2.map Rx.enc)]] [] ⟨.bool (e&&d),[]⟩:=λd hd e he=>by
  by_cases b5:k2=5
  ·subst b5
   obtain rfl:e=true:=by rw[he];decide
   by_cases e5:k=5
   ·subst e5
    obtain rfl:d=true:=by rw[hd];decide
    exact gvA (F:=iL)
   by_cases e6:k=6
   ·subst e6
    obtain rfl:d=true:=by rw[hd];decide
    exact gvA (F:=iL)
   obtain rfl:d=decide (k=7):=by rw[hd,Bool.eq_iff_iff];simp only[AO];omega
   refine gvB (F:=iL) ?_;refine au ?_;simp;rw[Bool.eq_iff_iff];simp
  by_cases b6:k2=6
  ·subst b6
   obtain rfl:e=true:=by rw[he];decide
   by_cases e5:k=5
   ·subst e5
    obtain rfl:d=true:=by rw[hd];decide
    exact gvA (F:=iL)
   by_cases e6:k=6
   ·subst e6
    obtain rfl:d=true:=by rw[hd];decide
    exact gvA (F:=iL)
   obtain rfl:d=decide (k=7):=by rw[hd,Bool.eq_iff_iff];simp only[AO];omega
   refine gvB (F:=iL) ?_;refine au ?_;simp;rw[Bool.eq_iff_iff];simp
  by_cases b7:k2=7
  ·subst b7
   obtain rfl:e=true:=by rw[he];decide
   by_cases e5:k=5
   ·subst e5
    obtain rfl:d=true:=by rw[hd];decide
    exact gvA (F:=iL)
   by_cases e6:k=6
   ·subst e6
    obtain rfl:d=true:=by rw[hd];decide
    exact gvA (F:=iL)
   obtain rfl:d=decide (k=7):=by rw[hd,Bool.eq_iff_iff];simp only[AO];omega
   refine gvB (F:=iL) ?_;refine au ?_;simp;rw[Bool.eq_iff_iff];simp
  obtain rfl:e=false:=by rw[he];simp;omega
  by_cases e5:k=5
  ·subst e5
   exact gvA (F:=iL)
  by_cases e6:k=6
  ·subst e6
   exact gvA (F:=iL)
  exact gvA (F:=iL)
 exact run _ rfl _ rfl
def nq (w:CF):CL:=[.str w]
@[simp] theorem Yf: ∀l:C5,aa (l.map nq)=true
 | []=>rfl
 |x::r=>by simp only[Ao,aa,Yf r];rfl
def jr (c:UInt8):C5->CF
 | []=>[]
 |x::r=>c::(x++jr c r)
theorem wg (c:UInt8): ∀(x:CF)(r:C5),cz c (x::r)=x++jr c r
 |x,[]=>by simp[cz,jr]
 |x,y::r=>by rw[lg,wg c y r,jr]
theorem oy (l:C5)(hl:l.length<2^40)(c:UInt8): ∀(rest done:C5)(acc R:CF)(T:TV)(H:aq)(ct:Nat)(n:Int)(e:l=done++rest)(hn:n=done.length)(hb:acc.length+fd rest<2^40)(hR:R=if done= [] then cz c rest else acc++jr c rest)(hd0:done= []->acc= []),
  Ev G ⟨aaj,⟨(10,.int .i64 n)::(1,.str [c])::(5,.str acc)::(8,.sl 1 (l.map nq))::(9,.int .i64 l.length)::T,H,ct⟩,[.t 4],0⟩ ⟨.str R,[]⟩
 | [],done,acc,R,T,H,ct,n,e,hn,hb,hR,hd0=>by
  have hd:=md0 e
  obtain rfl:R=acc:=by
   rw[hR]
   by_cases h:done= []
   ·rw[Ad h,hd0 h];rfl
   ·rw[Ac h];simp[jr]
  refine evA ?_;refine au ?_;rfl
 |x::r,done,acc,R,T,H,ct,n,e,hn,hb,hR,hd0=>by
  have hd:=md e;have hll:=ml l nq;have hx:(l.map nq)[n.toNat]? =some [.str x]:=by simp[e,hn,nq]
  have h1: [c].length=1:=rfl;rw[fd] at hb
  by_cases h:done= []
  ·have h0:=hd0 h
   subst h h0;obtain rfl:n=0:=hn;rw[Ad rfl,wg] at hR;have hz:([]:CF).length=0:=rfl;refine evl ?_
   repeat' ((conv=>whnf);first|refine bQ ?_|refine ay ?_|apply ae<;>intro h)
   refine ag [10,1,5,8,9] [] ?_;exact oy l hl c r [x] x R _ _ _ 1 (by simpa using e) rfl (by simp at hb;omega) (by rw[Ac (by simp)];exact hR) (by simp)
  ·rw[Ac h,jr] at hR
   have hp:(0:Int)<n:=by
    have:done.length≠0:=λq=>h (AJ q)
    omega
   have h2:(acc++[c]).length=acc.length+1:=by simp
   refine evl ?_
   repeat' ((conv=>whnf);first|refine bQ ?_|refine ay ?_|apply ae<;>intro h)
   refine ag [10,1,5,8,9] [] ?_;exact oy l hl c r (done++[x]) (acc++[c]++x) R _ _ _ (n+1) (by simp[e]) (by simp[hn]) (by simp;omega) (by rw[Ac (by simp),hR];simp) (by simp)
theorem rK (l:C5)(hl:l.length<2^40)(hb:fd l<2^40)(c:UInt8):ab G 645 [.sl 1 (l.map nq),.str [c]] [] ⟨.str (cz c l),[]⟩:=by
 have hll:=ml l nq;refine gvB (F:=R7) ?_;refine ag [10,1,5,8,9] [] ?_;rw[hll];exact oy l hl c l [] [] _ _ _ _ 0 rfl rfl (by simpa using hb) (by rw[Ad rfl]) (λ_=>rfl)
theorem vK: ∀(a b:C5),fd (a++b)=fd a+fd b
 | [],b=>by simp[fd]
 |x::r,b=>by rw[B4,fd,fd,vK r b];omega
theorem qX (dec:Int->CF)(k:Int): ∀(a b:Do),br dec k (a++b)=br dec k a++br dec k b
 | [],b=>by rw[br];rfl
 |x::r,b=>by rw[B4,br,br,qX dec k r b];rfl
def uc (x:Rx):Prop:=ab G 618 [.agg x.enc] [] ⟨.str (pat ah x),[]⟩
theorem Ni (k lo hi:Int)(l:Do)(hn:bm k lo hi l.length=true)(hl:l.length<2^40)(hb:fd (br ah k l)<2^30)(g gp:Nat)(T:TV)(H:aq)(ct:Nat)(ps:C5)(hps:ps=br ah k l):
  Ev G ⟨pB,⟨(10,.int .i64 l.length)::(3,.vs 200 g ps.length)::(1,.ref 65 gp 0)::(8,.sl 4 (l.map Rx.enc))::(9,.int .i64 l.length)::T,(200,some (g,.vec 1 (ps.map nq)))::(65,some (gp,.cells [.int .i64 k,.int .i64 lo,.int .i64 hi,.sl 4 (l.map Rx.enc)]))::H,ct⟩,[.t 2],0⟩ ⟨.str (dy ah k lo hi ps),[]⟩:=by
 have hpl:ps.length=l.length:=by rw[hps];exact oq l
 have m1:=ml ps nq;rw[<-hps] at hb;unfold bm at hn
 by_cases k1:k=1
 ·rw[Ad k1] at hn
  obtain ⟨q1,q2,q3,q4⟩:=of_decide_eq_true hn;subst k1;have d1:=rZ lo q1 (by omega)
  have d2:=rZ hi (by omega) q3
  have i1:=itoa_len (a:=lo) q1 (by omega)
  have i2:=itoa_len (a:=hi) (by omega) q3
  by_cases e:lo=hi
  ·rw[show dy ah 1 lo hi ps=ah lo from by unfold dy;rw[Ac (by omega),Ad rfl,Ad e]]
   generalize ah lo=w1 at*;refine evA ?_;refine au ?_;rfl
  ·rw[show dy ah 1 lo hi ps=91::(ah lo++45::(ah hi++[93])) from by unfold dy;rw[Ac (by omega),Ad rfl,Ac e]]
   generalize ah lo=w1 at*;generalize ah hi=w2 at*;have z1:([91]:CF).length=1:=rfl;have z2:([45]:CF).length=1:=rfl;have z3:([93]:CF).length=1:=rfl;refine evl ?_
   repeat' ((conv=>whnf);first|refine bQ ?_|refine ay ?_|apply ae<;>intro h)
   refine au ?_;simp
 rw[Ac k1,Av] at hn;obtain ⟨hz,hn⟩:=hn;obtain ⟨rfl,rfl⟩:=of_decide_eq_true hz
 by_cases k0:k=0
 ·subst k0
  refine evA ?_;refine au ?_;rfl
 by_cases k2:k=2
 ·subst k2
  refine evA ?_;refine au ?_;rfl
 rw[Ac (by omega)] at hn
 by_cases k3:k=3
 ·subst k3
  have hj:=rK ps (by omega) (by omega) 32
  rw[show dy ah 3 0 0 ps=cz 32 ps from rfl]
  generalize cz 32 ps=w at*;refine evl ?_
  repeat' (first|refine aQ ?_|refine kZ [(200,_,_)] ⟨rfl,pz trivial⟩ (hj) ?_|apply ae<;>intro h)
  refine au ?_;rfl
 rw[Ac k3] at hn
 by_cases k4:k=4
 ·subst k4
  by_cases hz:ps= []
  ·subst hz
   rw[show dy ah 4 0 0 []= [33] from rfl]
   have z0:([]:C5).length=0:=rfl;refine evA ?_;refine au ?_;rfl
  ·have hpz:ps.length≠0:=λq=>hz (AJ q)
   have hj:=rK ps (by omega) (by omega) 124
   rw[show dy ah 4 0 0 ps=cz 124 ps from by unfold dy;rw[Ac (by omega),Ac (by omega),Ac (by omega),Ac (by omega),Ad rfl,Ac (by cases ps<;>simp_all)]]
   generalize cz 124 ps=w at*;refine evl ?_
   repeat' (first|refine aQ ?_|refine kZ [(200,_,_)] ⟨rfl,pz trivial⟩ (hj) ?_|apply ae<;>intro h)
   refine au ?_;rfl
 rw[Ac k4] at hn
 by_cases k5:5<=k/\k<=7
 ·rw[Ad k5] at hn
  have hn:=of_decide_eq_true hn
  obtain ⟨p,rfl⟩: ∃p,ps= [p]:=by
   match ps,hpl with
   | [p],_=>exact ⟨p,rfl⟩
   | [],h=>simp at h;omega
   |a::b::r,h=>simp at h;omega
  simp only[fd] at hb;have hx:([p].map nq)[(0:Int).toNat]? =some [.str p]:=rfl;have z1:([p]:C5).length=1:=rfl;have z2:([42]:CF).length=1:=rfl;have z3:([43]:CF).length=1:=rfl;have z4:([63]:CF).length=1:=rfl;rcases (by omega:k=5∨k=6∨k=7) with rfl|rfl|rfl
  ·rw[show dy ah 5 0 0 [p]=p++[42] from rfl]
   refine evl ?_
   repeat' ((conv=>whnf);first|refine bQ ?_|refine ay ?_|apply ae<;>intro h)
   refine au ?_;rfl
  ·rw[show dy ah 6 0 0 [p]=p++[43] from rfl]
   refine evl ?_
   repeat' ((conv=>whnf);first|refine bQ ?_|refine ay ?_|apply ae<;>intro h)
   refine au ?_;rfl
  ·rw[show dy ah 7 0 0 [p]=p++[63] from rfl]
   refine evl ?_
   repeat' ((conv=>whnf);first|refine bQ ?_|refine ay ?_|apply ae<;>intro h)
   refine au ?_;rfl
 ·rw[Ac k5] at hn;cases hn
theorem u7 (k lo hi:Int)(l:Do)(hn:bm k lo hi l.length=true)(hl:l.length<2^40)(hb:fd (br ah k l)<2^30)(hk: ∀y∈l,uc y/\Sml y)(gp:Nat): ∀(rest done:Do)(T:TV)(H:aq)(ct g m:Nat)(es:CS)(n:Int)(e:l=done++rest)(hnn:n=done.length)(hm:m=(br ah k done).length)(hes:es=(br ah k done).map nq),
  Ev G ⟨pB,⟨(10,.int .i64 n)::(3,.vs 200 g m)::(1,.ref 65 gp 0)::(8,.sl 4 (l.map Rx.enc))::(9,.int .i64 l.length)::T,(200,some (g,.vec 1 es))::(65,some (gp,.cells [.int .i64 k,.int .i64 lo,.int .i64 hi,.sl 4 (l.map Rx.enc)]))::H,ct⟩,[.t 2],0⟩ ⟨.str (dy ah k lo hi (br ah k l)),[]⟩
 | [],done,T,H,ct,g,m,es,n,e,hnn,hm,hes=>by
  obtain rfl:l=done:=by simpa using e
  subst hm hes hnn;exact Ni k lo hi l hn hl hb g gp T H ct _ rfl
 |x::r,done,T,H,ct,g,m,es,n,e,hnn,hm,hes=>by
  have hd:=md e;have hll:=ml l Rx.enc;have hx:(l.map Rx.enc)[n.toNat]? =some x.enc:=by simp[e,hnn]
  obtain ⟨hp,hs⟩:=hk x (by simp[e])
  have hpx:=cy x;have hpl:(br ah k done).length=done.length:=oq done;have hpa:br ah k (done++[x])=br ah k done++[dq k x (pat ah x)]:=by rw[qX,br,br]
  have hbx:(pat ah x).length+2<2^31:=by
   have h1:br ah k l=br ah k done++(dq k x (pat ah x)::br ah k r):=by rw[e,qX,br]
   rw[h1,vK,fd] at hb;have:(pat ah x).length<=(dq k x (pat ah x)).length:=by unfold dq;split<;>simp;omega
   omega
  have ih:=λT H ct g=>u7 k lo hi l hn hl hb hk gp r (done++[x]) T H ct g (m+1) (es++[nq (dq k x (pat ah x))]) (n+1) (by simp[e]) (by simp[hnn]) (by rw[hpa,hm];simp) (by rw[hpa,hes];simp)
  have hmm:m=done.length:=by rw[hm,hpl]
  have hel:es.length=m:=by rw[hes,hm];simp
  have hmn:(m:Int)=n:=by omega
  have hpe:aa es=true:=by rw[hes];simp
  unfold uc at hp
  have hen: ∀k2 lo2 hi2 l2,x= .mk k2 lo2 hi2 l2->ab G 644 [.agg [.int .i64 k,.int .i64 lo,.int .i64 hi,.sl 4 (l.map Rx.enc)],.agg [.int .i64 k2,.int .i64 lo2,.int .i64 hi2,.sl 4 (l2.map Rx.enc)]] [] ⟨.bool (fC k x),[]⟩:=λk2 lo2 hi2 l2 hxx=>by
   subst hxx;exact Fg k lo hi k2 lo2 hi2 l l2 hs.len
  have z1:([40]:CF).length=1:=rfl;have z2:([41]:CF).length=1:=rfl;cases hc:fC k x with
  |true=>
   have hin:dq k x (pat ah x)=40::(pat ah x++[41]):=by unfold dq;rw[Ad hc]
   rw[hin] at ih;rw[hc] at hen;have ih: ∀T H ct g,Ev G ⟨pB,⟨(10,.int .i64 (n+1))::(3,.vs 200 g (m+1))::(1,.ref 65 gp 0)::(8,.sl 4 (l.map Rx.enc))::(9,.int .i64 l.length)::T,(200,some (g,.vec 1 (es++[[.str ([40]++pat ah x++[41])]])))::(65,some (gp,.cells [.int .i64 k,.int .i64 lo,.int .i64 hi,.sl 4 (l.map Rx.enc)]))::H,ct⟩,[.t 2],0⟩ ⟨.str (dy ah k lo hi (br ah k l)),[]⟩:=ih
   generalize pat ah x=w at*;generalize hxe:x.enc=xe at*;obtain ⟨k2,lo2,hi2,l2⟩:=x;rw[bi] at hxe;subst hxe;have hen:=hen k2 lo2 hi2 l2 rfl;have hwl:([40]++w).length=w.length+1:=by simp
   refine evl ?_
   repeat' ((conv=>whnf);first|refine bQ ?_|refine kV hp ?_ hpx|refine ay ?_|apply ae<;>intro h)
   refine ag [10,3,1,8,9] [200,65] ?_;exact ih _ _ _ _
  |false=>
   have hin:dq k x (pat ah x)=pat ah x:=by unfold dq;rw[Ac (by rw[hc];simp)]
   rw[hin] at ih;rw[hc] at hen;have ih: ∀T H ct g,Ev G ⟨pB,⟨(10,.int .i64 (n+1))::(3,.vs 200 g (m+1))::(1,.ref 65 gp 0)::(8,.sl 4 (l.map Rx.enc))::(9,.int .i64 l.length)::T,(200,some (g,.vec 1 (es++[[.str (pat ah x)]])))::(65,some (gp,.cells [.int .i64 k,.int .i64 lo,.int .i64 hi,.sl 4 (l.map Rx.enc)]))::H,ct⟩,[.t 2],0⟩ ⟨.str (dy ah k lo hi (br ah k l)),[]⟩:=ih
   generalize pat ah x=w at*;generalize hxe:x.enc=xe at*;obtain ⟨k2,lo2,hi2,l2⟩:=x;rw[bi] at hxe;subst hxe;have hen:=hen k2 lo2 hi2 l2 rfl;refine evl ?_
   repeat' ((conv=>whnf);first|refine bQ ?_|refine kV hp ?_ hpx|refine ay ?_|apply ae<;>intro h)
   refine ag [10,3,1,8,9] [200,65] ?_;exact ih _ _ _ _
theorem acO (k lo hi:Int)(l:Do)(hn:bm k lo hi l.length=true)(hl:l.length<2^40)(hb:fd (br ah k l)<2^30)(hk: ∀y∈l,uc y/\Sml y):uc (.mk k lo hi l):=by
 have hll:=ml l Rx.enc;unfold uc;rw[bi,pat];refine gvB (F:=Sj) ?_;refine en 200 1 [(3,.vs 200 _ 0)] [] ⟨LeP.nilV _ _ _,trivial⟩ trivial ?_;refine ag [10,3,1,8,9] [200,65] ?_;rw[hll];exact u7 k lo hi l hn hl hb hk _ l [] _ _ _ _ _ _ 0 rfl rfl rfl rfl
mutual
theorem OM: ∀(x:Rx){lv c c':Nat},Sml x->chk x lv c=some c'->uc x
 | .mk k lo hi l,lv,c,c',hs,h=>by
  have hc':=tU h;rw[chk] at h;split at h
  ·cases h
  ·split at h
   ·cases h
   ·split at h
    ·rename_i hn
     have h1:=pd k l h;have h2:=IM l hs.kid h;exact acO k lo hi l hn hs.len (by omega) h2
    ·cases h
theorem IM: ∀(l:Do){lv c c':Nat},(∀x∈l,Sml x)->ij l lv c=some c'-> ∀y∈l,uc y/\Sml y
 | [],_,_,_,_,_=>λy hy=>by simp at hy
 |x::r,lv,c,c',hs,h=>λy hy=>by
  rw[ij] at h;split at h
  ·rename_i c1 h1
   have h2:=OM x (hs x (by simp)) h1
   rcases AL.1 hy with q|q
   ·rw[q];exact ⟨h2,hs x (by simp)⟩
   ·exact IM r (λz hz=>hs z (by simp[hz])) h y q
  ·cases h
end
theorem z8 (s:CF)(hs:s.length<2^32):ab G 571 [.str s] [] (o8 (fx s)):=by
 have hq:=ua s hs 32 1 (by omega) (by omega) 0 (by omega)
 unfold fx;cases ha:de s (jv s) 32 0 with
 |none=>
  rw[ha] at hq;obtain ⟨x,m,hm,hq⟩:=hq;have hq:ab G 616 [.ref 0 0 0,.int .i64 1] [.cells [.str s,.int .i64 0]] (rpR s (.tup [.agg x.enc,.bool false]) m):=hq;have hpx:=cy x;show ab G 571 _ _ ⟨.tup [.agg rx0.enc,.int .i64 2],[]⟩
  rw[ma];obtain ⟨k,lo,hi,l⟩:=x;rw[bi] at hq hpx;refine gvC (F:=wE) ?_
  repeat' (first|refine aQ ?_|refine kX1 73 rfl (hq) ?_|apply ae<;>intro h)
  refine db [] [(66,some (_,.cells ([.int .i64 0,.int .i64 0,.int .i64 0,.sl 4 []])))] trivial ⟨⟨rfl,leA⟩,trivial⟩ ?_;refine au ?_;(conv=>whnf);refine Go.AM.finC ?_;rfl
 |some p=>
  obtain ⟨x,m⟩:=p;rw[ha] at hq;obtain ⟨_,p2,hsm⟩:=qC hs (vM s) 32 _ _ _ (by omega) ha
  have hq:ab G 616 [.ref 0 0 0,.int .i64 1] [.cells [.str s,.int .i64 0]] (rpR s (.tup [.agg x.enc,.bool true]) m):=hq;obtain ⟨e,hc,he⟩:=BN x hsm;have hpx:=cy x;dsimp only
  by_cases h1:m=s.length
  ·subst h1
   by_cases h2:(chk x 1 0).isSome=true
   ·obtain rfl:e=0:=he.2 h2
    obtain ⟨c',hc'⟩:=Bo.1 h2;have hp:=OM x hsm hc';unfold uc at hp
    by_cases h3:pat ah x=s
    ·rw[Ad ⟨rfl,h2,h3⟩]
     show ab G 571 _ _ ⟨.tup [.agg x.enc,.int .i64 0],[]⟩
     generalize pat ah x=w at*;generalize hxe:x.enc=xe at*;obtain ⟨k,lo,hi,l⟩:=x;rw[bi] at hxe;subst hxe;refine gvC (F:=wE) ?_
     repeat' ((conv=>whnf);first|refine kV hc ?_ hpx|refine kV hp ?_ hpx|refine Qv h3 ?_|refine ay ?_|refine kX1 73 rfl (hq) ?_|apply ae<;>intro h)
     refine au ?_;(conv=>whnf);refine Go.AM.finC ?_;rfl
    ·rw[Ac (λq=>h3 q.2.2)]
     show ab G 571 _ _ ⟨.tup [.agg rx0.enc,.int .i64 2],[]⟩
     rw[ma];generalize pat ah x=w at*;have hne:(w==s)=false:=by simpa using h3
     have zne: ∀{kv:AV->Prop},kv (.bool true)-> ∃v,bp .neq (.str w) (.str s)=some v/\kv v:=λh=>⟨.bool true,by show some (AV.bool (!(w==s)))=_;rw[hne];rfl,h⟩
     generalize hxe:x.enc=xe at*;obtain ⟨k,lo,hi,l⟩:=x;rw[bi] at hxe;subst hxe;refine gvC (F:=wE) ?_
     repeat' ((conv=>whnf);first|refine kV hc ?_ hpx|refine kV hp ?_ hpx|refine zne ?_|refine ay ?_|refine kX1 73 rfl (hq) ?_|apply ae<;>intro h)
     refine db [] [(66,some (_,.cells ([.int .i64 0,.int .i64 0,.int .i64 0,.sl 4 []])))] trivial ⟨⟨rfl,leA⟩,trivial⟩ ?_;refine au ?_;(conv=>whnf);refine Go.AM.finC ?_;rfl
   ·rw[Ac (λq=>h2 q.2.1)]
    have he': ¬e=0:=λq=>h2 (he.1 q)
    show ab G 571 _ _ ⟨.tup [.agg rx0.enc,.int .i64 2],[]⟩
    rw[ma];generalize hxe:x.enc=xe at*;obtain ⟨k,lo,hi,l⟩:=x;rw[bi] at hxe;subst hxe;refine gvC (F:=wE) ?_
    repeat' ((conv=>whnf);first|refine kV hc ?_ hpx|refine ay ?_|refine kX1 73 rfl (hq) ?_|apply ae<;>intro h)
    refine db [] [(66,some (_,.cells ([.int .i64 0,.int .i64 0,.int .i64 0,.sl 4 []])))] trivial ⟨⟨rfl,leA⟩,trivial⟩ ?_;refine au ?_;(conv=>whnf);refine Go.AM.finC ?_;rfl
  ·rw[Ac (λq=>h1 q.1)]
   have hlt:m<s.length:=by omega
   show ab G 571 _ _ ⟨.tup [.agg rx0.enc,.int .i64 2],[]⟩
   rw[ma];generalize hxe:x.enc=xe at*;obtain ⟨k,lo,hi,l⟩:=x;rw[bi] at hxe;subst hxe;refine gvC (F:=wE) ?_
   repeat' (first|refine aQ ?_|refine kX1 73 rfl (hq) ?_|apply ae<;>intro h)
   refine db [] [(66,some (_,.cells ([.int .i64 0,.int .i64 0,.int .i64 0,.sl 4 []])))] trivial ⟨⟨rfl,leA⟩,trivial⟩ ?_;refine au ?_;(conv=>whnf);refine Go.AM.finC ?_;rfl
end Go.AM.IR
