/- What the functions of this program give, on the abstract machine. -/
import Derived.Test.YtomphmeopjpejaaGreatDoorDataB
set_option linter.unusedVariables false
set_option linter.unusedSimpArgs false
set_option maxHeartbeats 4000000
set_option maxRecDepth 20000
namespace Go.AM.IR
def rpR (s:List UInt8)(v:AV)(m:Nat):Ret:=⟨v,[(true,.cells [.str s,.int .i64 (m:Int)])]⟩
end Go.AM.IR
namespace Go.AM.IR
theorem Vj {kv:AV->Prop}{b:UInt8}(h:kv (.int .u8 (gp b)))(hb:48<=b.toNat): ∃v,bt .sub (.int .u8 (b.toNat:Int)) (.int .u8 48)=some v/\kv v:=by
 refine ⟨_,?_,h⟩;have hl:=b.toNat_lt;show some (AV.int .u8 (IntKind.wrap .u8 ((b.toNat:Int)-48)))=_
 unfold gp;rw[rQ (by omega) (by omega)]
end Go.AM.IR
namespace Go.AM.IR
set_option linter.unusedVariables false
inductive Sml:Rx->Prop
 |mk {k lo hi:Int} {l:List Rx} (h:l.length<2^40) (hk: ∀x∈l,Sml x):Sml (.mk k lo hi l)
theorem Sml.len {k lo hi:Int}{l:List Rx}(h:Sml (.mk k lo hi l)):l.length<2^40:=by cases h;assumption
theorem Sml.kid {k lo hi:Int}{l:List Rx}(h:Sml (.mk k lo hi l)): ∀x∈l,Sml x:=by cases h;assumption
theorem Sml.leaf (k lo hi:Int):Sml (.mk k lo hi []):=.mk (by simp) (by simp)
def Pos (s:List UInt8)(P:PR):Prop:= ∀n x m,n<=s.length->P n=some (x,m)->n<=m/\m<=s.length/\Sml x
def Vh (s:List UInt8)(P:NR):Prop:= ∀n a m,n<=s.length->P n=some (a,m)->n<=m/\m<=s.length
theorem iI {s:List UInt8}{n:Nat}{c:UInt8}(h:chr s n c=true):n<s.length:=by
 unfold chr at h;rcases A3 n s.length with q|q
 ·exact q
 ·rw[AD q] at h;simp at h
theorem Gj {s:List UInt8}{num:NR}{alt:PR}(hn:Vh s num)(ha:Pos s alt):Pos s (dh s num alt):=by
 intro n x m hl h;unfold dh at h;split at h
 ·rename_i c;have:=iI c;cases h;exact ⟨by omega,by omega,.leaf ..⟩
 split at h
 ·rename_i c;have:=iI c;cases h;exact ⟨by omega,by omega,.leaf ..⟩
 split at h
 ·rename_i c;have:=iI c
  split at h
  ·rename_i c;have:=iI c;cases h;exact ⟨by omega,by omega,.leaf ..⟩
  ·split at h
   ·rename_i y k hk
    have:=ha _ _ _ (by omega) hk
    split at h
    ·rename_i c;have:=iI c;cases h;exact ⟨by omega,by omega,(by assumption:_/\_/\_).2.2⟩
    ·cases h
   ·cases h
 split at h
 ·rename_i c;have:=iI c
  split at h
  ·rename_i a k hk
   have:=hn _ _ _ (by omega) hk
   split at h
   ·rename_i c;have:=iI c
    split at h
    ·rename_i b j hj
     have:=hn _ _ _ (by omega) hj
     split at h
     ·rename_i c;have:=iI c;cases h;exact ⟨by omega,by omega,.leaf ..⟩
     ·cases h
    ·cases h
   ·cases h
  ·cases h
 ·split at h
  ·rename_i a k hk
   have:=hn _ _ _ (by omega) hk
   cases h;exact ⟨by omega,by omega,.leaf ..⟩
  ·cases h
theorem DG {s:List UInt8}{atom:PR}(ha:Pos s atom):Pos s (gh s atom):=by
 intro n x m hl h;unfold gh at h;split at h
 ·rename_i y k hk
  obtain ⟨h1,h2,h3⟩:=ha _ _ _ hl hk;have hs: ∀p:Int,Sml (.mk p 0 0 [y]):=λp=>.mk (by simp) (by simpa using h3)
  split at h
  ·rename_i c;have:=iI c;cases h;exact ⟨by omega,by omega,hs _⟩
  split at h
  ·rename_i c;have:=iI c;cases h;exact ⟨by omega,by omega,hs _⟩
  split at h
  ·rename_i c;have:=iI c;cases h;exact ⟨by omega,by omega,hs _⟩
  ·cases h;exact ⟨h1,h2,h3⟩
 ·cases h
theorem Jg {s:List UInt8}{item:PR}{c:UInt8}(hi:Pos s item): ∀(f:Nat)(acc:List Rx)(n:Nat)(l:List Rx)(m:Nat),n<=s.length->(∀x∈acc,Sml x)->gF s item c f acc n=some (l,m)->n<=m/\m<=s.length/\(∀x∈l,Sml x)/\l.length<=acc.length+f
 |0,_,_,_,_,_,_,h=>by simp[gF] at h
 |f+1,acc,n,l,m,hn,ha,h=>by
  rw[gF] at h;split at h
  ·rename_i y k hk
   obtain ⟨h1,h2,h3⟩:=hi _ _ _ hn hk
   have ha': ∀x∈acc++[y],Sml x:=λx hx=>by
    rcases Cb.1 hx with q|q
    ·exact ha x q
    ·simp only[Cc] at q;rw[q];exact h3
   split at h
   ·rename_i q
    have:=iI q;obtain ⟨q1,q2,q3,q4⟩:=Jg hi f (acc++[y]) (k+1) l m (by omega) ha' h
    simp at q4;exact ⟨by omega,q2,q3,by omega⟩
   ·cases h
    exact ⟨h1,h2,ha',by simp⟩
  ·cases h
theorem one_pos {s:List UInt8}(hs:s.length<2^32){item:PR}{c:UInt8}{k:Int}(hi:Pos s item):Pos s (λn=>jH k (gF s item c (s.length+1) [] n)):=by
 intro n x m hl h;dsimp only at h;cases hq:gF s item c (s.length+1) [] n with
 |none=>rw[hq] at h;cases h
 |some p=>
  obtain ⟨l,j⟩:=p;obtain ⟨q1,q2,q3,q4⟩:=Jg hi _ _ _ _ _ hl (by simp) hq
  rw[hq] at h;have hl2:Sml (.mk k 0 0 l):=.mk (by simp at q4;omega) q3
  unfold jH at h;split at h
  ·rename_i y m' e
   obtain ⟨rfl,rfl⟩:=Prod.mk.inj (Ai e);cases h;exact ⟨q1,q2,q3 x (by simp)⟩
  ·rename_i l' m' _ e
   obtain ⟨rfl,rfl⟩:=Prod.mk.inj (Ai e);cases h;exact ⟨q1,q2,hl2⟩
  ·cases h
theorem Jf {s:List UInt8}(hs:s.length<2^32){item:PR}(hi:Pos s item):Pos s (m6 s item):=one_pos hs hi
theorem yo {s:List UInt8}(hs:s.length<2^32){num:NR}(hn:Vh s num): ∀k,Pos s (di s num k)
 |0=>λn x m _ h=>by simp[di] at h
 |k+1=>by
  rw[di];exact one_pos hs (Jf hs (DG (Gj hn (yo hs hn k))))
theorem kL (s:List UInt8):Vh s (fG s):=λn a m hn h=>by
 unfold fG at h;dsimp only at h;split at h
 ·cases h
 split at h
 ·cases h
 split at h
 ·cases h
 cases h;have h1:((s.drop n).takeWhile isD).length<=(s.drop n).length:=(List.takeWhile_sublist _).length_le;simp at h1;omega
end Go.AM.IR
namespace Go.AM.IR
theorem e0 (k lo hi:Int):(Rx.mk k lo hi []).enc= [.int .i64 k,.int .i64 lo,.int .i64 hi,.sl 4 []]:=bx k lo hi []
end Go.AM.IR
namespace Go.AM.IR
end Go.AM.IR
namespace Go.AM.IR
theorem Wz:rx0.enc= [.int .i64 0,.int .i64 0,.int .i64 0,.sl 4 []]:=e0 0 0 0
end Go.AM.IR
namespace Go.AM.IR
def ChkG (o:Option Nat)(n e:Int):Prop:=match o with
 |some c=>n=c/\e=0
 |none=>e≠0
end Go.AM.IR
namespace Go.AM.IR
mutual
theorem FD: ∀{x:Rx}{lv c c':Nat},chk x lv c=some c'->c'<=64
 | .mk k lo hi l,lv,c,c',h=>by
  rw[chk] at h;split at h
  ·cases h
  ·split at h
   ·cases h
   ·split at h
    ·exact JM (by omega) h
    ·cases h
theorem JM: ∀{l:List Rx}{lv c c':Nat},c<=64->jX l lv c=some c'->c'<=64
 | [],_,_,_,hc,h=>by rw[jX] at h;cases h;exact hc
 |x::r,lv,c,c',hc,h=>by
  rw[jX] at h;split at h
  ·rename_i c1 h1
   exact JM (FD h1) h
  ·cases h
end
end Go.AM.IR
namespace Go.AM.IR
set_option linter.unusedVariables false
theorem ru: ∀(f m n:Nat),n<10^ (m+1)->(cu f n).length<=m+1
 |0,m,n,h=>by simp[cu]
 |f+1,m,n,h=>by
  simp only[cu];split
  ·simp
  ·rename_i hn
   cases m with
   |zero=>simp at h;omega
   |succ m=>
    have:=ru f m (n/ 10) (by rw[Nat.pow_succ] at h;omega)
    simp;omega
theorem itoa_len {a:Int}(h0:0<=a)(h1:a<=4294967295):(aw a).length<=10:=by
 unfold aw;rw[Ac (by omega)]
 exact ru 19 9 a.toNat (by omega)
def gn:List (List UInt8)->Nat
 | []=>0
 |p::r=>p.length+1+gn r
theorem rc {c:UInt8}: ∀ps:List (List UInt8),(dU c ps).length<=gn ps
 | []=>by simp[dU]
 | [p]=>by simp[dU,gn]
 |p::q::qs=>by
  have:=rc (c:=c) (q::qs);rw[j6,gn];simp;omega
theorem Su (p:Int)(x:Rx)(l:List UInt8):(fa p x l).length<=l.length+2:=by
 unfold fa;split
 ·simp
 ·omega
mutual
theorem Xf: ∀(x:Rx){lv c c':Nat},chk x lv c=some c'->(pat aw x).length+3+32*c<=32*c'
 | .mk k lo hi l,lv,c,c',h=>by
  rw[chk] at h;split at h
  ·cases h
  ·split at h
   ·cases h
   ·split at h
    ·rename_i hn
     have h1:=qR k l h;rw[pat];generalize hps:bH aw k l=ps at*;have h2:=rc (c:=32) ps;have h3:=rc (c:=124) ps;have h4:(ps.headD []).length<=gn ps:=by cases ps<;>simp[gn];omega
     unfold dv at hn;unfold gY;split
     ·simp;omega
     split
     ·rename_i h0 hk1
      rw[Ad hk1] at hn;have hn:=of_decide_eq_true hn;have i1:=itoa_len (a:=lo) hn.1 (by omega)
      have i2:=itoa_len (a:=hi) (by omega) hn.2.2.1
      split
      ·omega
      ·simp;omega
     split
     ·simp;omega
     split
     ·omega
     split
     ·split
      ·simp;omega
      ·omega
     split
     ·simp at h4⊢;omega
     split
     ·simp at h4⊢;omega
     ·simp at h4⊢;omega
    ·cases h
theorem qR (k:Int): ∀(l:List Rx){lv c c':Nat},jX l lv c=some c'->gn (bH aw k l)+32*c<=32*c'
 | [],lv,c,c',h=>by rw[jX] at h;cases h;rw[bH];simp[gn]
 |x::r,lv,c,c',h=>by
  rw[jX] at h;split at h
  ·rename_i c1 h1
   have h2:=Xf x h1;have h3:=qR k r h;have h4:=Su k x (pat aw x);rw[bH,gn];omega
  ·cases h
end
end Go.AM.IR
namespace Go.AM.IR
section
variable {kv:AV->Prop} {k:Eff->Prop} {x:Opd} {g key:Nat} {hg:Nat->Option (Nat×Blk)} {n d:Nat}
end
theorem ul: ∀(f n:Nat),(cu f n).length<=f+1
 |0,n=>by simp[cu]
 |f+1,n=>by
  have:=ul f (n/ 10);simp only[cu];split
  ·simp
  ·simp;omega
end Go.AM.IR
namespace Go.AM.IR
theorem UC (k k2 lo hi:Int)(l:List Rx):fH k (.mk k2 lo hi l)=if k2=3 then decide (k≠4) else if k2=4 then !l.isEmpty else decide (5<=k2/\k2<=7)&&decide (5<=k/\k<=7):=rfl
def encW (w:List UInt8):List AV:=[.str w]
@[simp] theorem Rn: ∀l:List (List UInt8),aa (l.map encW)=true
 | []=>rfl
 |x::r=>by simp only[Ao,aa,Rn r];rfl
def jr (c:UInt8):List (List UInt8)->List UInt8
 | []=>[]
 |x::r=>c::(x++jr c r)
theorem DE (c:UInt8): ∀(x:List UInt8)(r:List (List UInt8)),dU c (x::r)=x++jr c r
 |x,[]=>by simp[dU,jr]
 |x,y::r=>by rw[j6,DE c y r,jr]
end Go.AM.IR
namespace Go.AM.IR
theorem BT: ∀(a b:List (List UInt8)),gn (a++b)=gn a+gn b
 | [],b=>by simp[gn]
 |x::r,b=>by rw[B4,gn,gn,BT r b];omega
theorem CW (dec:Int->List UInt8)(k:Int): ∀(a b:List Rx),bH dec k (a++b)=bH dec k a++bH dec k b
 | [],b=>by rw[bH];rfl
 |x::r,b=>by rw[B4,bH,bH,CW dec k r b];rfl
end Go.AM.IR
namespace Go.AM.IR
end Go.AM.IR
namespace Go.AM.IR
end Go.AM.IR
