/- What the functions of this program give, on the abstract machine. -/
import Derived.Test.YtomphmeopjpejaaGreatDoorDataP
import Derived.Test.YtomphmeopjpejaaGreatDoorDataR
set_option linter.unusedVariables false
set_option linter.unusedSimpArgs false
set_option maxHeartbeats 4000000
set_option maxRecDepth 20000
namespace Go.AM.IR
def Db:List AV->List Blk->Option Ret
 | [.str s],[]=>if s.length<2^30 then some (fx (kM s)) else none
 |_,_=>none
theorem Xm {args:List AV}{bs:List Blk}{t:Ret}(h:Db args bs=some t):ab GR 418 args bs t:=by
 unfold Db at h;split at h
 ·split at h
  ·rename_i hs;cases h;exact CM _ hs
  ·cases h
 ·cases h
noncomputable def GA (f:Nat):Fun:=bif Nat.beq f 418 then .prim false Db else G f
open Classical in
noncomputable def pBy (P:List AV->Ret->Prop)(args:List AV)(bs:List Blk):Option Ret:=if h:bs= []/\ ∃t,P args t then some (Classical.choose h.2) else none
theorem ve {P:List AV->Ret->Prop}{args:List AV}{t:Ret}(h:P args t)(hu: ∀t',P args t'->t'=t):pBy P args []=some t:=by
 have hx:([]:List Blk)= []/\ ∃t,P args t:=⟨rfl,t,h⟩
 unfold pBy;rw[dif_pos hx,hu _ (Classical.choose_spec hx.2)]
theorem vc {P:List AV->Ret->Prop}{args:List AV}{bs:List Blk}{t:Ret}(h:pBy P args bs=some t):bs= []/\P args t:=by
 unfold pBy at h;split at h
 ·rename_i hx
  cases h;exact ⟨hx.1,Classical.choose_spec hx.2⟩
 ·cases h
theorem PSet.enc_i: ∀a b:PSet,a.enc=b.enc->a=b:=by
 rintro ⟨a1,a2,a3,a4⟩ ⟨b1,b2,b3,b4⟩ h
 simpa[PSet.enc,PList.mapE,PathL.mapE,ComL.mapE,Pol.mapE] using h
structure PSet.sml (s:PSet):Prop where
 ok:s.ok
 bk:bkL s.enc<=1048576
def Mb (args:List AV)(t:Ret):Prop:= ∃s:PSet,args= [.agg s.enc]/\s.sml/\t=CK s
def Ma (args:List AV)(t:Ret):Prop:= ∃s:PSet,args= [.agg s.enc]/\s.sml/\t=⟨.int .i64 (iZ s),[]⟩
def Du:List AV:=[ba,ba,ba,ba]
def L9 (args:List AV)(t:Ret):Prop:=args= [.agg dl.enc,.agg Du]/\t=⟨.bool true,[]⟩
def VZ (args:List AV)(t:Ret):Prop:=args= []/\t=⟨.bool true,[]⟩
theorem VU {a b:List AV}(h: [AV.agg a]= [AV.agg b]):a=b:=by simpa using h
theorem Xp {s:PSet}(h:s.sml):pBy Mb [.agg s.enc] []=some (CK s):=ve ⟨s,rfl,h,rfl⟩ λt' ⟨u,e,_,e2⟩=>by rw[e2,PSet.enc_i _ _ (VU e)]
theorem Xo {s:PSet}(h:s.sml):pBy Ma [.agg s.enc] []=some ⟨.int .i64 (iZ s),[]⟩:=ve ⟨s,rfl,h,rfl⟩ λt' ⟨u,e,_,e2⟩=>by rw[e2,PSet.enc_i _ _ (VU e)]
theorem RI:pBy L9 [.agg dl.enc,.agg Du] []=some ⟨.bool true,[]⟩:=ve ⟨rfl,rfl⟩ λt' ⟨_,e⟩=>e
theorem Xn:pBy VZ [] []=some ⟨.bool true,[]⟩:=ve ⟨rfl,rfl⟩ λt' ⟨_,e⟩=>e
noncomputable def GL (f:Nat):Fun:=
 bif Nat.beq f 418 then .prim false Db else bif Nat.beq f 405 then .prim false (pBy Mb) else   bif Nat.beq f 451 then .prim false (pBy Ma) else bif Nat.beq f 479 then .prim false (pBy L9) else bif Nat.beq f 669 then .prim false (pBy VZ) else G f
theorem Wy {args:List AV}{t:Ret}(h:Mb args t):ab G 405 args [] t:=by
 obtain ⟨s,rfl,h,rfl⟩:=h;exact CJ s h.bk h.ok
theorem Wx {args:List AV}{t:Ret}(h:Ma args t):ab G 451 args [] t:=by
 obtain ⟨s,rfl,h,rfl⟩:=h;have hz:=JO s;have hb:=h.bk;have hl:s.prefixes.length+s.paths.length+s.comms.length+s.pols.length<=uH s:=by unfold uH;omega
 exact rB s (rj s h.bk h.ok) (by omega) (by omega) (by omega) (by omega)
theorem Wu {args:List AV}{t:Ret}(h:L9 args t):ab G (479) args [] t:=by
 obtain ⟨rfl,rfl⟩:=h;exact y6 (F:=p9) 1000 rfl (by kernel_rfl) (by kernel_rfl)
end Go.AM.IR
namespace Go.AM.IR
theorem DB (s:List UInt8)(hs:s.length<2^30):ab GL 665 [.str s] [] ⟨.bool true,[]⟩:=by
 have ha:ab GL 669 [] [] ⟨.bool true,[]⟩:=Xn
 by_cases hl:20000<s.length
 ·exact gvA (F:=DU)
 ·have hP:ab GL 418 [.str s] [] (fx (kM s)):=Ad hs
  obtain ⟨n1,n2⟩:=NJ s (by omega)
  have hx: ∀x m e,kM s=(x,m,e)->e=0->iZ x=0/\bU x=s:=λx m e h he=>by
   subst he;unfold kM at h;rw[Ac (by omega)] at h
   obtain ⟨_,r2,r3⟩:=tr s (.top [] [] [] [] 0) 0 [] [] x m h (Int.le_refl 0) ⟨λ_=>rfl,λ_=>rfl,λ_=>rfl,⟨⟨by simp,rfl⟩,⟨by simp,rfl⟩,⟨by simp,rfl⟩⟩,by simp,rfl⟩ rfl
   exact ⟨r2,r3⟩
  have hy: ∀x m e,kM s=(x,m,e)->e≠0->x=dl:=λx m e h he=>by
   unfold kM at h;rw[Ac (by omega)] at h
   exact wO s _ _ _ x m e h he
  generalize kM s=z at*;obtain ⟨x,m,e⟩:=z;have hP:ab GL 418 [.str s] [] ⟨.tup [.agg x.enc,.int .i64 m,.int .i64 e],[]⟩:=hP
  by_cases he:e=0
  ·obtain ⟨k1,k2⟩:=hx x m e rfl he
   have sm:x.sml:=⟨n1,n2⟩
   have h1:ab GL 405 [.agg x.enc] [] ⟨.tup [.str s,.int .i64 0],[]⟩:=by
    have:=Xp sm;rw[CK,Ad k1,Ac (by rw[k2];omega),k2] at this
    exact this
   have h2:ab GL 451 [.agg x.enc] [] ⟨.int .i64 0,[]⟩:=by
    have:=Xo sm;rw[k1] at this;exact this
   subst he;exact gvA (F:=DU)
  ·obtain rfl:=hy x m e rfl he
   have h1:ab GL 479 [.agg dl.enc,.agg Du] [] ⟨.bool true,[]⟩:=RI;refine gvC (F:=DU) ?_
   repeat' ((conv=>whnf);first|refine zNeI1 he ?_|refine aq ?_|(refine ae ?_ ?_<;>intro h))
   refine ax ?_;rfl
theorem law665_all (ass:List (List AV))(h:qj [.str] ass)(hb:bJ ass<=1048576):ab GL 665 (mC [.str] ass) [] ⟨.bool true,[]⟩:=by
 obtain ⟨x0,s0,rfl,h0,h⟩:=LZ h;obtain rfl:=P5 h;obtain ⟨s,rfl⟩:=acM h0;simp only[bJ,bkL,AV.bk] at hb;exact DB s (by omega)
end Go.AM.IR
