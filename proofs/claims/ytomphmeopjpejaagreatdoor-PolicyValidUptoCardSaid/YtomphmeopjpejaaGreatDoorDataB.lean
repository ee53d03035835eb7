/- What the functions of this program give, on the abstract machine. -/
import Derived.Test.YtomphmeopjpejaaGreatDoorLawA
import Derived.Test.YtomphmeopjpejaaGreatDoorDataA
set_option linter.unusedVariables false
set_option linter.unusedSimpArgs false
set_option maxRecDepth 100000
namespace Go.AM.IR
open Go Go.AM Go.Proofs
def lQ:ACode->List (List AOper)
 | .region o _=>[o]
 | .seq a b=>lQ a++lQ b
 | .cond _ a b=>lQ a++lQ b
 | .block _ b=>lQ b
 | .loop b=>lQ b
 | .scope b=>lQ b
 |_=>[]
theorem litI (n:Nat):Int.ofNat (no_index (OfNat.ofNat n))=(OfNat.ofNat n:Int):=rfl
theorem litN:Int.negSucc 0= -1:=rfl
theorem litB (n:Nat)(h:n<2^8):(⟨⟨⟨no_index (OfNat.ofNat n),h⟩⟩⟩:UInt8)=(OfNat.ofNat n:UInt8):=by
 show _=UInt8.ofNat n
 apply A8.1;show n=(UInt8.ofNat n).toNat
 rw[UInt8.toNat_ofNat'];exact (Nat.mod_eq_of_lt h).symm
inductive SameV {α:Sort _}:α->α->Prop
 |mk {a:α}:SameV a a
theorem eqS {α:Sort _}{a b c:α}(h:SameV a b)(k:b=c):a=c:=by cases h;exact k
def Vg (i:Nat)(raw:Bool):Type:= {l:List (List AOper)// lQ (lazyF i raw).body=l}
noncomputable def bc (i:Nat)(raw:Bool)(p:Vg i raw:=by
 refine ⟨?F,?h⟩
 case h=>
  refine eqS (b:=?F2) ?h1 ?h2
  case h1=>
   with_unfolding_all (conv=>arg 1;reduce)
   exact SameV.mk
  case h2=>
   (try simp only[litI,litN,litB])
   exact rfl):Vg i raw:=p
def o7:List (List AOper)->Nat->List AOper
 | [],_=>[]
 |a::_,0=>a
 |_::r,n+1=>o7 r n
def i8 (q:Nat->List AOper):ACode->Nat->ACode×Nat
 | .region _ d,n=>(.region (q n) d,n+1)
 | .seq a b,n=>(.seq (i8 q a n).1 (i8 q b (i8 q a n).2).1,(i8 q b (i8 q a n).2).2)
 | .cond c a b,n=>(.cond c (i8 q a n).1 (i8 q b (i8 q a n).2).1,(i8 q b (i8 q a n).2).2)
 | .block i b,n=>(.block i (i8 q b n).1,(i8 q b n).2)
 | .loop b,n=>(.loop (i8 q b n).1,(i8 q b n).2)
 | .scope b,n=>(.scope (i8 q b n).1,(i8 q b n).2)
 |c,n=>(c,n)
def acd (F:AFunc)(q:Nat->List AOper):AFunc:=⟨F.n,F.np,F.raw,F.results,(i8 q F.body 0).1⟩
def Fns (i:Nat)(raw:Bool):Type:= {F:(Nat->List AOper)->AFunc// acd (lazyF i raw)=F}
noncomputable def fnN (i:Nat)(raw:Bool)(p:Fns i raw:=by
 refine ⟨?F,?h⟩
 case h=>
  refine eqS (b:=?F2) ?h1 ?h2
  case h1=>
   with_unfolding_all (conv=>arg 1;reduce)
   exact SameV.mk
  case h2=>
   (try simp only[litI,litN,litB])
   exact rfl):Fns i raw:=p
def j7:ACode->List AItem->List (List AItem)
 | .seq a b,k=>j7 a (.code b::k)++j7 b k
 | .cond _ a b,k=>j7 a k++j7 b k
 | .block i b,k=>j7 b (.inBlock i::k)
 | .loop b,k=>(.inLoop b::k)::j7 b (.inLoop b::k)
 | .scope b,k=>j7 b (.inScope::k)
 |_,_=>[]
def nthH:List (List AItem)->Nat->List AItem
 | [],_=>[]
 |a::_,0=>a
 |_::r,n+1=>nthH r n
def hdN (F:AFunc)(k:Nat):List AItem:=nthH (j7 F.body []) k
def bi {i:Nat}{raw:Bool}(p:Vg i raw)(j:Nat):List AOper:=o7 p.1 j
end Go.AM.IR
namespace Go.AM.IR
open Go Go.AM
abbrev LO:=List AOper
abbrev LI:=List AItem
abbrev Sq:=ACode.seq
abbrev Rr (a:LO):ACode:=.seq (.region a false) .ret
abbrev Ci (n:Nat)(a:ACode):ACode:=.cond (.t n) a .skip
abbrev Sr (a:LO)(b:ACode):ACode:=.seq (.region a false) b
abbrev zz0:List AV:=[.int .i64 0,.int .i64 0,.int .i64 0,.con (.slice none 0 0)]
noncomputable section
def q665 (j:Nat):List AOper:=bi (bc 6 false) j
def q405 (j:Nat):List AOper:=bi (bc 13 false) j
def q418 (j:Nat):List AOper:=bi (bc 15 false) j
def q507 (j:Nat):List AOper:=bi (bc 22 false) j
def q508 (j:Nat):List AOper:=bi (bc 23 false) j
def q509 (j:Nat):List AOper:=bi (bc 24 false) j
def q510 (j:Nat):List AOper:=bi (bc 25 false) j
def q511 (j:Nat):List AOper:=bi (bc 26 false) j
def q512 (j:Nat):List AOper:=bi (bc 27 false) j
def q325 (j:Nat):List AOper:=bi (bc 28 false) j
def q513 (j:Nat):List AOper:=bi (bc 29 false) j
def q514 (j:Nat):List AOper:=bi (bc 30 false) j
def q515 (j:Nat):List AOper:=bi (bc 31 false) j
def q517 (j:Nat):List AOper:=bi (bc 33 false) j
def q518 (j:Nat):List AOper:=bi (bc 34 false) j
def q519 (j:Nat):List AOper:=bi (bc 35 false) j
def q520 (j:Nat):List AOper:=bi (bc 36 false) j
def q521 (j:Nat):List AOper:=bi (bc 37 false) j
def q522 (j:Nat):List AOper:=bi (bc 38 false) j
def q523 (j:Nat):List AOper:=bi (bc 39 false) j
def q332 (j:Nat):List AOper:=bi (bc 45 false) j
def q452 (j:Nat):List AOper:=bi (bc 46 false) j
def q453 (j:Nat):List AOper:=bi (bc 47 false) j
def q454 (j:Nat):List AOper:=bi (bc 48 false) j
def q577 (j:Nat):List AOper:=bi (bc 74 false) j
def q178 (j:Nat):List AOper:=bi (bc 75 false) j
def q579 (j:Nat):List AOper:=bi (bc 77 false) j
def q580 (j:Nat):List AOper:=bi (bc 78 false) j
def q581 (j:Nat):List AOper:=bi (bc 79 false) j
def q582 (j:Nat):List AOper:=bi (bc 80 false) j
def q229 (j:Nat):List AOper:=bi (bc 87 false) j
def q337 (j:Nat):List AOper:=bi (bc 88 false) j
def q524 (j:Nat):List AOper:=bi (bc 89 false) j
def q525 (j:Nat):List AOper:=bi (bc 90 false) j
def q526 (j:Nat):List AOper:=bi (bc 91 false) j
def q541 (j:Nat):List AOper:=bi (bc 98 false) j
def q542 (j:Nat):List AOper:=bi (bc 99 false) j
def q543 (j:Nat):List AOper:=bi (bc 100 false) j
def q623 (j:Nat):List AOper:=bi (bc 106 false) j
def q181 (j:Nat):List AOper:=bi (bc 107 false) j
def q624 (j:Nat):List AOper:=bi (bc 108 false) j
def q625 (j:Nat):List AOper:=bi (bc 109 false) j
def q626 (j:Nat):List AOper:=bi (bc 110 false) j
def q627 (j:Nat):List AOper:=bi (bc 111 false) j
def q594 (j:Nat):List AOper:=bi (bc 112 false) j
def q596 (j:Nat):List AOper:=bi (bc 113 false) j
def q227 (j:Nat):List AOper:=bi (bc 122 false) j
def q583 (j:Nat):List AOper:=bi (bc 124 false) j
def q585 (j:Nat):List AOper:=bi (bc 129 false) j
def q334 (j:Nat):List AOper:=bi (bc 130 false) j
def q586 (j:Nat):List AOper:=bi (bc 131 false) j
def q587 (j:Nat):List AOper:=bi (bc 132 false) j
def q588 (j:Nat):List AOper:=bi (bc 133 false) j
def q589 (j:Nat):List AOper:=bi (bc 134 false) j
def q590 (j:Nat):List AOper:=bi (bc 135 false) j
def q591 (j:Nat):List AOper:=bi (bc 136 false) j
def q592 (j:Nat):List AOper:=bi (bc 137 false) j
def q593 (j:Nat):List AOper:=bi (bc 138 false) j
def q595 (j:Nat):List AOper:=bi (bc 139 false) j
def q597 (j:Nat):List AOper:=bi (bc 140 false) j
def q183 (j:Nat):List AOper:=bi (bc 148 false) j
def q646 (j:Nat):List AOper:=bi (bc 149 false) j
def q647 (j:Nat):List AOper:=bi (bc 150 false) j
def q648 (j:Nat):List AOper:=bi (bc 151 false) j
def q630 (j:Nat):List AOper:=bi (bc 152 false) j
def q643 (j:Nat):List AOper:=bi (bc 156 false) j
def q628 (j:Nat):List AOper:=bi (bc 161 false) j
def q339 (j:Nat):List AOper:=bi (bc 162 false) j
def q233 (j:Nat):List AOper:=bi (bc 163 false) j
def q340 (j:Nat):List AOper:=bi (bc 164 false) j
def q629 (j:Nat):List AOper:=bi (bc 165 false) j
def q231 (j:Nat):List AOper:=bi (bc 166 false) j
def q631 (j:Nat):List AOper:=bi (bc 167 false) j
def q186 (j:Nat):List AOper:=bi (bc 172 false) j
def q653 (j:Nat):List AOper:=bi (bc 173 false) j
def q654 (j:Nat):List AOper:=bi (bc 174 false) j
def q655 (j:Nat):List AOper:=bi (bc 175 false) j
def q652 (j:Nat):List AOper:=bi (bc 179 false) j
def q250 (j:Nat):List AOper:=bi (bc 187 false) j
def q346 (j:Nat):List AOper:=bi (bc 188 false) j
def q657 (j:Nat):List AOper:=bi (bc 191 false) j
def q658 (j:Nat):List AOper:=bi (bc 192 false) j
def q659 (j:Nat):List AOper:=bi (bc 193 false) j
def q660 (j:Nat):List AOper:=bi (bc 194 false) j
def q347 (j:Nat):List AOper:=bi (bc 206 false) j
def DU:AFunc:=(fnN 6 false).1 q665
def TD:AFunc:=lazyF 10 false
def OU:LO:=[Op 1 (.box (.t 0)),Mc 2 (.int .i64 0)]
def DZ:LO:=[Ls 5 4 1,Ct 6 507 [5],Op 3 (.alloc (.agg [.con (.slice none 0 0),.con (.slice none 0 0),.con (.slice none 0 0),.con (.slice none 0 0)])),St 4 3 6]
def abu:LO:=[Op 7 (.iarr 4 1 (.t 3) (.c (.int .i64 0))),Ld 8 7,Op 9 (.mkfn 509 [(.t 1)]),Op 10 (.mkfn 510 [(.t 1)]),Ct 11 508 [8,9,10],Mv 4 11]
def abt:LO:=[Mv 12 4,Bc 13 .neq 12 0]
def abs:LO:=[Mv 14 4,Mv 2 14]
def abr:LO:=[Op 15 (.iarr 4 1 (.t 3) (.c (.int .i64 1))),Ld 16 15,Op 17 (.mkfn 513 [(.t 1)]),Op 18 (.mkfn 514 [(.t 1)]),Ct 19 508 [16,17,18],Mv 4 19]
def abq:LO:=[Mv 20 4,Bc 21 .neq 20 0]
def abp:LO:=[Mv 22 4,Mv 2 22]
def abo:LO:=[Op 23 (.iarr 4 1 (.t 3) (.c (.int .i64 2))),Ld 24 23,Op 25 (.mkfn 517 [(.t 1)]),Op 26 (.mkfn 518 [(.t 1)]),Ct 27 508 [24,25,26],Mv 4 27]
def abn:LO:=[Mv 28 4,Bc 29 .neq 28 0]
def Ya:LO:=[Mv 30 4,Mv 2 30]
def X9:LO:=[Op 31 (.iarr 4 1 (.t 3) (.c (.int .i64 3))),Ld 32 31,Op 33 (.mkfn 521 [(.t 1)]),Op 34 (.mkfn 522 [(.t 3),(.t 1)]),Ct 35 508 [32,33,34],Mv 2 35]
def D5:AFunc:=⟨36,1,false,[.t 2],(Sr OU (Sr DZ (Sr abu (Sq (Sr abt (Ci 13 (Rr abs))) (Sr abr (Sq (Sr abq (Ci 21 (Rr abp))) (Sr abo (Sq (Sr abn (Ci 29 (Rr Ya))) (Rr X9)))))))))⟩
def ns:AFunc:=(fnN 13 false).1 q405
def zq:LI:=hdN ns 0
def OY:LI:=hdN ns 1
def zp:LI:=hdN ns 2
def OX:LI:=hdN ns 3
def zo:LI:=hdN ns 4
def OW:LI:=hdN ns 5
def OV:LI:=hdN ns 6
def D7:AFunc:=(fnN 15 false).1 q418
def fp:LI:=hdN D7 0
def p9:AFunc:=lazyF 16 false
def T6:AFunc:=lazyF 18 false
def Tz:AFunc:=lazyF 20 false
def uf:AFunc:=(fnN 22 false).1 q507
def Uq:LI:=hdN uf 0
def zm:LI:=hdN uf 1
def zl:LI:=hdN uf 2
def zk:LI:=hdN uf 3
def nr:AFunc:=(fnN 23 false).1 q508
def nY:LI:=hdN nr 0
def Uo:AFunc:=(fnN 24 false).1 q509
def Um:AFunc:=(fnN 25 false).1 q510
def xQ:AFunc:=(fnN 26 false).1 q511
def ue:LI:=hdN xQ 0
def Ul:AFunc:=(fnN 27 false).1 q512
def oq:AFunc:=(fnN 28 false).1 q325
def Uk:AFunc:=(fnN 29 false).1 q513
def Uj:AFunc:=(fnN 30 false).1 q514
def Ui:AFunc:=(fnN 31 false).1 q515
def abe:LO:=[Mv 9 0,Op 10 (.build [.str [],.int .i64 0] [(0,1)] [(.t 9)]),Op 11 (.box (.t 10)),Mv 4 11]
def abd:LO:=[Mv 12 4,Ca 13 579 [(.t 12),(.c (.int .i64 0))],Op 5 (.alloc (.agg zz0)),St 4 5 13]
def abc:LO:=[Ls 15 4 5,Ct 16 580 [15],Mv 14 16,Ex 17 14 0,Ex 18 14 1,Mv 6 17,Mv 7 18]
def abb:LO:=[Mv 19 7,Bc 20 .neq 19 0,Mv 21 20,Gf 21 (Mv 22 6),Gf 21 (Mv 23 0),Gf 21 (Bi 24 .neq 22 23),Po 25 21 24]
def aba:LO:=[Op 26 (.build [] [] []),Op 27 (.mkifc 129 (.t 26)),⟨none,.panic (.t 27),none,[]⟩]
def aa9:LO:=[Ls 28 4 5,St 4 2 28,⟨none,.store 1 (.t 3) (.c (.int .i64 0)),none,[]⟩]
def SX:AGuard:=⟨29,1,[Op 2 (.alloc (.agg zz0)),Op 3 (.alloc (.int .i64 0))],[Op 8 (.mkfn 578 [(.t 2),(.t 3)])],(.t 8),(.seq (.region abe false) (.seq (.region abd false) (.seq (.seq (.region abc false) (.seq (.region abb false) (.cond (.t 25) (.region aba false) .skip))) (.seq (.region aa9 false) .ret)))),[.cell 2 (some 4),.cell 3 none]⟩
def Uh:AFunc:=(fnN 33 false).1 q517
def Ug:AFunc:=(fnN 34 false).1 q518
def Uf:AFunc:=(fnN 35 false).1 q519
def DY:AFunc:=(fnN 36 false).1 q520
def Ue:AFunc:=(fnN 37 false).1 q521
def Ud:AFunc:=(fnN 38 false).1 q522
def Lz:AFunc:=(fnN 39 false).1 q523
def Uc:LI:=hdN Lz 0
def nu:AFunc:=(fnN 45 false).1 q332
def LF:AFunc:=(fnN 46 false).1 q452
def LC:AFunc:=(fnN 47 false).1 q453
def xT:AFunc:=(fnN 48 false).1 q454
def rm:LI:=hdN xT 0
def OT:LI:=hdN xT 1
def OQ:LI:=hdN xT 2
def abm:LO:=[Mv 7 0,Op 8 (.mkfn 1049117 [(.t 7)]),Mv 5 8]
def abl:LO:=[Mv 9 0,Nc 10 9,Fa 11 10 10,Ld 12 11]
def abk:LO:=[Mv 13 0,Op 14 (.mkfn 1049118 [(.t 13)]),Mv 5 14]
def abj:LO:=[Mv 15 0,Nc 16 15,Fa 17 9 16,Ld 18 17]
def abh:LO:=[Mv 19 0,Op 20 (.mkfn 1049119 [(.t 19)]),Mv 5 20]
def abg:LO:=[Mv 21 5,Mv 22 1,Op 23 (.call (.t 21) [(.t 22)])]
def abf:LO:=[⟨none,.store 1 (.t 4) (.c (.int .i64 0)),none,[]⟩]
def KR:AGuard:=⟨24,2,[Op 4 (.alloc (.int .i64 0))],[Op 6 (.mkfn 540 [(.t 4)])],(.t 6),(.seq (.region abm false) (.seq (.seq (.region abl false) (.cond (.t 12) (.region abk false) (.seq (.region abj false) (.cond (.t 18) (.region abh false) .skip)))) (.seq (.region abg false) (.seq (.region abf false) .ret)))),[.cell 4 none]⟩
def xP:AFunc:=lazyF 54 false
def xO:AFunc:=lazyF 55 false
def xN:AFunc:=lazyF 56 false
def p7:AFunc:=lazyF 57 false
def Tw:AFunc:=lazyF 59 false
def Tv:AFunc:=lazyF 60 false
def Tu:AFunc:=lazyF 61 false
def Tr:AFunc:=lazyF 62 false
def Tq:AFunc:=lazyF 65 false
def Tp:AFunc:=lazyF 66 false
def Tk:AFunc:=lazyF 67 false
def Tj:AFunc:=lazyF 68 false
def Th:AFunc:=lazyF 69 false
def Tg:AFunc:=lazyF 70 false
def Tf:AFunc:=lazyF 71 false
def Td:AFunc:=lazyF 72 false
def SY:AFunc:=lazyF 73 false
def xM:AFunc:=(fnN 74 false).1 q577
def xX:AFunc:=(fnN 75 false).1 q178
def xL:AFunc:=(fnN 77 false).1 q579
def TZ:LI:=hdN xL 0
def Ly:AFunc:=(fnN 78 false).1 q580
def Lx:AFunc:=(fnN 79 false).1 q581
def ud:AFunc:=(fnN 80 false).1 q582
def TW:LI:=hdN ud 0
def OC:LI:=hdN ud 1
def OB:LI:=hdN ud 2
def xV:AFunc:=(fnN 87 false).1 q229
def f337:AFunc:=(fnN 88 false).1 q337
def Ub:AFunc:=(fnN 89 false).1 q524
def Ua:AFunc:=(fnN 90 false).1 q525
def T8:AFunc:=(fnN 91 false).1 q526
def iP:AFunc:=(fnN 98 false).1 q541
def OL:LI:=hdN iP 0
def jV:AFunc:=(fnN 99 false).1 q542
def p8:AFunc:=(fnN 100 false).1 q543
def Lj:AFunc:=(fnN 106 false).1 q623
def TR:LI:=hdN Lj 0
def Uv:AFunc:=(fnN 107 false).1 q181
def DV:AFunc:=(fnN 108 false).1 q624
def TK:LI:=hdN DV 0
def Li:AFunc:=(fnN 109 false).1 q625
def TJ:AFunc:=(fnN 110 false).1 q626
def kY:AFunc:=(fnN 111 false).1 q627
def OA:LI:=hdN kY 0
def fd:AFunc:=(fnN 112 false).1 q594
def iO:AFunc:=(fnN 113 false).1 q596
def Ef:AFunc:=(fnN 122 false).1 q227
def gP:LI:=hdN Ef 0
def Lw:AFunc:=(fnN 124 false).1 q583
def nq:LI:=hdN Lw 0
def fm:AFunc:=(fnN 129 false).1 q585
def jz:AFunc:=(fnN 130 false).1 q334
def Lu:AFunc:=(fnN 131 false).1 q586
def Lr:AFunc:=(fnN 132 false).1 q587
def DX:AFunc:=(fnN 133 false).1 q588
def DW:AFunc:=(fnN 134 false).1 q589
def Lq:AFunc:=(fnN 135 false).1 q590
def Ll:AFunc:=(fnN 136 false).1 q591
def Lk:AFunc:=(fnN 137 false).1 q592
def TU:LI:=hdN Lk 0
def dw:AFunc:=(fnN 138 false).1 q593
def ii:AFunc:=(fnN 139 false).1 q595
def uc:AFunc:=(fnN 140 false).1 q597
def Ut:AFunc:=(fnN 148 false).1 q183
def ub:AFunc:=(fnN 149 false).1 q646
def ua:AFunc:=(fnN 150 false).1 q647
def Oy:LI:=hdN ua 0
def KZ:AFunc:=(fnN 151 false).1 q648
def K9:AFunc:=(fnN 152 false).1 q630
def TH:LI:=hdN K9 0
def TG:AFunc:=(fnN 156 false).1 q643
def f628:AFunc:=(fnN 161 false).1 q628
def xU:AFunc:=(fnN 162 false).1 q339
def OZ:LI:=hdN xU 0
def rn:AFunc:=(fnN 163 false).1 q233
def LG:AFunc:=(fnN 164 false).1 q340
def Ur:LI:=hdN LG 0
def Lc:AFunc:=(fnN 165 false).1 q629
def D9:AFunc:=(fnN 166 false).1 q231
def O0:LI:=hdN D9 0
def p6:AFunc:=(fnN 167 false).1 q631
def Oz:LI:=hdN p6 1
def xW:AFunc:=(fnN 172 false).1 q186
def jU:AFunc:=(fnN 173 false).1 q653
def t8:AFunc:=(fnN 174 false).1 q654
def t7:AFunc:=(fnN 175 false).1 q655
def f652:AFunc:=(fnN 179 false).1 q652
def uh:AFunc:=(fnN 187 false).1 q250
def ug:AFunc:=(fnN 188 false).1 q346
def zr:LI:=hdN ug 0
def KY:AFunc:=(fnN 191 false).1 q657
def TF:LI:=hdN KY 0
def KX:AFunc:=(fnN 192 false).1 q658
def nl:AFunc:=(fnN 193 false).1 q659
def xK:AFunc:=(fnN 194 false).1 q660
def nt:AFunc:=(fnN 206 false).1 q347
def D8:LI:=hdN nt 0
end
end Go.AM.IR
namespace Go.AM.IR
noncomputable section
abbrev Lg (f k:Nat)(F:Fun):Fun:=bif Nat.beq f k then F else .none
abbrev Lf (f k:Nat)(F:AFunc):Fun:=bif Nat.beq f k then .code F else .none
abbrev Bf (f k:Nat)(a b:Fun):Fun:=bif Nat.blt f k then a else b
def G0 (f:Nat):Fun:=Bf f 566 (Bf f 454 (Bf f 325 (Bf f 233 (Bf f 186 (Bf f 181 (Lf f 178 xX) (Bf f 183 (Lf f 181 Uv) (Lf f 183 Ut))) (Bf f 229 (Bf f 227 (Lf f 186 xW) (Lf f 227 Ef)) (Bf f 231 (Lf f 229 xV) (Lf f 231 D9)))) (Bf f 249 (Bf f 246 (Lf f 233 rn) (Bf f 247 (Lg f 246 (.prim false sg)) (Lg f 247 (.prim false se)))) (Bf f 252 (Bf f 250 (Lg f 249 (.prim false oH)) (Lf f 250 uh)) (Bf f 263 (Lg f 252 (.prim false Dc)) (Lg f 263 (.prim false (vg 273))))))) (Bf f 346 (Bf f 337 (Bf f 332 (Lf f 325 oq) (Bf f 334 (Lf f 332 nu) (Lf f 334 jz))) (Bf f 340 (Bf f 339 (Lf f 337 f337) (Lf f 339 xU)) (Bf f 345 (Lf f 340 LG) (Lg f 345 (.prim false lW))))) (Bf f 418 (Bf f 347 (Lf f 346 ug) (Bf f 405 (Lf f 347 nt) (Lf f 405 ns))) (Bf f 452 (Bf f 451 (Lf f 418 D7) (Lf f 451 D5)) (Bf f 453 (Lf f 452 LF) (Lf f 453 LC)))))) (Bf f 520 (Bf f 512 (Bf f 508 (Bf f 479 (Lf f 454 xT) (Bf f 507 (Lf f 479 p9) (Lf f 507 uf))) (Bf f 510 (Bf f 509 (Lf f 508 nr) (Lf f 509 Uo)) (Bf f 511 (Lf f 510 Um) (Lf f 511 xQ)))) (Bf f 515 (Bf f 513 (Lf f 512 Ul) (Bf f 514 (Lf f 513 Uk) (Lf f 514 Uj))) (Bf f 518 (Bf f 517 (Lf f 515 Ui) (Lf f 517 Uh)) (Bf f 519 (Lf f 518 Ug) (Lf f 519 Uf))))) (Bf f 541 (Bf f 523 (Bf f 521 (Lf f 520 DY) (Bf f 522 (Lf f 521 Ue) (Lf f 522 Ud))) (Bf f 525 (Bf f 524 (Lf f 523 Lz) (Lf f 524 Ub)) (Bf f 526 (Lf f 525 Ua) (Lf f 526 T8)))) (Bf f 554 (Bf f 542 (Lf f 541 iP) (Bf f 543 (Lf f 542 jV) (Lf f 543 p8))) (Bf f 556 (Bf f 555 (Lf f 554 xP) (Lf f 555 xO)) (Bf f 557 (Lf f 556 xN) (Lf f 557 p7))))))) (Bf f 631 (Bf f 592 (Bf f 585 (Bf f 580 (Bf f 577 (Lf f 566 T6) (Bf f 579 (Lf f 577 xM) (Lf f 579 xL))) (Bf f 582 (Bf f 581 (Lf f 580 Ly) (Lf f 581 Lx)) (Bf f 583 (Lf f 582 ud) (Lf f 583 Lw)))) (Bf f 588 (Bf f 586 (Lf f 585 fm) (Bf f 587 (Lf f 586 Lu) (Lf f 587 Lr))) (Bf f 590 (Bf f 589 (Lf f 588 DX) (Lf f 589 DW)) (Bf f 591 (Lf f 590 Lq) (Lf f 591 Ll))))) (Bf f 624 (Bf f 595 (Bf f 593 (Lf f 592 Lk) (Bf f 594 (Lf f 593 dw) (Lf f 594 fd))) (Bf f 597 (Bf f 596 (Lf f 595 ii) (Lf f 596 iO)) (Bf f 623 (Lf f 597 uc) (Lf f 623 Lj)))) (Bf f 627 (Bf f 625 (Lf f 624 DV) (Bf f 626 (Lf f 625 Li) (Lf f 626 TJ))) (Bf f 629 (Bf f 628 (Lf f 627 kY) (Lf f 628 f628)) (Bf f 630 (Lf f 629 Lc) (Lf f 630 K9)))))) (Bf f 669 (Bf f 654 (Bf f 647 (Bf f 643 (Lf f 631 p6) (Bf f 646 (Lf f 643 TG) (Lf f 646 ub))) (Bf f 652 (Bf f 648 (Lf f 647 ua) (Lf f 648 KZ)) (Bf f 653 (Lf f 652 f652) (Lf f 653 jU)))) (Bf f 658 (Bf f 655 (Lf f 654 t8) (Bf f 657 (Lf f 655 t7) (Lf f 657 KY))) (Bf f 660 (Bf f 659 (Lf f 658 KX) (Lf f 659 nl)) (Bf f 665 (Lf f 660 xK) (Lf f 665 DU))))) (Bf f 678 (Bf f 672 (Bf f 670 (Lf f 669 TD) (Bf f 671 (Lf f 670 Tz) (Lf f 671 Tw))) (Bf f 674 (Bf f 673 (Lf f 672 Tv) (Lf f 673 Tu)) (Bf f 677 (Lf f 674 Tr) (Lf f 677 Tq)))) (Bf f 682 (Bf f 680 (Bf f 679 (Lf f 678 Tp) (Lf f 679 Tk)) (Bf f 681 (Lf f 680 Tj) (Lf f 681 Th))) (Bf f 684 (Bf f 683 (Lf f 682 Tg) (Lf f 683 Tf)) (Bf f 685 (Lf f 684 Td) (Lf f 685 SY)))))))
def CZ:List AV->List Blk->Option Ret
 | [.str s],[]=>if s.length<2^32 then some (pf (m9 s)) else none
 |_,_=>none
def G (f:Nat):Fun:=bif Nat.beq f 516 then .prim false CZ else G0 f
end
end Go.AM.IR
namespace Go.AM.IR
end Go.AM.IR
