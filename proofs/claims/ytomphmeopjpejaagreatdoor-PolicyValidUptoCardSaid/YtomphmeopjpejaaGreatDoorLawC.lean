/- What this seat's program has to do with the functions of the abstract machine: function by function the same code, or a contract of the library. -/
import Derived.Test.YtomphmeopjpejaaGreatDoorContractsA
import Derived.Test.YtomphmeopjpejaaGreatDoorLawB
import Derived.Test.YtomphmeopjpejaaGreatDoorRows
import Derived.Test.YtomphmeopjpejaaGreatDoorDataD
import Derived.Test.YtomphmeopjpejaaGreatDoorDataT
import Derived.Tactics
import Derived.Tactics2
import Derived.Laws.Pointers
set_option linter.unusedVariables false
set_option linter.unusedSimpArgs false
namespace Go.Proofs.YtomphmeopjpejaaGreatDoor.tie
open Go Go.AM Go.AM.IR Go.Proofs
set_option maxRecDepth 100000
abbrev GO:=Nat->Option Obj
noncomputable abbrev cF (i:Nat)(raw:Bool)(go:GO):Option AFunc:=(Tryz.prog.funcs[i]?).bind (kc Tryz.prog (N go) raw)
theorem c178 (go:GO):cF 75 false go=some xX:=by kernel_rfl
theorem c181 (go:GO):cF 107 false go=some Uv:=by kernel_rfl
theorem c183 (go:GO):cF 148 false go=some Ut:=by kernel_rfl
theorem c186 (go:GO):cF 172 false go=some xW:=by kernel_rfl
theorem c227 (go:GO):cF 122 false go=some Ef:=by kernel_rfl
theorem c229 (go:GO):cF 87 false go=some xV:=by kernel_rfl
theorem c231 (go:GO):cF 166 false go=some D9:=by kernel_rfl
theorem c233 (go:GO):cF 163 false go=some rn:=by kernel_rfl
theorem c250 (go:GO):cF 187 false go=some uh:=by kernel_rfl
theorem c325 (go:GO):cF 28 false go=some oq:=by kernel_rfl
theorem c332 (go:GO):cF 45 false go=some nu:=by kernel_rfl
theorem c334 (go:GO):cF 130 false go=some jz:=by kernel_rfl
theorem c337 (go:GO):cF 88 false go=some f337:=by kernel_rfl
theorem c339 (go:GO):cF 162 false go=some xU:=by kernel_rfl
theorem c340 (go:GO):cF 164 false go=some LG:=by kernel_rfl
theorem c346 (go:GO):cF 188 false go=some ug:=by kernel_rfl
theorem c347 (go:GO):cF 206 false go=some nt:=by kernel_rfl
theorem c405 (go:GO):cF 13 false go=some ns:=by kernel_rfl
theorem c418 (go:GO):cF 15 false go=some D7:=by kernel_rfl
theorem c451 (go:GO):cF 11 false go=some D5:=by kernel_rfl
theorem c452 (go:GO):cF 46 false go=some LF:=by kernel_rfl
theorem c453 (go:GO):cF 47 false go=some LC:=by kernel_rfl
theorem c454 (go:GO):cF 48 false go=some xT:=by kernel_rfl
theorem c479 (go:GO):cF 16 (AFunc.raw p9) go=some p9:=by kernel_rfl
theorem c507 (go:GO):cF 22 false go=some uf:=by kernel_rfl
theorem c508 (go:GO):cF 23 false go=some nr:=by kernel_rfl
theorem c509 (go:GO):cF 24 false go=some Uo:=by kernel_rfl
theorem c510 (go:GO):cF 25 false go=some Um:=by kernel_rfl
theorem c511 (go:GO):cF 26 false go=some xQ:=by kernel_rfl
theorem c512 (go:GO):cF 27 false go=some Ul:=by kernel_rfl
theorem c513 (go:GO):cF 29 false go=some Uk:=by kernel_rfl
theorem c514 (go:GO):cF 30 false go=some Uj:=by kernel_rfl
theorem c515 (go:GO):cF 31 false go=some Ui:=by kernel_rfl
theorem c517 (go:GO):cF 33 false go=some Uh:=by kernel_rfl
theorem c518 (go:GO):cF 34 false go=some Ug:=by kernel_rfl
theorem c519 (go:GO):cF 35 false go=some Uf:=by kernel_rfl
theorem c520 (go:GO):cF 36 false go=some DY:=by kernel_rfl
theorem c521 (go:GO):cF 37 false go=some Ue:=by kernel_rfl
theorem c522 (go:GO):cF 38 false go=some Ud:=by kernel_rfl
theorem c523 (go:GO):cF 39 false go=some Lz:=by kernel_rfl
theorem c524 (go:GO):cF 89 false go=some Ub:=by kernel_rfl
theorem c525 (go:GO):cF 90 false go=some Ua:=by kernel_rfl
theorem c526 (go:GO):cF 91 false go=some T8:=by kernel_rfl
theorem c541 (go:GO):cF 98 false go=some iP:=by kernel_rfl
theorem c542 (go:GO):cF 99 false go=some jV:=by kernel_rfl
theorem c543 (go:GO):cF 100 false go=some p8:=by kernel_rfl
theorem c554 (go:GO):cF 54 (AFunc.raw xP) go=some xP:=by kernel_rfl
theorem c555 (go:GO):cF 55 (AFunc.raw xO) go=some xO:=by kernel_rfl
theorem c556 (go:GO):cF 56 (AFunc.raw xN) go=some xN:=by kernel_rfl
theorem c557 (go:GO):cF 57 (AFunc.raw p7) go=some p7:=by kernel_rfl
theorem c566 (go:GO):cF 18 (AFunc.raw T6) go=some T6:=by kernel_rfl
theorem c577 (go:GO):cF 74 false go=some xM:=by kernel_rfl
theorem c579 (go:GO):cF 77 false go=some xL:=by kernel_rfl
theorem c580 (go:GO):cF 78 false go=some Ly:=by kernel_rfl
theorem c581 (go:GO):cF 79 false go=some Lx:=by kernel_rfl
theorem c582 (go:GO):cF 80 false go=some ud:=by kernel_rfl
theorem c583 (go:GO):cF 124 false go=some Lw:=by kernel_rfl
theorem c585 (go:GO):cF 129 false go=some fm:=by kernel_rfl
theorem c586 (go:GO):cF 131 false go=some Lu:=by kernel_rfl
theorem c587 (go:GO):cF 132 false go=some Lr:=by kernel_rfl
theorem c588 (go:GO):cF 133 false go=some DX:=by kernel_rfl
theorem c589 (go:GO):cF 134 false go=some DW:=by kernel_rfl
theorem c590 (go:GO):cF 135 false go=some Lq:=by kernel_rfl
theorem c591 (go:GO):cF 136 false go=some Ll:=by kernel_rfl
theorem c592 (go:GO):cF 137 false go=some Lk:=by kernel_rfl
theorem c593 (go:GO):cF 138 false go=some dw:=by kernel_rfl
theorem c594 (go:GO):cF 112 false go=some fd:=by kernel_rfl
theorem c595 (go:GO):cF 139 false go=some ii:=by kernel_rfl
theorem c596 (go:GO):cF 113 false go=some iO:=by kernel_rfl
theorem c597 (go:GO):cF 140 false go=some uc:=by kernel_rfl
theorem c623 (go:GO):cF 106 false go=some Lj:=by kernel_rfl
theorem c624 (go:GO):cF 108 false go=some DV:=by kernel_rfl
theorem c625 (go:GO):cF 109 false go=some Li:=by kernel_rfl
theorem c626 (go:GO):cF 110 false go=some TJ:=by kernel_rfl
theorem c627 (go:GO):cF 111 false go=some kY:=by kernel_rfl
theorem c628 (go:GO):cF 161 false go=some f628:=by kernel_rfl
theorem c629 (go:GO):cF 165 false go=some Lc:=by kernel_rfl
theorem c630 (go:GO):cF 152 false go=some K9:=by kernel_rfl
theorem c631 (go:GO):cF 167 false go=some p6:=by kernel_rfl
theorem c643 (go:GO):cF 156 false go=some TG:=by kernel_rfl
theorem c646 (go:GO):cF 149 false go=some ub:=by kernel_rfl
theorem c647 (go:GO):cF 150 false go=some ua:=by kernel_rfl
theorem c648 (go:GO):cF 151 false go=some KZ:=by kernel_rfl
theorem c652 (go:GO):cF 179 false go=some f652:=by kernel_rfl
theorem c653 (go:GO):cF 173 false go=some jU:=by kernel_rfl
theorem c654 (go:GO):cF 174 false go=some t8:=by kernel_rfl
theorem c655 (go:GO):cF 175 false go=some t7:=by kernel_rfl
theorem c657 (go:GO):cF 191 false go=some KY:=by kernel_rfl
theorem c658 (go:GO):cF 192 false go=some KX:=by kernel_rfl
theorem c659 (go:GO):cF 193 false go=some nl:=by kernel_rfl
theorem c660 (go:GO):cF 194 false go=some xK:=by kernel_rfl
theorem c665 (go:GO):cF 6 false go=some DU:=by kernel_rfl
theorem c669 (go:GO):cF 10 (AFunc.raw TD) go=some TD:=by kernel_rfl
theorem c670 (go:GO):cF 20 (AFunc.raw Tz) go=some Tz:=by kernel_rfl
theorem c671 (go:GO):cF 59 (AFunc.raw Tw) go=some Tw:=by kernel_rfl
theorem c672 (go:GO):cF 60 (AFunc.raw Tv) go=some Tv:=by kernel_rfl
theorem c673 (go:GO):cF 61 (AFunc.raw Tu) go=some Tu:=by kernel_rfl
theorem c674 (go:GO):cF 62 (AFunc.raw Tr) go=some Tr:=by kernel_rfl
theorem c677 (go:GO):cF 65 (AFunc.raw Tq) go=some Tq:=by kernel_rfl
theorem c678 (go:GO):cF 66 (AFunc.raw Tp) go=some Tp:=by kernel_rfl
theorem c679 (go:GO):cF 67 (AFunc.raw Tk) go=some Tk:=by kernel_rfl
theorem c680 (go:GO):cF 68 (AFunc.raw Tj) go=some Tj:=by kernel_rfl
theorem c681 (go:GO):cF 69 (AFunc.raw Th) go=some Th:=by kernel_rfl
theorem c682 (go:GO):cF 70 (AFunc.raw Tg) go=some Tg:=by kernel_rfl
theorem c683 (go:GO):cF 71 (AFunc.raw Tf) go=some Tf:=by kernel_rfl
theorem c684 (go:GO):cF 72 (AFunc.raw Td) go=some Td:=by kernel_rfl
theorem c685 (go:GO):cF 73 (AFunc.raw SY) go=some SY:=by kernel_rfl
/-- What the contracts ask of the world. -/
structure Facts (go:Nat->Option Obj):Prop where
 pow:TabAt Tryz.prog (N go) "internal/strconv.uint64pow10" .u64 Lib.pow10Tab
 max:IntAt (N go) 1
 esyn:ErrAt (N go) 4
 eran:ErrAt (N go) 5
theorem p246 (go:Nat->Option Obj)(X:Facts go): ∀args bs t,sg args bs=some t->eF Tryz.prog (N go) 246 args bs t:=Ou Tryz.laysM171 rfl X.pow
theorem p247 (go:Nat->Option Obj)(X:Facts go): ∀args bs t,se args bs=some t->eF Tryz.prog (N go) 247 args bs t:=Oq Tryz.lays156 Tryz.Builder_Extra_156 rfl
theorem p249 (go:Nat->Option Obj)(X:Facts go): ∀args bs t,oH args bs=some t->eF Tryz.prog (N go) 249 args bs t:=J5 Tryz.lays146 (by kernel_rfl) rfl X.max
theorem p252 (go:Nat->Option Obj)(X:Facts go): ∀args bs t,Dc args bs=some t->eF Tryz.prog (N go) 252 args bs t:=UH Tryz.lays145 rfl X.max
theorem p263 (go:Nat->Option Obj)(X:Facts go): ∀args bs t,(vg 273) args bs=some t->eF Tryz.prog (N go) 263 args bs t:=PW Tryz.laysC172 rfl rfl X.esyn X.eran
theorem p345 (go:Nat->Option Obj)(X:Facts go): ∀args bs t,lW args bs=some t->eF Tryz.prog (N go) 345 args bs t:=Bm Tryz.lays144 rfl X.max
theorem mixed:Tryz.prog.follows .mixedOrders=true:=by kernel_rfl
theorem gok0 (go:Nat->Option Obj)(X:Facts go):GOk Tryz.prog (N go) G0:=rk λf=>az (λ_=>az (λ_=>az (λ_=>az (λ_=>az (λ_=>az (λ_=>ay rfl (c178 go)) λ_=>az (λ_=>ay rfl (c181 go)) λ_=>ay rfl (c183 go)) λ_=>az (λ_=>az (λ_=>ay rfl (c186 go)) λ_=>ay rfl (c227 go)) λ_=>az (λ_=>ay rfl (c229 go)) λ_=>ay rfl (c231 go)) λ_=>az (λ_=>az (λ_=>ay rfl (c233 go)) λ_=>az (λ_=>kO rfl ⟨_,Tryz.func123,by kernel_rfl,by decide⟩ (p246 go X)) λ_=>kO rfl ⟨_,Tryz.func159,by kernel_rfl,by decide⟩ (p247 go X)) λ_=>az (λ_=>az (λ_=>kO rfl ⟨_,Tryz.func185,by kernel_rfl,by decide⟩ (p249 go X)) λ_=>ay rfl (c250 go)) λ_=>az (λ_=>kO rfl ⟨_,Tryz.func186,by kernel_rfl,by decide⟩ (p252 go X)) λ_=>kO rfl ⟨_,Tryz.func205,by kernel_rfl,by decide⟩ (p263 go X)) λ_=>az (λ_=>az (λ_=>az (λ_=>ay rfl (c325 go)) λ_=>az (λ_=>ay rfl (c332 go)) λ_=>ay rfl (c334 go)) λ_=>az (λ_=>az (λ_=>ay rfl (c337 go)) λ_=>ay rfl (c339 go)) λ_=>az (λ_=>ay rfl (c340 go)) λ_=>kO rfl ⟨_,Tryz.func184,by kernel_rfl,by decide⟩ (p345 go X)) λ_=>az (λ_=>az (λ_=>ay rfl (c346 go)) λ_=>az (λ_=>ay rfl (c347 go)) λ_=>ay rfl (c405 go)) λ_=>az (λ_=>az (λ_=>ay rfl (c418 go)) λ_=>ay rfl (c451 go)) λ_=>az (λ_=>ay rfl (c452 go)) λ_=>ay rfl (c453 go)) λ_=>az (λ_=>az (λ_=>az (λ_=>az (λ_=>ay rfl (c454 go)) λ_=>az (λ_=>ay rfl (c479 go)) λ_=>ay rfl (c507 go)) λ_=>az (λ_=>az (λ_=>ay rfl (c508 go)) λ_=>ay rfl (c509 go)) λ_=>az (λ_=>ay rfl (c510 go)) λ_=>ay rfl (c511 go)) λ_=>az (λ_=>az (λ_=>ay rfl (c512 go)) λ_=>az (λ_=>ay rfl (c513 go)) λ_=>ay rfl (c514 go)) λ_=>az (λ_=>az (λ_=>ay rfl (c515 go)) λ_=>ay rfl (c517 go)) λ_=>az (λ_=>ay rfl (c518 go)) λ_=>ay rfl (c519 go)) λ_=>az (λ_=>az (λ_=>az (λ_=>ay rfl (c520 go)) λ_=>az (λ_=>ay rfl (c521 go)) λ_=>ay rfl (c522 go)) λ_=>az (λ_=>az (λ_=>ay rfl (c523 go)) λ_=>ay rfl (c524 go)) λ_=>az (λ_=>ay rfl (c525 go)) λ_=>ay rfl (c526 go)) λ_=>az (λ_=>az (λ_=>ay rfl (c541 go)) λ_=>az (λ_=>ay rfl (c542 go)) λ_=>ay rfl (c543 go)) λ_=>az (λ_=>az (λ_=>ay rfl (c554 go)) λ_=>ay rfl (c555 go)) λ_=>az (λ_=>ay rfl (c556 go)) λ_=>ay rfl (c557 go)) λ_=>az (λ_=>az (λ_=>az (λ_=>az (λ_=>az (λ_=>ay rfl (c566 go)) λ_=>az (λ_=>ay rfl (c577 go)) λ_=>ay rfl (c579 go)) λ_=>az (λ_=>az (λ_=>ay rfl (c580 go)) λ_=>ay rfl (c581 go)) λ_=>az (λ_=>ay rfl (c582 go)) λ_=>ay rfl (c583 go)) λ_=>az (λ_=>az (λ_=>ay rfl (c585 go)) λ_=>az (λ_=>ay rfl (c586 go)) λ_=>ay rfl (c587 go)) λ_=>az (λ_=>az (λ_=>ay rfl (c588 go)) λ_=>ay rfl (c589 go)) λ_=>az (λ_=>ay rfl (c590 go)) λ_=>ay rfl (c591 go)) λ_=>az (λ_=>az (λ_=>az (λ_=>ay rfl (c592 go)) λ_=>az (λ_=>ay rfl (c593 go)) λ_=>ay rfl (c594 go)) λ_=>az (λ_=>az (λ_=>ay rfl (c595 go)) λ_=>ay rfl (c596 go)) λ_=>az (λ_=>ay rfl (c597 go)) λ_=>ay rfl (c623 go)) λ_=>az (λ_=>az (λ_=>ay rfl (c624 go)) λ_=>az (λ_=>ay rfl (c625 go)) λ_=>ay rfl (c626 go)) λ_=>az (λ_=>az (λ_=>ay rfl (c627 go)) λ_=>ay rfl (c628 go)) λ_=>az (λ_=>ay rfl (c629 go)) λ_=>ay rfl (c630 go)) λ_=>az (λ_=>az (λ_=>az (λ_=>az (λ_=>ay rfl (c631 go)) λ_=>az (λ_=>ay rfl (c643 go)) λ_=>ay rfl (c646 go)) λ_=>az (λ_=>az (λ_=>ay rfl (c647 go)) λ_=>ay rfl (c648 go)) λ_=>az (λ_=>ay rfl (c652 go)) λ_=>ay rfl (c653 go)) λ_=>az (λ_=>az (λ_=>ay rfl (c654 go)) λ_=>az (λ_=>ay rfl (c655 go)) λ_=>ay rfl (c657 go)) λ_=>az (λ_=>az (λ_=>ay rfl (c658 go)) λ_=>ay rfl (c659 go)) λ_=>az (λ_=>ay rfl (c660 go)) λ_=>ay rfl (c665 go)) λ_=>az (λ_=>az (λ_=>az (λ_=>ay rfl (c669 go)) λ_=>az (λ_=>ay rfl (c670 go)) λ_=>ay rfl (c671 go)) λ_=>az (λ_=>az (λ_=>ay rfl (c672 go)) λ_=>ay rfl (c673 go)) λ_=>az (λ_=>ay rfl (c674 go)) λ_=>ay rfl (c677 go)) λ_=>az (λ_=>az (λ_=>az (λ_=>ay rfl (c678 go)) λ_=>ay rfl (c679 go)) λ_=>az (λ_=>ay rfl (c680 go)) λ_=>ay rfl (c681 go)) λ_=>az (λ_=>az (λ_=>ay rfl (c682 go)) λ_=>ay rfl (c683 go)) λ_=>az (λ_=>ay rfl (c684 go)) λ_=>ay rfl (c685 go)
theorem idleX (v0 v1:Value)(w:World):
  CallsD Tryz.prog 76 #[v0,v1] .returning w λe u' w'=>e= .returned (.tuple #[])/\u'= .returning/\ ∃os,w'=more w os:=by
 refine callsD_of_wpS Tryz.func76 rfl λc₀ cs hu=>?_
 apply wpS_seq;apply wpS_region;simp[wpOpsS,go_sem,recoverD,hu,Tryz.ntmps76,Exit.thenS];refine wpS_cond (t:=false) (by simp[Act.eval,Array.replicate]) ?_
 simp only[A5,if_false];refine wpS_of_wp (wp_skip ?_);cases c₀;simp_all[bodyPostS,results,Tryz.results76];exact ⟨#[],(yU w).symm⟩
def wsX:List (List Value):=[[.int .i64 0,.int .i64 0,.int .i64 0,.slice none 0 0],[.int .i64 2]]
theorem bldX (w:World):(Instr.build 67 #[]).run Tryz.prog w= .ok (.agg #[.int .i64 0,.int .i64 0,.int .i64 0,.slice none 0 0]) w:=by kernel_rfl
theorem panX (p q:Addr)(T:Nat)(x:Value)(w:World)(hw:Gr w [p,q] wsX):
  CallsD Tryz.prog 76 #[.pointer (some p),.pointer (some q)] (.panicking [{v:=.iface T x,recovered:=false}]) w λe u' w'=>
   e= .returned (.tuple #[])/\u'= .panicking [{v:=.iface T x,recovered:=true}]/\ ∃os,w'=more (tv w [p,q] wsX) os:=by
 obtain ⟨b,o,sp⟩:=p;obtain ⟨b2,o2,sp2⟩:=q;obtain ⟨h1,h2,h3,h4,_⟩:=hw;dsimp only at h1 h2 h3 h4;subst h1 h3;have a0:=h2 0 (by simp)
 have a1:=h2 1 (by simp)
 have a2:=h2 2 (by simp)
 have a3:=h2 3 (by simp)
 rw[Nat.add_zero] at a0;have f1:=λw=>World.isSome_setCells b [Value.int .i64 0] o w ⟨b,o+1,none⟩
 have f2:=λw=>World.isSome_setCells b [Value.int .i64 0,Value.int .i64 0] o w ⟨b,o+2,none⟩
 have f3:=λw=>World.isSome_setCells b [Value.int .i64 0,Value.int .i64 0,Value.int .i64 0] o w ⟨b,o+3,none⟩
 have b1:=f1 w a1.1;have b2':=f2 w a2.1;have b3:=f3 w a3.1;have c1:=World.frozen?_setCells b [Value.int .i64 0] o w ⟨b,o+1,none⟩;have c2:=World.frozen?_setCells b [Value.int .i64 0,Value.int .i64 0] o w ⟨b,o+2,none⟩;have c3:=World.frozen?_setCells b [Value.int .i64 0,Value.int .i64 0,Value.int .i64 0] o w ⟨b,o+3,none⟩;rw[a1.2] at c1;rw[a2.2] at c2;rw[a3.2] at c3;obtain ⟨u0,g0⟩:=Bo.1 a0.1;obtain ⟨u1,g1⟩:=Bo.1 b1;obtain ⟨u2,g2⟩:=Bo.1 b2';obtain ⟨u3,g3⟩:=Bo.1 b3;simp only[World.setCells,CL,Nat.reduceAdd] at g1 g2 g3 c1 c2 c3;obtain ⟨h5,h6⟩:=h4 0 (by simp)
 rw[Nat.add_zero] at h5 h6;obtain ⟨u,hu0⟩:=Bo.1 h5;refine callsD_of_wpS Tryz.func76 rfl λc₀ cs hu=>?_
 apply wpS_seq;apply wpS_region;simp[wpOpsS,go_sem,recoverD,hu,Tryz.ntmps76,Exit.thenS];refine wpS_cond (t:=true) (by simp[Act.eval,Array.replicate]) ?_
 simp only[if_true];apply wpS_region;simp only[World.setCells,CL,Nat.reduceAdd] at hu0 h6;simp[wpOpsS,go_sem,bodyPostS,results,Tryz.results76,bldX,g0,g1,g2,g3,c1,c2,c3,a0.2,hu0,h6];exact ⟨#[],(yU _).symm⟩
theorem dsemX (C:Ctx)(cs:Array Value)(fn:Func)(hcs:cs.size=2)(h1:C.dfr= [{target:=.fn (.func 76) cs,args:= #[]}])(h2:C.dval= .func (.func 76) #[] cs):DSem Tryz.prog C fn Qt:=by
 obtain ⟨v0,v1,rfl⟩: ∃v0 v1,cs= #[v0,v1]:=by
  rcases cs with ⟨l⟩
  match l,hcs with
  | [a,b],_=>exact ⟨a,b,rfl⟩
 refine JH h1 h2 (λw=>by simp[invoke,go_sem]) (idleX v0 v1) ?_
 intro E v a css e2 hv hs;unfold Qt at hs;split at hs
 case h_2=>cases hs
 rename_i t y;obtain rfl:=Ai hs;rw[Wz];cases hv with
 |ifc _ u _ hu=>
 refine ⟨wsX,⟨rfl,λj hj=>?_,rfl,λj hj=>?_,trivial⟩,λw ps hps hw=>?_⟩
 ·match j,hj with
  |0,_=>exact ⟨rfl,.int _ _⟩
  |1,_=>exact ⟨rfl,.int _ _⟩
  |2,_=>exact ⟨rfl,.int _ _⟩
  |3,_=>exact ⟨rfl,LeP.nil (P:=Any) 4 E _ trivial (.con _)⟩
 ·match j,hj with
  |0,_=>exact ⟨rfl,.int _ _⟩
 ·obtain ⟨p,q,rfl⟩: ∃p q,ps= [p,q]:=by
   match ps,hps with
   | [p,q],_=>exact ⟨p,q,rfl⟩
  have hv0:v0= .pointer (some p)/\v1= .pointer (some q):=by simpa using hps
  obtain ⟨rfl,rfl⟩:=hv0;exact panX p q _ _ w hw
theorem g516R (go:Nat->Option Obj):ky Tryz.prog (N go) Tryz.f32=some SX:=by kernel_rfl
theorem p516 (go:Nat->Option Obj)(X:Facts go): ∀args bs t,CZ args bs=some t->eF Tryz.prog (N go) 516 args bs t:=by
 intro args bs t h;unfold CZ at h;split at h
 ·rename_i s
  split at h
  ·rename_i hs
   obtain rfl:=Ai h;obtain ⟨A,caps,q1,q2,q3,q4⟩:=Ij s hs;exact vH (f:=516) (kf:=578) (gok0 go X) mixed Tryz.func32 (g516R go) rfl (λC cs k0 _ _ k3 k4=>dsemX C cs _ (by rw[k0,q3]) k3 k4) rfl q1 q2 q4
  ·cases h
 ·cases h
theorem gok1 (go:Nat->Option Obj)(X:Facts go):GOk Tryz.prog (N go) G:=rk λf=>az (λe=>by
 obtain rfl:=Nat.eq_of_beq_eq_true e;exact ⟨⟨_,Tryz.func32,by kernel_rfl,by decide⟩,p516 go X⟩) λ_=>gok0 go X f
theorem ta0 (w:World):(Instr.typeAssert .nilIface 20 138 true).run Tryz.prog w= .ok (.tuple #[.agg #[.int .i64 0],.bool false]) w:=by
 simp[Instr.typeAssert,go_sem]
theorem ta1 (v:Value)(w:World):(Instr.typeAssert (.iface 138 v) 20 138 true).run Tryz.prog w= .ok (.tuple #[v,.bool true]) w:=by
 simp[Instr.typeAssert,go_sem]
theorem idleR (v0:Value)(w:World):
  CallsD Tryz.prog 97 #[v0] .returning w λe u' w'=>e= .returned (.tuple #[])/\u'= .returning/\ ∃os,w'=more w os:=by
 refine callsD_of_wpS Tryz.func97 rfl λc₀ cs hu=>?_
 apply wpS_seq;apply wpS_region;simp[wpOpsS,go_sem,recoverD,hu,Tryz.ntmps97,Exit.thenS,ta0];apply wpS_seq;apply wpS_region;simp[wpOpsS,go_sem,Exit.thenS];refine wpS_cond (t:=false) (by simp[Act.eval,Array.replicate]) ?_
 simp only[A5,if_false];refine wpS_of_wp (wp_skip ?_);cases c₀;simp_all[bodyPostS,results,Tryz.results97,mE];exact ⟨_,rfl⟩
theorem panR (p:Addr)(x:Int)(w:World)(hc:(w.cell? p).isSome=true)(hz:w.frozen? p=false):
  CallsD Tryz.prog 97 #[.pointer (some p)] (.panicking [{v:=.iface 138 (.agg #[.int .i64 x]),recovered:=false}]) w λe u' w'=>
   e= .returned (.tuple #[])/\u'= .panicking [{v:=.iface 138 (.agg #[.int .i64 x]),recovered:=true}]/\ ∃os,w'=more (w.setCell p (.int .i64 x)) os:=by
 obtain ⟨u,hu0⟩:=Bo.1 hc;have h1: ∀o,(w.alloc o).cell? p=some u:=λo=>by rw[mE,PG hc,hu0]
 have h2: ∀o,(w.alloc o).frozen? p=false:=λo=>by rw[mE,IA hc,hz]
 have h3: ∀o v,(w.alloc o).setCell p v=more (w.setCell p v) #[o]:=λo v=>by rw[mE,Qu (xv hc)]
 refine callsD_of_wpS Tryz.func97 rfl λc₀ cs hu=>?_
 apply wpS_seq;apply wpS_region;simp[wpOpsS,go_sem,recoverD,hu,Tryz.ntmps97,Exit.thenS,ta1];apply wpS_seq;apply wpS_region;simp[wpOpsS,go_sem,Exit.thenS];refine wpS_cond (t:=true) (by simp[Act.eval,Array.replicate]) ?_
 simp only[if_true];apply wpS_region;simp[wpOpsS,go_sem,h1,h2,bodyPostS,results,Tryz.results97,h3];exact ⟨_,rfl⟩
theorem dsemR (C:Ctx)(cs:Array Value)(fn:Func)(hcs:cs.size=1)(ht:C.tnum=id)(h1:C.dfr= [{target:=.fn (.func 97) cs,args:= #[]}])(h2:C.dval= .func (.func 97) #[] cs):DSem Tryz.prog C fn J7:=by
 obtain ⟨v0,rfl⟩: ∃v,cs= #[v]:=by
  rcases cs with ⟨l⟩
  match l,hcs with
  | [v],_=>exact ⟨v,rfl⟩
 refine JH h1 h2 (λw=>by simp[invoke,go_sem]) (idleR v0) ?_
 intro E v a css e2 hv hs;unfold J7 at hs;split at hs
 case h_2=>cases hs
 rename_i t e;split at hs
 case isFalse=>cases hs
 rename_i htt;subst htt;obtain rfl:=Ai hs;rw[ht] at e2;cases hv with
 |ifc _ u _ hu=>
 obtain ⟨us,rfl,u1,u2,u3⟩:=hu.agg_inv;have u4:=(u3 0 (by simp)).int_inv
 obtain rfl:us= #[.int .i64 e]:=by
  rcases us with ⟨l⟩
  match l,u1 with
  | [y],_=>simp at u4;rw[u4]
 refine ⟨[[.int .i64 e]],⟨rfl,λj hj=>?_,trivial⟩,λw ps hps hw=>?_⟩
 ·obtain rfl:j=0:=by simpa using hj
  exact ⟨rfl,.int _ _⟩
 ·obtain ⟨⟨b,o,sp⟩,rfl⟩: ∃p,ps= [p]:=by
   match ps,hps with
   | [p],_=>exact ⟨p,rfl⟩
  obtain ⟨w1,w2,_⟩:=hw;dsimp only at w1 w2;subst w1;obtain ⟨q1,q2⟩:=w2 0 (by simp)
  have hv0:v0= .pointer (some ⟨b,o,none⟩):=by simpa using hps
  subst hv0;rw[e2];exact panR ⟨b,o,none⟩ e w q1 q2
theorem g466R (go:Nat->Option Obj):ky Tryz.prog (N go) Tryz.f53=some KR:=by kernel_rfl
theorem p466 (go:Nat->Option Obj)(X:Facts go): ∀args bs t,pRd args bs=some t->eF Tryz.prog (N go) 466 args bs t:=
 RH (gok1 go X) mixed (fn:=Tryz.f53) Tryz.func53 (g466R go) λC cs h0 _ h2 h3 h4=>dsemR C cs _ h0 h2 h3 h4
theorem gokR (go:Nat->Option Obj)(X:Facts go):GOk Tryz.prog (N go) GR:=rk λf=>az (λe=>by
 obtain rfl:=Nat.eq_of_beq_eq_true e;exact ⟨⟨_,Tryz.func53,by kernel_rfl,by decide⟩,p466 go X⟩) λ_=>gok1 go X f
theorem p418 (go:Nat->Option Obj)(X:Facts go): ∀args bs t,Db args bs=some t->eF Tryz.prog (N go) 418 args bs t:=λ_ _ _ h=>iy (gokR go X) mixed (Xm h)
theorem gokA (go:Nat->Option Obj)(X:Facts go):GOk Tryz.prog (N go) GA:=rk λf=>az (λe=>by
 obtain rfl:=Nat.eq_of_beq_eq_true e;exact ⟨⟨_,Tryz.func15,by kernel_rfl,by decide⟩,p418 go X⟩) λ_=>gok1 go X f
theorem gok (go:Nat->Option Obj)(X:Facts go):GOk Tryz.prog (N go) GL:=rk λf=>az (λe=>by
 obtain rfl:=Nat.eq_of_beq_eq_true e;exact ⟨⟨_,Tryz.func15,by kernel_rfl,by decide⟩,λ_ _ _ h=>p418 go X _ _ _ h⟩) λ_=>az (λe=>by
 obtain rfl:=Nat.eq_of_beq_eq_true e;exact ⟨⟨_,Tryz.func13,by kernel_rfl,by decide⟩,λ_ _ _ h=>by obtain ⟨rfl,q⟩:=vc h;exact iy (gok1 go X) mixed (Wy q)⟩) λ_=>az (λe=>by
 obtain rfl:=Nat.eq_of_beq_eq_true e;exact ⟨⟨_,Tryz.func11,by kernel_rfl,by decide⟩,λ_ _ _ h=>by obtain ⟨rfl,q⟩:=vc h;exact iy (gok1 go X) mixed (Wx q)⟩) λ_=>az (λe=>by
 obtain rfl:=Nat.eq_of_beq_eq_true e;exact ⟨⟨_,Tryz.func16,by kernel_rfl,by decide⟩,λ_ _ _ h=>by obtain ⟨rfl,q⟩:=vc h;exact iy (gok1 go X) mixed (Wu q)⟩) λ_=>az (λe=>by
 obtain rfl:=Nat.eq_of_beq_eq_true e;exact ⟨⟨_,Tryz.func10,by kernel_rfl,by decide⟩,λ_ _ _ h=>by obtain ⟨rfl,rfl,rfl⟩:=vc h;exact iy (gokA go X) mixed zh⟩) λ_=>gok1 go X f
theorem laid:laidOutB Tryz.prog=true:=by kernel_rfl
theorem own:ownKnob Tryz.prog.godebug=none:=by kernel_rfl
theorem one_le (l:Lit)(H:Type):1<=Rows.uptoBulk (DataW.lit (H:=H) l):=by cases l<;>simp[Rows.uptoBulk]
def B:Bulk where
 f:=Rows.uptoBulk
 g:=Rows.uptoBulkAll
 str _:=by simp[Rows.uptoBulk]
 lit l:=one_le l _
 nil:=by simp[Rows.uptoBulk]
 slice _ _:=by simp[Rows.uptoBulk]
 agg _:=by simp[Rows.uptoBulk]
 none:=by simp[Rows.uptoBulkAll]
 cons _ _:=by simp[Rows.uptoBulkAll]
/-- The variables, as the world holds them. -/
def goW (W:World)(g:Nat):Option Obj:=W.heap[g]?
end Go.Proofs.YtomphmeopjpejaaGreatDoor.tie
