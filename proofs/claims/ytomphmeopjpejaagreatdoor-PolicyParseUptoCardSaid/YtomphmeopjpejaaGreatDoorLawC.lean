/- What this seat's program has to do with the functions of the abstract machine: function by function the same code, or a contract of the library. -/
import Derived.Test.YtomphmeopjpejaaGreatDoorContractsA
import Derived.Test.YtomphmeopjpejaaGreatDoorLawB
import Derived.Test.YtomphmeopjpejaaGreatDoorRows
import Derived.Test.YtomphmeopjpejaaGreatDoorDataD
import Derived.Test.YtomphmeopjpejaaGreatDoorDataX
import Derived.Tactics
import Derived.Tactics2
import Derived.Laws.Pointers
set_option linter.unusedSectionVars false
set_option linter.unusedVariables false
set_option linter.unusedSimpArgs false
namespace Go.Proofs.YtomphmeopjpejaaGreatDoor.tie
open Go Go.AM Go.AM.IR Go.Proofs
set_option maxRecDepth 100000
abbrev GO:=Nat->Option Obj
section
variable (i:Nat)(raw:Bool)(go:GO)
noncomputable abbrev cF:Option AFunc:=(Tryz.prog.funcs[i]?).bind (ly Tryz.prog (N go) raw)
theorem c178:cF 75 false go=some BT:=by kernel_rfl
theorem c179:cF 114 false go=some BR:=by kernel_rfl
theorem c181:cF 107 false go=some aaG:=by kernel_rfl
theorem c182:cF 153 false go=some RQ:=by kernel_rfl
theorem c183:cF 148 false go=some aaE:=by kernel_rfl
theorem c184:cF 176 false go=some BQ:=by kernel_rfl
theorem c185:cF 177 false go=some aaD:=by kernel_rfl
theorem c186:cF 172 false go=some BP:=by kernel_rfl
theorem c227:cF 122 false go=some RN:=by kernel_rfl
theorem c228:cF 125 false go=some aaC:=by kernel_rfl
theorem c229:cF 87 false go=some RM:=by kernel_rfl
theorem c230:cF 92 false go=some RK:=by kernel_rfl
theorem c231:cF 166 false go=some JP:=by kernel_rfl
theorem c232:cF 170 false go=some RJ:=by kernel_rfl
theorem c233:cF 163 false go=some uB:=by kernel_rfl
theorem c234:cF 168 false go=some sx:=by kernel_rfl
theorem c248:cF 126 false go=some RI:=by kernel_rfl
theorem c250:cF 187 false go=some xz:=by kernel_rfl
theorem c251:cF 189 false go=some RH:=by kernel_rfl
theorem c253:cF 190 false go=some aaB:=by kernel_rfl
theorem c325:cF 28 false go=some xy:=by kernel_rfl
theorem c326:cF 81 false go=some xx:=by kernel_rfl
theorem c332:cF 45 false go=some sw:=by kernel_rfl
theorem c333:cF 49 false go=some sv:=by kernel_rfl
theorem c334:cF 130 false go=some j8:=by kernel_rfl
theorem c337:cF 88 false go=some f337:=by kernel_rfl
theorem c338:cF 93 false go=some f338:=by kernel_rfl
theorem c339:cF 162 false go=some BN:=by kernel_rfl
theorem c340:cF 164 false go=some RF:=by kernel_rfl
theorem c344:cF 127 false go=some JL:=by kernel_rfl
theorem c346:cF 188 false go=some xw:=by kernel_rfl
theorem c347:cF 206 false go=some pq:=by kernel_rfl
theorem c349:cF 146 false go=some uA:=by kernel_rfl
theorem c405:cF 13 (AFunc.raw aay) go=some aay:=by kernel_rfl
theorem c418:cF 15 false go=some JG:=by kernel_rfl
theorem c451:cF 11 (AFunc.raw aax) go=some aax:=by kernel_rfl
theorem c452:cF 46 (AFunc.raw aaw) go=some aaw:=by kernel_rfl
theorem c453:cF 47 (AFunc.raw aav) go=some aav:=by kernel_rfl
theorem c454:cF 48 (AFunc.raw aau) go=some aau:=by kernel_rfl
theorem c475:cF 169 false go=some uz:=by kernel_rfl
theorem c476:cF 17 false go=some BG:=by kernel_rfl
theorem c479:cF 16 false go=some JF:=by kernel_rfl
theorem c500:cF 43 false go=some aas:=by kernel_rfl
theorem c507:cF 22 (AFunc.raw aar) go=some aar:=by kernel_rfl
theorem c508:cF 23 (AFunc.raw aaq) go=some aaq:=by kernel_rfl
theorem c509:cF 24 (AFunc.raw aap) go=some aap:=by kernel_rfl
theorem c510:cF 25 (AFunc.raw aao) go=some aao:=by kernel_rfl
theorem c511:cF 26 (AFunc.raw aan) go=some aan:=by kernel_rfl
theorem c512:cF 27 (AFunc.raw aam) go=some aam:=by kernel_rfl
theorem c517:cF 33 (AFunc.raw aal) go=some aal:=by kernel_rfl
theorem c518:cF 34 (AFunc.raw aak) go=some aak:=by kernel_rfl
theorem c519:cF 35 (AFunc.raw aaj) go=some aaj:=by kernel_rfl
theorem c520:cF 36 false go=some JE:=by kernel_rfl
theorem c521:cF 37 (AFunc.raw aai) go=some aai:=by kernel_rfl
theorem c522:cF 38 (AFunc.raw aah) go=some aah:=by kernel_rfl
theorem c523:cF 39 (AFunc.raw aag) go=some aag:=by kernel_rfl
theorem c524:cF 89 (AFunc.raw aaf) go=some aaf:=by kernel_rfl
theorem c525:cF 90 (AFunc.raw aae) go=some aae:=by kernel_rfl
theorem c526:cF 91 (AFunc.raw aad) go=some aad:=by kernel_rfl
theorem c541:cF 98 false go=some jw:=by kernel_rfl
theorem c542:cF 99 false go=some lc:=by kernel_rfl
theorem c543:cF 100 false go=some su:=by kernel_rfl
theorem c553:cF 58 false go=some nZ:=by kernel_rfl
theorem c554:cF 54 false go=some JD:=by kernel_rfl
theorem c555:cF 55 false go=some JC:=by kernel_rfl
theorem c556:cF 56 false go=some JB:=by kernel_rfl
end
section
variable (go:GO)
theorem c557:cF 57 false go=some JA:=by kernel_rfl
theorem c566:cF 18 (AFunc.raw aab) go=some aab:=by kernel_rfl
theorem c571:cF 82 false go=some xu:=by kernel_rfl
theorem c572:cF 83 false go=some xt:=by kernel_rfl
theorem c573:cF 84 false go=some RE:=by kernel_rfl
theorem c574:cF 85 true go=some ii:=by kernel_rfl
theorem c575:cF 86 false go=some ZY:=by kernel_rfl
theorem c577:cF 74 false go=some BF:=by kernel_rfl
theorem c579:cF 77 false go=some BC:=by kernel_rfl
theorem c580:cF 78 false go=some RC:=by kernel_rfl
theorem c581:cF 79 false go=some RB:=by kernel_rfl
theorem c582:cF 80 false go=some xq:=by kernel_rfl
theorem c583:cF 124 false go=some RA:=by kernel_rfl
theorem c584:cF 128 false go=some ZU:=by kernel_rfl
theorem c585:cF 129 false go=some gh:=by kernel_rfl
theorem c586:cF 131 false go=some Rz:=by kernel_rfl
theorem c587:cF 132 false go=some Ry:=by kernel_rfl
theorem c588:cF 133 false go=some Jz:=by kernel_rfl
theorem c589:cF 134 false go=some Jy:=by kernel_rfl
theorem c590:cF 135 false go=some Ru:=by kernel_rfl
theorem c591:cF 136 false go=some Rq:=by kernel_rfl
theorem c592:cF 137 false go=some Rn:=by kernel_rfl
theorem c593:cF 138 false go=some ec:=by kernel_rfl
theorem c594:cF 112 false go=some fJ:=by kernel_rfl
theorem c595:cF 139 false go=some iZ:=by kernel_rfl
theorem c596:cF 113 false go=some jv:=by kernel_rfl
theorem c597:cF 140 false go=some xp:=by kernel_rfl
theorem c598:cF 101 false go=some Rm:=by kernel_rfl
theorem c599:cF 102 false go=some gf:=by kernel_rfl
theorem c600:cF 103 false go=some nY:=by kernel_rfl
theorem c601:cF 104 false go=some ma:=by kernel_rfl
theorem c602:cF 105 false go=some iq:=by kernel_rfl
theorem c616:cF 115 false go=some Rk:=by kernel_rfl
theorem c617:cF 116 false go=some ZP:=by kernel_rfl
theorem c618:cF 117 false go=some Rj:=by kernel_rfl
theorem c619:cF 118 false go=some xo:=by kernel_rfl
theorem c620:cF 119 true go=some Ri:=by kernel_rfl
theorem c621:cF 120 true go=some Rh:=by kernel_rfl
theorem c622:cF 121 true go=some Rf:=by kernel_rfl
theorem c623:cF 106 false go=some Re:=by kernel_rfl
theorem c624:cF 108 false go=some Jx:=by kernel_rfl
theorem c625:cF 109 false go=some Rc:=by kernel_rfl
theorem c626:cF 110 false go=some ZE:=by kernel_rfl
theorem c627:cF 111 false go=some m9:=by kernel_rfl
theorem c628:cF 161 false go=some f628:=by kernel_rfl
theorem c629:cF 165 false go=some Ra:=by kernel_rfl
theorem c630:cF 152 false go=some QZ:=by kernel_rfl
theorem c631:cF 167 false go=some ss:=by kernel_rfl
theorem c632:cF 141 false go=some QY:=by kernel_rfl
theorem c633:cF 142 false go=some QX:=by kernel_rfl
theorem c634:cF 143 false go=some mZ:=by kernel_rfl
theorem c635:cF 144 false go=some BA:=by kernel_rfl
theorem c636:cF 145 false go=some Jw:=by kernel_rfl
theorem c637:cF 147 false go=some QV:=by kernel_rfl
theorem c641:cF 154 false go=some QU:=by kernel_rfl
theorem c642:cF 155 false go=some Jv:=by kernel_rfl
theorem c643:cF 156 false go=some xn:=by kernel_rfl
theorem c644:cF 157 false go=some iL:=by kernel_rfl
theorem c645:cF 158 false go=some QT:=by kernel_rfl
theorem c646:cF 149 false go=some xm:=by kernel_rfl
theorem c647:cF 150 false go=some xl:=by kernel_rfl
theorem c648:cF 151 false go=some QQ:=by kernel_rfl
theorem c649:cF 171 false go=some Ju:=by kernel_rfl
theorem c651:cF 178 false go=some xk:=by kernel_rfl
theorem c652:cF 179 false go=some dA:=by kernel_rfl
theorem c653:cF 173 false go=some k9:=by kernel_rfl
theorem c654:cF 174 false go=some xh:=by kernel_rfl
theorem c655:cF 175 false go=some xg:=by kernel_rfl
theorem c656:cF 195 false go=some j7:=by kernel_rfl
theorem c657:cF 191 false go=some QN:=by kernel_rfl
theorem c658:cF 192 false go=some QM:=by kernel_rfl
theorem c659:cF 193 false go=some ph:=by kernel_rfl
theorem c660:cF 194 false go=some Bz:=by kernel_rfl
theorem c661:cF 207 false go=some QL:=by kernel_rfl
theorem c664:cF 5 false go=some QK:=by kernel_rfl
theorem c669:cF 10 false go=some Zt:=by kernel_rfl
theorem c670:cF 20 (AFunc.raw Zr) go=some Zr:=by kernel_rfl
theorem c671:cF 59 (AFunc.raw Zq) go=some Zq:=by kernel_rfl
theorem c672:cF 60 (AFunc.raw Zp) go=some Zp:=by kernel_rfl
theorem c673:cF 61 (AFunc.raw Zo) go=some Zo:=by kernel_rfl
theorem c674:cF 62 (AFunc.raw Zn) go=some Zn:=by kernel_rfl
theorem c677:cF 65 (AFunc.raw Zl) go=some Zl:=by kernel_rfl
theorem c678:cF 66 (AFunc.raw Zk) go=some Zk:=by kernel_rfl
theorem c679:cF 67 (AFunc.raw Zh) go=some Zh:=by kernel_rfl
theorem c680:cF 68 (AFunc.raw Ze) go=some Ze:=by kernel_rfl
theorem c681:cF 69 (AFunc.raw Zc) go=some Zc:=by kernel_rfl
theorem c682:cF 70 (AFunc.raw Y9) go=some Y9:=by kernel_rfl
theorem c683:cF 71 (AFunc.raw YZ) go=some YZ:=by kernel_rfl
theorem c684:cF 72 (AFunc.raw YY) go=some YY:=by kernel_rfl
theorem c685:cF 73 (AFunc.raw YX) go=some YX:=by kernel_rfl
end
/-- What the contracts ask of the world. -/
structure Facts (go:Nat->Option Obj):Prop where
 pow:TabAt Tryz.prog (N go) "internal/strconv.uint64pow10" .u64 Lib.pow10Tab
 max:IntAt (N go) 1
 esyn:ErrAt (N go) 4
 eran:ErrAt (N go) 5
section
variable (go:Nat->Option Obj)(X:Facts go)
include X
theorem p246: ∀args bs t,vu args bs=some t->fq Tryz.prog (N go) 246 args bs t:=Uz Tryz.laysM171 rfl X.pow
theorem p247: ∀args bs t,yA args bs=some t->fq Tryz.prog (N go) 247 args bs t:=Uw Tryz.lays156 Tryz.Builder_Extra_156 rfl
theorem p249: ∀args bs t,rk args bs=some t->fq Tryz.prog (N go) 249 args bs t:=OW Tryz.lays146 (by kernel_rfl) rfl X.max
theorem p252: ∀args bs t,IU args bs=some t->fq Tryz.prog (N go) 252 args bs t:=aaO Tryz.lays145 rfl X.max
theorem p263: ∀args bs t,(yB 273) args bs=some t->fq Tryz.prog (N go) 263 args bs t:=VQ Tryz.laysC172 rfl rfl X.esyn X.eran
theorem p345: ∀args bs t,nI args bs=some t->fq Tryz.prog (N go) 345 args bs t:=FC Tryz.lays144 rfl X.max
end
theorem mixed:Tryz.prog.follows .mixedOrders=true:=by kernel_rfl
section
variable (go:Nat->Option Obj)
theorem gok0 (X:Facts go):GOk Tryz.prog (N go) G0:=uv λf=>ay (λ_=>ay (λ_=>ay (λ_=>ay (λ_=>ay (λ_=>ay (λ_=>ay (λ_=>ax rfl (c178 go)) λ_=>ax rfl (c179 go)) λ_=>ay (λ_=>ax rfl (c181 go)) λ_=>ay (λ_=>ax rfl (c182 go)) λ_=>ax rfl (c183 go)) λ_=>ay (λ_=>ay (λ_=>ax rfl (c184 go)) λ_=>ax rfl (c185 go)) λ_=>ay (λ_=>ax rfl (c186 go)) λ_=>ay (λ_=>ax rfl (c227 go)) λ_=>ax rfl (c228 go)) λ_=>ay (λ_=>ay (λ_=>ay (λ_=>ax rfl (c229 go)) λ_=>ax rfl (c230 go)) λ_=>ay (λ_=>ax rfl (c231 go)) λ_=>ay (λ_=>ax rfl (c232 go)) λ_=>ax rfl (c233 go)) λ_=>ay (λ_=>ay (λ_=>ax rfl (c234 go)) λ_=>mJ rfl ⟨_,Tryz.func123,by kernel_rfl,by decide⟩ (p246 go X)) λ_=>ay (λ_=>mJ rfl ⟨_,Tryz.func159,by kernel_rfl,by decide⟩ (p247 go X)) λ_=>ay (λ_=>ax rfl (c248 go)) λ_=>mJ rfl ⟨_,Tryz.func185,by kernel_rfl,by decide⟩ (p249 go X)) λ_=>ay (λ_=>ay (λ_=>ay (λ_=>ay (λ_=>ax rfl (c250 go)) λ_=>ax rfl (c251 go)) λ_=>ay (λ_=>mJ rfl ⟨_,Tryz.func186,by kernel_rfl,by decide⟩ (p252 go X)) λ_=>ay (λ_=>ax rfl (c253 go)) λ_=>mJ rfl ⟨_,Tryz.func205,by kernel_rfl,by decide⟩ (p263 go X)) λ_=>ay (λ_=>ay (λ_=>ax rfl (c325 go)) λ_=>ax rfl (c326 go)) λ_=>ay (λ_=>ax rfl (c332 go)) λ_=>ay (λ_=>ax rfl (c333 go)) λ_=>ax rfl (c334 go)) λ_=>ay (λ_=>ay (λ_=>ay (λ_=>ax rfl (c337 go)) λ_=>ax rfl (c338 go)) λ_=>ay (λ_=>ax rfl (c339 go)) λ_=>ay (λ_=>ax rfl (c340 go)) λ_=>ax rfl (c344 go)) λ_=>ay (λ_=>ay (λ_=>mJ rfl ⟨_,Tryz.func184,by kernel_rfl,by decide⟩ (p345 go X)) λ_=>ax rfl (c346 go)) λ_=>ay (λ_=>ax rfl (c347 go)) λ_=>ay (λ_=>ax rfl (c349 go)) λ_=>ax rfl (c405 go)) λ_=>ay (λ_=>ay (λ_=>ay (λ_=>ay (λ_=>ay (λ_=>ax rfl (c418 go)) λ_=>ax rfl (c451 go)) λ_=>ay (λ_=>ax rfl (c452 go)) λ_=>ay (λ_=>ax rfl (c453 go)) λ_=>ax rfl (c454 go)) λ_=>ay (λ_=>ay (λ_=>ax rfl (c475 go)) λ_=>ax rfl (c476 go)) λ_=>ay (λ_=>ax rfl (c479 go)) λ_=>ay (λ_=>ax rfl (c500 go)) λ_=>ax rfl (c507 go)) λ_=>ay (λ_=>ay (λ_=>ay (λ_=>ax rfl (c508 go)) λ_=>ax rfl (c509 go)) λ_=>ay (λ_=>ax rfl (c510 go)) λ_=>ay (λ_=>ax rfl (c511 go)) λ_=>ax rfl (c512 go)) λ_=>ay (λ_=>ay (λ_=>ax rfl (c517 go)) λ_=>ax rfl (c518 go)) λ_=>ay (λ_=>ax rfl (c519 go)) λ_=>ay (λ_=>ax rfl (c520 go)) λ_=>ax rfl (c521 go)) λ_=>ay (λ_=>ay (λ_=>ay (λ_=>ay (λ_=>ax rfl (c522 go)) λ_=>ax rfl (c523 go)) λ_=>ay (λ_=>ax rfl (c524 go)) λ_=>ay (λ_=>ax rfl (c525 go)) λ_=>ax rfl (c526 go)) λ_=>ay (λ_=>ay (λ_=>ax rfl (c541 go)) λ_=>ax rfl (c542 go)) λ_=>ay (λ_=>ax rfl (c543 go)) λ_=>ay (λ_=>ax rfl (c553 go)) λ_=>ax rfl (c554 go)) λ_=>ay (λ_=>ay (λ_=>ay (λ_=>ax rfl (c555 go)) λ_=>ax rfl (c556 go)) λ_=>ay (λ_=>ax rfl (c557 go)) λ_=>ay (λ_=>ax rfl (c566 go)) λ_=>ax rfl (c571 go)) λ_=>ay (λ_=>ay (λ_=>ax rfl (c572 go)) λ_=>ay (λ_=>ax rfl (c573 go)) λ_=>ax rfl (c574 go)) λ_=>ay (λ_=>ax rfl (c575 go)) λ_=>ay (λ_=>ax rfl (c577 go)) λ_=>ax rfl (c579 go)) λ_=>ay (λ_=>ay (λ_=>ay (λ_=>ay (λ_=>ay (λ_=>ay (λ_=>ax rfl (c580 go)) λ_=>ax rfl (c581 go)) λ_=>ay (λ_=>ax rfl (c582 go)) λ_=>ay (λ_=>ax rfl (c583 go)) λ_=>ax rfl (c584 go)) λ_=>ay (λ_=>ay (λ_=>ax rfl (c585 go)) λ_=>ax rfl (c586 go)) λ_=>ay (λ_=>ax rfl (c587 go)) λ_=>ay (λ_=>ax rfl (c588 go)) λ_=>ax rfl (c589 go)) λ_=>ay (λ_=>ay (λ_=>ay (λ_=>ax rfl (c590 go)) λ_=>ax rfl (c591 go)) λ_=>ay (λ_=>ax rfl (c592 go)) λ_=>ay (λ_=>ax rfl (c593 go)) λ_=>ax rfl (c594 go)) λ_=>ay (λ_=>ay (λ_=>ax rfl (c595 go)) λ_=>ax rfl (c596 go)) λ_=>ay (λ_=>ax rfl (c597 go)) λ_=>ay (λ_=>ax rfl (c598 go)) λ_=>ax rfl (c599 go)) λ_=>ay (λ_=>ay (λ_=>ay (λ_=>ay (λ_=>ax rfl (c600 go)) λ_=>ax rfl (c601 go)) λ_=>ay (λ_=>ax rfl (c602 go)) λ_=>ay (λ_=>ax rfl (c616 go)) λ_=>ax rfl (c617 go)) λ_=>ay (λ_=>ay (λ_=>ax rfl (c618 go)) λ_=>ax rfl (c619 go)) λ_=>ay (λ_=>ax rfl (c620 go)) λ_=>ay (λ_=>ax rfl (c621 go)) λ_=>ax rfl (c622 go)) λ_=>ay (λ_=>ay (λ_=>ay (λ_=>ax rfl (c623 go)) λ_=>ax rfl (c624 go)) λ_=>ay (λ_=>ax rfl (c625 go)) λ_=>ay (λ_=>ax rfl (c626 go)) λ_=>ax rfl (c627 go)) λ_=>ay (λ_=>ay (λ_=>ax rfl (c628 go)) λ_=>ax rfl (c629 go)) λ_=>ay (λ_=>ax rfl (c630 go)) λ_=>ay (λ_=>ax rfl (c631 go)) λ_=>ax rfl (c632 go)) λ_=>ay (λ_=>ay (λ_=>ay (λ_=>ay (λ_=>ay (λ_=>ax rfl (c633 go)) λ_=>ax rfl (c634 go)) λ_=>ay (λ_=>ax rfl (c635 go)) λ_=>ay (λ_=>ax rfl (c636 go)) λ_=>ax rfl (c637 go)) λ_=>ay (λ_=>ay (λ_=>ax rfl (c641 go)) λ_=>ax rfl (c642 go)) λ_=>ay (λ_=>ax rfl (c643 go)) λ_=>ay (λ_=>ax rfl (c644 go)) λ_=>ax rfl (c645 go)) λ_=>ay (λ_=>ay (λ_=>ay (λ_=>ax rfl (c646 go)) λ_=>ax rfl (c647 go)) λ_=>ay (λ_=>ax rfl (c648 go)) λ_=>ay (λ_=>ax rfl (c649 go)) λ_=>ax rfl (c651 go)) λ_=>ay (λ_=>ay (λ_=>ax rfl (c652 go)) λ_=>ax rfl (c653 go)) λ_=>ay (λ_=>ax rfl (c654 go)) λ_=>ay (λ_=>ax rfl (c655 go)) λ_=>ax rfl (c656 go)) λ_=>ay (λ_=>ay (λ_=>ay (λ_=>ay (λ_=>ax rfl (c657 go)) λ_=>ax rfl (c658 go)) λ_=>ay (λ_=>ax rfl (c659 go)) λ_=>ay (λ_=>ax rfl (c660 go)) λ_=>ax rfl (c661 go)) λ_=>ay (λ_=>ay (λ_=>ax rfl (c664 go)) λ_=>ax rfl (c669 go)) λ_=>ay (λ_=>ax rfl (c670 go)) λ_=>ay (λ_=>ax rfl (c671 go)) λ_=>ax rfl (c672 go)) λ_=>ay (λ_=>ay (λ_=>ay (λ_=>ax rfl (c673 go)) λ_=>ax rfl (c674 go)) λ_=>ay (λ_=>ax rfl (c677 go)) λ_=>ay (λ_=>ax rfl (c678 go)) λ_=>ax rfl (c679 go)) λ_=>ay (λ_=>ay (λ_=>ax rfl (c680 go)) λ_=>ay (λ_=>ax rfl (c681 go)) λ_=>ax rfl (c682 go)) λ_=>ay (λ_=>ax rfl (c683 go)) λ_=>ay (λ_=>ax rfl (c684 go)) λ_=>ax rfl (c685 go)
theorem idleX (v0 v1:Value)(w:World):
  CallsD Tryz.prog 76 #[v0,v1] .returning w λe u' w'=>e= .returned (.tuple #[])/\u'= .returning/\ ∃os,w'=more w os:=by
 refine callsD_of_wpS Tryz.func76 rfl λc₀ cs hu=>?_
 apply wpS_seq;apply wpS_region;simp[wpOpsS,go_sem,recoverD,hu,Tryz.ntmps76,Exit.thenS];refine wpS_cond (t:=false) (by simp[Act.eval,Array.replicate]) ?_
 simp only[AR,if_false];refine wpS_of_wp (wp_skip ?_);cases c₀;simp_all[bodyPostS,results,Tryz.results76];exact ⟨#[],(Dh w).symm⟩
def wsX:List (List Value):=[[.int .i64 0,.int .i64 0,.int .i64 0,.slice none 0 0],[.int .i64 2]]
theorem bldX (w:World):(Instr.build 67 #[]).run Tryz.prog w= .ok (.agg #[.int .i64 0,.int .i64 0,.int .i64 0,.slice none 0 0]) w:=by kernel_rfl
theorem panX (p q:Addr)(T:Nat)(x:Value)(w:World)(hw:Lx w [p,q] wsX):
  CallsD Tryz.prog 76 #[.pointer (some p),.pointer (some q)] (.panicking [{v:=.iface T x,recovered:=false}]) w λe u' w'=>
   e= .returned (.tuple #[])/\u'= .panicking [{v:=.iface T x,recovered:=true}]/\ ∃os,w'=more (wO w [p,q] wsX) os:=by
 obtain ⟨b,o,sp⟩:=p;obtain ⟨b2,o2,sp2⟩:=q;obtain ⟨h1,h2,h3,h4,_⟩:=hw;dsimp only at h1 h2 h3 h4;subst h1 h3;have a0:=h2 0 (by simp)
 have a1:=h2 1 (by simp)
 have a2:=h2 2 (by simp)
 have a3:=h2 3 (by simp)
 rw[Nat.add_zero] at a0;have f1:=λw=>World.isSome_setCells b [Value.int .i64 0] o w ⟨b,o+1,none⟩
 have f2:=λw=>World.isSome_setCells b [Value.int .i64 0,Value.int .i64 0] o w ⟨b,o+2,none⟩
 have f3:=λw=>World.isSome_setCells b [Value.int .i64 0,Value.int .i64 0,Value.int .i64 0] o w ⟨b,o+3,none⟩
 have b1:=f1 w a1.1;have b2':=f2 w a2.1;have b3:=f3 w a3.1;have c1:=World.frozen?_setCells b [Value.int .i64 0] o w ⟨b,o+1,none⟩;have c2:=World.frozen?_setCells b [Value.int .i64 0,Value.int .i64 0] o w ⟨b,o+2,none⟩;have c3:=World.frozen?_setCells b [Value.int .i64 0,Value.int .i64 0,Value.int .i64 0] o w ⟨b,o+3,none⟩;rw[a1.2] at c1;rw[a2.2] at c2;rw[a3.2] at c3;obtain ⟨u0,g0⟩:=A8.1 a0.1;obtain ⟨u1,g1⟩:=A8.1 b1;obtain ⟨u2,g2⟩:=A8.1 b2';obtain ⟨u3,g3⟩:=A8.1 b3;simp only[World.setCells,Nat.add_assoc,Nat.reduceAdd] at g1 g2 g3 c1 c2 c3;obtain ⟨h5,h6⟩:=h4 0 (by simp)
 rw[Nat.add_zero] at h5 h6;obtain ⟨u,hu0⟩:=A8.1 h5;refine callsD_of_wpS Tryz.func76 rfl λc₀ cs hu=>?_
 apply wpS_seq;apply wpS_region;simp[wpOpsS,go_sem,recoverD,hu,Tryz.ntmps76,Exit.thenS];refine wpS_cond (t:=true) (by simp[Act.eval,Array.replicate]) ?_
 simp only[if_true];apply wpS_region;simp only[World.setCells,Nat.add_assoc,Nat.reduceAdd] at hu0 h6;simp[wpOpsS,go_sem,bodyPostS,results,Tryz.results76,bldX,g0,g1,g2,g3,c1,c2,c3,a0.2,hu0,h6];exact ⟨#[],(Dh _).symm⟩
section
variable (C:Ctx)(cs:Array Value)(fn:Func)
theorem dsemX (hcs:cs.size=2)(h1:C.dfr= [{target:=.fn (.func 76) cs,args:= #[]}])(h2:C.dval= .func (.func 76) #[] cs):DSem Tryz.prog C fn WA:=by
 obtain ⟨v0,v1,rfl⟩: ∃v0 v1,cs= #[v0,v1]:=by
  rcases cs with ⟨l⟩
  match l,hcs with
  | [a,b],_=>exact ⟨a,b,rfl⟩
 refine Ot h1 h2 (λw=>by simp[invoke,go_sem]) (idleX v0 v1) ?_
 intro E v a css e2 hv hs;unfold WA at hs;split at hs
 case h_2=>cases hs
 rename_i t y;obtain rfl:=Ad hs;rw[mB];cases hv with
 |ifc _ u _ hu=>
 refine ⟨wsX,⟨rfl,λj hj=>?_,rfl,λj hj=>?_,trivial⟩,λw ps hps hw=>?_⟩
 ·match j,hj with
  |0,_=>exact ⟨rfl,.int _ _⟩
  |1,_=>exact ⟨rfl,.int _ _⟩
  |2,_=>exact ⟨rfl,.int _ _⟩
  |3,_=>exact ⟨rfl,LeP.nil (P:=Any) 4 E _ trivial (.con _)⟩
 ·match j,hj with
  |0,_=>exact ⟨rfl,.int _ _⟩
 ·obtain ⟨p,q,rfl⟩: ∃p q,ps= [p,q]:=by
   match ps,hps with
   | [p,q],_=>exact ⟨p,q,rfl⟩
  have hv0:v0= .pointer (some p)/\v1= .pointer (some q):=by simpa using hps
  obtain ⟨rfl,rfl⟩:=hv0;exact panX p q _ _ w hw
theorem g516R:me Tryz.prog (N go) Tryz.f32=some YT:=by kernel_rfl
theorem p516 (X:Facts go): ∀args bs t,IP args bs=some t->fq Tryz.prog (N go) 516 args bs t:=by
 intro args bs t h;unfold IP at h;split at h
 ·rename_i s
  split at h
  ·rename_i hs
   obtain rfl:=Ad h;obtain ⟨A,caps,q1,q2,q3,q4⟩:=Mh s hs;exact yT (f:=516) (kf:=578) (gok0 go X) mixed Tryz.func32 (g516R go) rfl (λC cs k0 _ _ k3 k4=>dsemX C cs _ (by rw[k0,q3]) k3 k4) rfl q1 q2 q4
  ·cases h
 ·cases h
theorem gok1 (X:Facts go):GOk Tryz.prog (N go) G:=uv λf=>ay (λe=>by
 obtain rfl:=Nat.eq_of_beq_eq_true e;exact ⟨⟨_,Tryz.func32,by kernel_rfl,by decide⟩,p516 go X⟩) λ_=>gok0 go X f
theorem ta0 (w:World):(Instr.typeAssert .nilIface 20 138 true).run Tryz.prog w= .ok (.tuple #[.agg #[.int .i64 0],.bool false]) w:=by
 simp[Instr.typeAssert,go_sem]
theorem ta1 (v:Value)(w:World):(Instr.typeAssert (.iface 138 v) 20 138 true).run Tryz.prog w= .ok (.tuple #[v,.bool true]) w:=by
 simp[Instr.typeAssert,go_sem]
theorem idleR (v0:Value)(w:World):
  CallsD Tryz.prog 97 #[v0] .returning w λe u' w'=>e= .returned (.tuple #[])/\u'= .returning/\ ∃os,w'=more w os:=by
 refine callsD_of_wpS Tryz.func97 rfl λc₀ cs hu=>?_
 apply wpS_seq;apply wpS_region;simp[wpOpsS,go_sem,recoverD,hu,Tryz.ntmps97,Exit.thenS,ta0];apply wpS_seq;apply wpS_region;simp[wpOpsS,go_sem,Exit.thenS];refine wpS_cond (t:=false) (by simp[Act.eval,Array.replicate]) ?_
 simp only[AR,if_false];refine wpS_of_wp (wp_skip ?_);cases c₀;simp_all[bodyPostS,results,Tryz.results97,oz];exact ⟨_,rfl⟩
theorem panR (p:Addr)(x:Int)(w:World)(hc:(w.cell? p).isSome=true)(hz:w.frozen? p=false):
  CallsD Tryz.prog 97 #[.pointer (some p)] (.panicking [{v:=.iface 138 (.agg #[.int .i64 x]),recovered:=false}]) w λe u' w'=>
   e= .returned (.tuple #[])/\u'= .panicking [{v:=.iface 138 (.agg #[.int .i64 x]),recovered:=true}]/\ ∃os,w'=more (w.setCell p (.int .i64 x)) os:=by
 obtain ⟨u,hu0⟩:=A8.1 hc;have h1: ∀o,(w.alloc o).cell? p=some u:=λo=>by rw[oz,VL hc,hu0]
 have h2: ∀o,(w.alloc o).frozen? p=false:=λo=>by rw[oz,Nb hc,hz]
 have h3: ∀o v,(w.alloc o).setCell p v=more (w.setCell p v) #[o]:=λo v=>by rw[oz,WB (NX hc)]
 refine callsD_of_wpS Tryz.func97 rfl λc₀ cs hu=>?_
 apply wpS_seq;apply wpS_region;simp[wpOpsS,go_sem,recoverD,hu,Tryz.ntmps97,Exit.thenS,ta1];apply wpS_seq;apply wpS_region;simp[wpOpsS,go_sem,Exit.thenS];refine wpS_cond (t:=true) (by simp[Act.eval,Array.replicate]) ?_
 simp only[if_true];apply wpS_region;simp[wpOpsS,go_sem,h1,h2,bodyPostS,results,Tryz.results97,h3];exact ⟨_,rfl⟩
theorem dsemR (hcs:cs.size=1)(ht:C.tnum=id)(h1:C.dfr= [{target:=.fn (.func 97) cs,args:= #[]}])(h2:C.dval= .func (.func 97) #[] cs):DSem Tryz.prog C fn OY:=by
 obtain ⟨v0,rfl⟩: ∃v,cs= #[v]:=by
  rcases cs with ⟨l⟩
  match l,hcs with
  | [v],_=>exact ⟨v,rfl⟩
 refine Ot h1 h2 (λw=>by simp[invoke,go_sem]) (idleR v0) ?_
 intro E v a css e2 hv hs;unfold OY at hs;split at hs
 case h_2=>cases hs
 rename_i t e;split at hs
 case isFalse=>cases hs
 rename_i htt;subst htt;obtain rfl:=Ad hs;rw[ht] at e2;cases hv with
 |ifc _ u _ hu=>
 obtain ⟨us,rfl,u1,u2,u3⟩:=hu.agg_inv;have u4:=(u3 0 (by simp)).int_inv
 obtain rfl:us= #[.int .i64 e]:=by
  rcases us with ⟨l⟩
  match l,u1 with
  | [y],_=>simp at u4;rw[u4]
 refine ⟨[[.int .i64 e]],⟨rfl,λj hj=>?_,trivial⟩,λw ps hps hw=>?_⟩
 ·obtain rfl:j=0:=by simpa using hj
  exact ⟨rfl,.int _ _⟩
 ·obtain ⟨⟨b,o,sp⟩,rfl⟩: ∃p,ps= [p]:=by
   match ps,hps with
   | [p],_=>exact ⟨p,rfl⟩
  obtain ⟨w1,w2,_⟩:=hw;dsimp only at w1 w2;subst w1;obtain ⟨q1,q2⟩:=w2 0 (by simp)
  have hv0:v0= .pointer (some ⟨b,o,none⟩):=by simpa using hps
  subst hv0;rw[e2];exact panR ⟨b,o,none⟩ e w q1 q2
end
theorem g466R:me Tryz.prog (N go) Tryz.f53=some Qz:=by kernel_rfl
section
variable (X:Facts go)
include X
theorem p466: ∀args bs t,pRd args bs=some t->fq Tryz.prog (N go) 466 args bs t:=
 Xn (gok1 go X) mixed (fn:=Tryz.f53) Tryz.func53 (g466R go) λC cs h0 _ h2 h3 h4=>dsemR C cs _ h0 h2 h3 h4
theorem gokR:GOk Tryz.prog (N go) GR:=uv λf=>ay (λe=>by
 obtain rfl:=Nat.eq_of_beq_eq_true e;exact ⟨⟨_,Tryz.func53,by kernel_rfl,by decide⟩,p466 go X⟩) λ_=>gok1 go X f
theorem p418: ∀args bs t,IQ args bs=some t->fq Tryz.prog (N go) 418 args bs t:=λ_ _ _ h=>jX (gokR go X) mixed (acA h)
theorem gokA:GOk Tryz.prog (N go) GA:=uv λf=>ay (λe=>by
 obtain rfl:=Nat.eq_of_beq_eq_true e;exact ⟨⟨_,Tryz.func15,by kernel_rfl,by decide⟩,p418 go X⟩) λ_=>gok1 go X f
theorem gok:GOk Tryz.prog (N go) GL:=uv λf=>ay (λe=>by
 obtain rfl:=Nat.eq_of_beq_eq_true e;exact ⟨⟨_,Tryz.func15,by kernel_rfl,by decide⟩,λ_ _ _ h=>p418 go X _ _ _ h⟩) λ_=>ay (λe=>by
 obtain rfl:=Nat.eq_of_beq_eq_true e;exact ⟨⟨_,Tryz.func17,by kernel_rfl,by decide⟩,λ_ _ _ h=>by obtain ⟨rfl,q⟩:=IV h;exact jX (gok1 go X) mixed (ab6 q)⟩) λ_=>ay (λe=>by
 obtain rfl:=Nat.eq_of_beq_eq_true e;exact ⟨⟨_,Tryz.func16,by kernel_rfl,by decide⟩,λ_ _ _ h=>by obtain ⟨rfl,q⟩:=IV h;exact jX (gok1 go X) mixed (ab5 q)⟩) λ_=>ay (λe=>by
 obtain rfl:=Nat.eq_of_beq_eq_true e;exact ⟨⟨_,Tryz.func10,by kernel_rfl,by decide⟩,λ_ _ _ h=>by obtain ⟨rfl,rfl,rfl⟩:=IV h;exact jX (gokA go X) mixed adL⟩) λ_=>gok1 go X f
end
end
theorem laid:laidOutB Tryz.prog=true:=by kernel_rfl
theorem own:ownKnob Tryz.prog.godebug=none:=by kernel_rfl
theorem one_le (l:Lit)(H:Type):1<=Rows.uptoBulk (DataW.lit (H:=H) l):=by cases l<;>simp[Rows.uptoBulk]
def B:Bulk where
 f:=Rows.uptoBulk
 g:=Rows.uptoBulkAll
 str _:=by simp[Rows.uptoBulk]
 lit l:=one_le l _
 nil:=by simp[Rows.uptoBulk]
 slice _ _:=by simp[Rows.uptoBulk]
 agg _:=by simp[Rows.uptoBulk]
 none:=by simp[Rows.uptoBulkAll]
 cons _ _:=by simp[Rows.uptoBulkAll]
/-- The variables, as the world holds them. -/
def goW (W:World)(g:Nat):Option Obj:=W.heap[g]?
end Go.Proofs.YtomphmeopjpejaaGreatDoor.tie
