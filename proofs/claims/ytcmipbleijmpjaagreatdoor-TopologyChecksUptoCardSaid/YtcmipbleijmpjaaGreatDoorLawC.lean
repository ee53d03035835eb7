/- What this seat's program has to do with the functions of the abstract machine: function by function the same code, or a contract of the library. -/
import Derived.Test.YtcmipbleijmpjaaGreatDoorDataB
import Derived.Test.YtcmipbleijmpjaaGreatDoorContractsA
import Derived.Test.YtcmipbleijmpjaaGreatDoorLawB
import Derived.Test.YtcmipbleijmpjaaGreatDoorRows
import Derived.Test.YtcmipbleijmpjaaGreatDoorDataF
import Derived.Test.YtcmipbleijmpjaaGreatDoorMachineC
import Derived.Tactics
import Derived.Tactics2
import Derived.Laws.Pointers
set_option linter.unusedVariables false
set_option linter.unusedSimpArgs false
namespace Go.Proofs.YtcmipbleijmpjaaGreatDoor.tie
open Go Go.AM Go.AM.IR Go.Proofs
set_option maxRecDepth 100000
abbrev GO:=Nat→Option Obj
noncomputable abbrev cF (i:Nat) (raw:Bool) (go:GO):Option AFunc:=(Tryz.prog.funcs[i]?).bind (jO Tryz.prog (N go) raw)
theorem c41 (go:GO):cF 73 false go=some f41:=by kernel_rfl
theorem c43 (go:GO):cF 74 false go=some f43:=by kernel_rfl
theorem c56 (go:GO):cF 139 false go=some f56:=by kernel_rfl
theorem c172 (go:GO):cF 75 false go=some f172:=by kernel_rfl
theorem c178 (go:GO):cF 72 false go=some zq:=by kernel_rfl
theorem c179 (go:GO):cF 49 false go=some zp:=by kernel_rfl
theorem c180 (go:GO):cF 87 false go=some vE:=by kernel_rfl
theorem c181 (go:GO):cF 138 false go=some Y6:=by kernel_rfl
theorem c182 (go:GO):cF 93 false go=some Y5:=by kernel_rfl
theorem c183 (go:GO):cF 191 false go=some YY:=by kernel_rfl
theorem c184 (go:GO):cF 156 false go=some zo:=by kernel_rfl
theorem c185 (go:GO):cF 157 false go=some YX:=by kernel_rfl
theorem c186 (go:GO):cF 224 false go=some zn:=by kernel_rfl
theorem c227 (go:GO):cF 62 (AFunc.raw f227) go=some f227:=by kernel_rfl
theorem c229 (go:GO):cF 61 (AFunc.raw f229) go=some f229:=by kernel_rfl
theorem c231 (go:GO):cF 104 (AFunc.raw f231) go=some f231:=by kernel_rfl
theorem c233 (go:GO):cF 102 (AFunc.raw f233) go=some f233:=by kernel_rfl
theorem c235 (go:GO):cF 189 false go=some Rk:=by kernel_rfl
theorem c237 (go:GO):cF 190 false go=some JQ:=by kernel_rfl
theorem c241 (go:GO):cF 137 false go=some f241:=by kernel_rfl
theorem c245 (go:GO):cF 223 false go=some f245:=by kernel_rfl
theorem c250 (go:GO):cF 162 (AFunc.raw f250) go=some f250:=by kernel_rfl
theorem c325 (go:GO):cF 120 false go=some JP:=by kernel_rfl
theorem c326 (go:GO):cF 149 false go=some vD:=by kernel_rfl
theorem c337 (go:GO):cF 33 false go=some f337:=by kernel_rfl
theorem c338 (go:GO):cF 229 false go=some f338:=by kernel_rfl
theorem c339 (go:GO):cF 52 (AFunc.raw f339) go=some f339:=by kernel_rfl
theorem c344 (go:GO):cF 252 false go=some JO:=by kernel_rfl
theorem c346 (go:GO):cF 98 false go=some Rj:=by kernel_rfl
theorem c347 (go:GO):cF 160 false go=some zm:=by kernel_rfl
theorem c369 (go:GO):cF 3 false go=some Ri:=by kernel_rfl
theorem c377 (go:GO):cF 6 false go=some kU:=by kernel_rfl
theorem c378 (go:GO):cF 7 false go=some f378:=by kernel_rfl
theorem c379 (go:GO):cF 8 false go=some JM:=by kernel_rfl
theorem c380 (go:GO):cF 9 false go=some JI:=by kernel_rfl
theorem c381 (go:GO):cF 14 (AFunc.raw f381) go=some f381:=by kernel_rfl
theorem c383 (go:GO):cF 13 (AFunc.raw f383) go=some f383:=by kernel_rfl
theorem c386 (go:GO):cF 15 false go=some f386:=by kernel_rfl
theorem c387 (go:GO):cF 44 false go=some YT:=by kernel_rfl
theorem c389 (go:GO):cF 10 false go=some f389:=by kernel_rfl
theorem c390 (go:GO):cF 11 false go=some f390:=by kernel_rfl
theorem c395 (go:GO):cF 12 false go=some nB:=by kernel_rfl
theorem c396 (go:GO):cF 16 false go=some Rh:=by kernel_rfl
theorem c397 (go:GO):cF 17 false go=some vr:=by kernel_rfl
theorem c398 (go:GO):cF 18 false go=some zl:=by kernel_rfl
theorem c399 (go:GO):cF 19 false go=some YO:=by kernel_rfl
theorem c400 (go:GO):cF 20 false go=some YN:=by kernel_rfl
theorem c401 (go:GO):cF 21 false go=some vl:=by kernel_rfl
theorem c402 (go:GO):cF 28 (AFunc.raw f402) go=some f402:=by kernel_rfl
theorem c403 (go:GO):cF 29 (AFunc.raw f403) go=some f403:=by kernel_rfl
theorem c405 (go:GO):cF 31 (AFunc.raw f405) go=some f405:=by kernel_rfl
theorem c406 (go:GO):cF 32 (AFunc.raw f406) go=some f406:=by kernel_rfl
theorem c408 (go:GO):cF 35 (AFunc.raw f408) go=some f408:=by kernel_rfl
theorem c416 (go:GO):cF 24 (AFunc.raw f416) go=some f416:=by kernel_rfl
theorem c417 (go:GO):cF 25 (AFunc.raw f417) go=some f417:=by kernel_rfl
theorem c419 (go:GO):cF 27 (AFunc.raw f419) go=some f419:=by kernel_rfl
theorem c425 (go:GO):cF 22 false go=some f425:=by kernel_rfl
theorem c426 (go:GO):cF 42 false go=some vj:=by kernel_rfl
theorem c429 (go:GO):cF 51 false go=some vi:=by kernel_rfl
theorem c435 (go:GO):cF 23 false go=some YM:=by kernel_rfl
theorem c436 (go:GO):cF 36 false go=some YK:=by kernel_rfl
theorem c437 (go:GO):cF 37 false go=some r9:=by kernel_rfl
theorem c438 (go:GO):cF 38 false go=some vg:=by kernel_rfl
theorem c439 (go:GO):cF 39 false go=some Jw:=by kernel_rfl
theorem c440 (go:GO):cF 40 false go=some YI:=by kernel_rfl
theorem c441 (go:GO):cF 41 false go=some Yy:=by kernel_rfl
theorem c442 (go:GO):cF 43 false go=some Yx:=by kernel_rfl
theorem c443 (go:GO):cF 45 false go=some vc:=by kernel_rfl
theorem c444 (go:GO):cF 46 false go=some u9:=by kernel_rfl
theorem c445 (go:GO):cF 47 false go=some mb:=by kernel_rfl
theorem c446 (go:GO):cF 48 false go=some Jo:=by kernel_rfl
theorem c447 (go:GO):cF 50 false go=some Yv:=by kernel_rfl
theorem c448 (go:GO):cF 60 (AFunc.raw f448) go=some f448:=by kernel_rfl
theorem c451 (go:GO):cF 65 false go=some Jl:=by kernel_rfl
theorem c460 (go:GO):cF 53 (AFunc.raw f460) go=some f460:=by kernel_rfl
theorem c461 (go:GO):cF 54 (AFunc.raw f461) go=some f461:=by kernel_rfl
theorem c462 (go:GO):cF 55 (AFunc.raw f462) go=some f462:=by kernel_rfl
theorem c463 (go:GO):cF 56 (AFunc.raw f463) go=some f463:=by kernel_rfl
theorem c465 (go:GO):cF 58 (AFunc.raw f465) go=some f465:=by kernel_rfl
theorem c490 (go:GO):cF 71 false go=some Yu:=by kernel_rfl
theorem c491 (go:GO):cF 76 false go=some jH:=by kernel_rfl
theorem c492 (go:GO):cF 77 false go=some fh:=by kernel_rfl
theorem c493 (go:GO):cF 78 false go=some ny:=by kernel_rfl
theorem c494 (go:GO):cF 79 false go=some zk:=by kernel_rfl
theorem c495 (go:GO):cF 80 false go=some Jg:=by kernel_rfl
theorem c496 (go:GO):cF 81 false go=some Yp:=by kernel_rfl
theorem c497 (go:GO):cF 82 false go=some Rf:=by kernel_rfl
theorem c498 (go:GO):cF 83 false go=some Re:=by kernel_rfl
theorem c499 (go:GO):cF 84 false go=some Rc:=by kernel_rfl
theorem c500 (go:GO):cF 85 false go=some r8:=by kernel_rfl
theorem c501 (go:GO):cF 86 false go=some Rb:=by kernel_rfl
theorem c502 (go:GO):cF 88 false go=some nx:=by kernel_rfl
theorem c503 (go:GO):cF 89 false go=some zh:=by kernel_rfl
theorem c504 (go:GO):cF 90 false go=some I8:=by kernel_rfl
theorem c505 (go:GO):cF 91 false go=some I7:=by kernel_rfl
theorem c506 (go:GO):cF 92 false go=some Yo:=by kernel_rfl
theorem c507 (go:GO):cF 114 false go=some Ym:=by kernel_rfl
theorem c508 (go:GO):cF 115 false go=some oT:=by kernel_rfl
theorem c509 (go:GO):cF 116 false go=some Yk:=by kernel_rfl
theorem c510 (go:GO):cF 117 false go=some Yj:=by kernel_rfl
theorem c511 (go:GO):cF 118 false go=some IY:=by kernel_rfl
theorem c512 (go:GO):cF 119 false go=some Yi:=by kernel_rfl
theorem c513 (go:GO):cF 121 false go=some Yh:=by kernel_rfl
theorem c514 (go:GO):cF 122 false go=some Yg:=by kernel_rfl
theorem c515 (go:GO):cF 123 false go=some Yf:=by kernel_rfl
theorem c517 (go:GO):cF 125 false go=some Ye:=by kernel_rfl
theorem c518 (go:GO):cF 126 false go=some Yd:=by kernel_rfl
theorem c519 (go:GO):cF 127 false go=some Yc:=by kernel_rfl
theorem c520 (go:GO):cF 128 false go=some IW:=by kernel_rfl
theorem c521 (go:GO):cF 129 false go=some Yb:=by kernel_rfl
theorem c522 (go:GO):cF 130 false go=some Ya:=by kernel_rfl
theorem c523 (go:GO):cF 131 false go=some XZ:=by kernel_rfl
theorem c530 (go:GO):cF 96 (AFunc.raw f530) go=some f530:=by kernel_rfl
theorem c531 (go:GO):cF 97 (AFunc.raw f531) go=some f531:=by kernel_rfl
theorem c532 (go:GO):cF 99 (AFunc.raw f532) go=some f532:=by kernel_rfl
theorem c533 (go:GO):cF 100 (AFunc.raw f533) go=some f533:=by kernel_rfl
theorem c534 (go:GO):cF 101 (AFunc.raw f534) go=some f534:=by kernel_rfl
theorem c535 (go:GO):cF 103 (AFunc.raw f535) go=some f535:=by kernel_rfl
theorem c537 (go:GO):cF 106 (AFunc.raw f537) go=some f537:=by kernel_rfl
theorem c538 (go:GO):cF 107 (AFunc.raw f538) go=some f538:=by kernel_rfl
theorem c561 (go:GO):cF 136 false go=some nv:=by kernel_rfl
theorem c562 (go:GO):cF 140 false go=some IV:=by kernel_rfl
theorem c563 (go:GO):cF 141 false go=some XX:=by kernel_rfl
theorem c564 (go:GO):cF 142 false go=some uQ:=by kernel_rfl
theorem c565 (go:GO):cF 143 false go=some r6:=by kernel_rfl
theorem c566 (go:GO):cF 144 false go=some XV:=by kernel_rfl
theorem c567 (go:GO):cF 145 false go=some IP:=by kernel_rfl
theorem c568 (go:GO):cF 146 false go=some Ra:=by kernel_rfl
theorem c569 (go:GO):cF 147 false go=some XU:=by kernel_rfl
theorem c570 (go:GO):cF 148 false go=some zf:=by kernel_rfl
theorem c571 (go:GO):cF 150 false go=some uM:=by kernel_rfl
theorem c572 (go:GO):cF 151 false go=some uL:=by kernel_rfl
theorem c573 (go:GO):cF 152 false go=some XQ:=by kernel_rfl
theorem c574 (go:GO):cF 153 false go=some bH:=by kernel_rfl
theorem c575 (go:GO):cF 154 false go=some bR:=by kernel_rfl
theorem c576 (go:GO):cF 155 false go=some j9:=by kernel_rfl
theorem c577 (go:GO):cF 181 false go=some ze:=by kernel_rfl
theorem c579 (go:GO):cF 183 false go=some IM:=by kernel_rfl
theorem c580 (go:GO):cF 184 false go=some QZ:=by kernel_rfl
theorem c581 (go:GO):cF 185 false go=some QY:=by kernel_rfl
theorem c582 (go:GO):cF 177 false go=some QX:=by kernel_rfl
theorem c594 (go:GO):cF 173 false go=some e7:=by kernel_rfl
theorem c596 (go:GO):cF 175 false go=some iq:=by kernel_rfl
theorem c612 (go:GO):cF 188 false go=some IL:=by kernel_rfl
theorem c613 (go:GO):cF 192 false go=some IK:=by kernel_rfl
theorem c614 (go:GO):cF 193 false go=some ma:=by kernel_rfl
theorem c615 (go:GO):cF 194 false go=some IJ:=by kernel_rfl
theorem c616 (go:GO):cF 195 false go=some Xy:=by kernel_rfl
theorem c617 (go:GO):cF 196 false go=some Xw:=by kernel_rfl
theorem c618 (go:GO):cF 197 false go=some Xv:=by kernel_rfl
theorem c619 (go:GO):cF 198 false go=some uJ:=by kernel_rfl
theorem c620 (go:GO):cF 199 false go=some Xu:=by kernel_rfl
theorem c621 (go:GO):cF 200 false go=some Xp:=by kernel_rfl
theorem c622 (go:GO):cF 201 false go=some Xn:=by kernel_rfl
theorem c623 (go:GO):cF 211 false go=some Xl:=by kernel_rfl
theorem c624 (go:GO):cF 214 false go=some QW:=by kernel_rfl
theorem c625 (go:GO):cF 215 false go=some QV:=by kernel_rfl
theorem c626 (go:GO):cF 216 false go=some Xg:=by kernel_rfl
theorem c627 (go:GO):cF 217 false go=some l9:=by kernel_rfl
theorem c630 (go:GO):cF 209 false go=some Xf:=by kernel_rfl
theorem c641 (go:GO):cF 225 false go=some Xc:=by kernel_rfl
theorem c642 (go:GO):cF 226 false go=some IC:=by kernel_rfl
theorem c643 (go:GO):cF 227 false go=some zc:=by kernel_rfl
theorem c644 (go:GO):cF 228 false go=some gq:=by kernel_rfl
theorem c645 (go:GO):cF 230 false go=some Xa:=by kernel_rfl
theorem c646 (go:GO):cF 242 false go=some uI:=by kernel_rfl
theorem c647 (go:GO):cF 243 false go=some y9:=by kernel_rfl
theorem c648 (go:GO):cF 244 false go=some QU:=by kernel_rfl
theorem c651 (go:GO):cF 250 false go=some uH:=by kernel_rfl
theorem c652 (go:GO):cF 251 false go=some db:=by kernel_rfl
theorem c653 (go:GO):cF 261 false go=some jG:=by kernel_rfl
theorem c654 (go:GO):cF 262 false go=some uG:=by kernel_rfl
theorem c655 (go:GO):cF 263 false go=some uF:=by kernel_rfl
theorem c656 (go:GO):cF 266 false go=some jg:=by kernel_rfl
theorem c657 (go:GO):cF 270 false go=some W8:=by kernel_rfl
theorem c658 (go:GO):cF 271 false go=some QT:=by kernel_rfl
theorem c659 (go:GO):cF 272 false go=some nu:=by kernel_rfl
theorem c660 (go:GO):cF 273 false go=some y8:=by kernel_rfl
theorem c661 (go:GO):cF 274 false go=some W6:=by kernel_rfl
/-- What the contracts ask of the world. -/
structure Facts (go:Nat→Option Obj):Prop where
 pow:TabAt Tryz.prog (N go) "internal/strconv.uint64pow10" .u64 Lib.pow10Tab
 max:IntAt (N go) 0
 esyn:ErrAt (N go) 4
 eran:ErrAt (N go) 5
theorem p246 (go:Nat→Option Obj) (X:Facts go): ∀args bs t,Eu args bs=some t→fb Tryz.prog (N go) 246 args bs t:=SB Tryz.laysM171 rfl X.pow
theorem p247 (go:Nat→Option Obj) (X:Facts go): ∀args bs t,Eo args bs=some t→fb Tryz.prog (N go) 247 args bs t:=SA Tryz.lays156 Tryz.Builder_Extra_156 rfl
theorem p249 (go:Nat→Option Obj) (X:Facts go): ∀args bs t,wY args bs=some t→fb Tryz.prog (N go) 249 args bs t:=Qg Tryz.lays146 (by kernel_rfl) rfl X.max
theorem p252 (go:Nat→Option Obj) (X:Facts go): ∀args bs t,QC args bs=some t→fb Tryz.prog (N go) 252 args bs t:=Zh Tryz.lays145 rfl X.max
theorem p263 (go:Nat→Option Obj) (X:Facts go): ∀args bs t,(Ew 337) args bs=some t→fb Tryz.prog (N go) 263 args bs t:=U7 Tryz.laysC172 rfl rfl X.esyn X.eran
theorem p345 (go:Nat→Option Obj) (X:Facts go): ∀args bs t,n7 args bs=some t→fb Tryz.prog (N go) 345 args bs t:=DX Tryz.lays144 rfl X.max
theorem mixed:Tryz.prog.follows .mixedOrders=true:=by kernel_rfl
theorem gok0 (go:Nat→Option Obj) (X:Facts go):GOk Tryz.prog (N go) G0:=Ij fun f=>aw (fun _=>aw (fun _=>aw (fun _=>aw (fun _=>aw (fun _=>aw (fun _=>aw (fun _=>au rfl (c41 go)) fun _=>au rfl (c43 go)) fun _=>aw (fun _=>au rfl (c56 go)) fun _=>aw (fun _=>au rfl (c172 go)) fun _=>au rfl (c178 go)) fun _=>aw (fun _=>aw (fun _=>au rfl (c179 go)) fun _=>aw (fun _=>au rfl (c180 go)) fun _=>au rfl (c181 go)) fun _=>aw (fun _=>au rfl (c182 go)) fun _=>aw (fun _=>au rfl (c183 go)) fun _=>au rfl (c184 go)) fun _=>aw (fun _=>aw (fun _=>aw (fun _=>au rfl (c185 go)) fun _=>aw (fun _=>au rfl (c186 go)) fun _=>au rfl (c227 go)) fun _=>aw (fun _=>au rfl (c229 go)) fun _=>aw (fun _=>au rfl (c231 go)) fun _=>au rfl (c233 go)) fun _=>aw (fun _=>aw (fun _=>au rfl (c235 go)) fun _=>aw (fun _=>au rfl (c237 go)) fun _=>au rfl (c241 go)) fun _=>aw (fun _=>au rfl (c245 go)) fun _=>aw (fun _=>kH rfl ⟨_,Tryz.func70,by kernel_rfl,by decide⟩ (p246 go X)) fun _=>kH rfl ⟨_,Tryz.func113,by kernel_rfl,by decide⟩ (p247 go X)) fun _=>aw (fun _=>aw (fun _=>aw (fun _=>aw (fun _=>kH rfl ⟨_,Tryz.func95,by kernel_rfl,by decide⟩ (p249 go X)) fun _=>au rfl (c250 go)) fun _=>aw (fun _=>kH rfl ⟨_,Tryz.func161,by kernel_rfl,by decide⟩ (p252 go X)) fun _=>aw (fun _=>kH rfl ⟨_,Tryz.func206,by kernel_rfl,by decide⟩ (p263 go X)) fun _=>au rfl (c325 go)) fun _=>aw (fun _=>aw (fun _=>au rfl (c326 go)) fun _=>aw (fun _=>au rfl (c337 go)) fun _=>au rfl (c338 go)) fun _=>aw (fun _=>au rfl (c339 go)) fun _=>aw (fun _=>au rfl (c344 go)) fun _=>kH rfl ⟨_,Tryz.func94,by kernel_rfl,by decide⟩ (p345 go X)) fun _=>aw (fun _=>aw (fun _=>aw (fun _=>au rfl (c346 go)) fun _=>aw (fun _=>au rfl (c347 go)) fun _=>au rfl (c369 go)) fun _=>aw (fun _=>au rfl (c377 go)) fun _=>aw (fun _=>au rfl (c378 go)) fun _=>au rfl (c379 go)) fun _=>aw (fun _=>aw (fun _=>au rfl (c380 go)) fun _=>aw (fun _=>au rfl (c381 go)) fun _=>au rfl (c383 go)) fun _=>aw (fun _=>au rfl (c386 go)) fun _=>aw (fun _=>au rfl (c387 go)) fun _=>au rfl (c389 go)) fun _=>aw (fun _=>aw (fun _=>aw (fun _=>aw (fun _=>aw (fun _=>au rfl (c390 go)) fun _=>au rfl (c395 go)) fun _=>aw (fun _=>au rfl (c396 go)) fun _=>aw (fun _=>au rfl (c397 go)) fun _=>au rfl (c398 go)) fun _=>aw (fun _=>aw (fun _=>au rfl (c399 go)) fun _=>aw (fun _=>au rfl (c400 go)) fun _=>au rfl (c401 go)) fun _=>aw (fun _=>au rfl (c402 go)) fun _=>aw (fun _=>au rfl (c403 go)) fun _=>au rfl (c405 go)) fun _=>aw (fun _=>aw (fun _=>aw (fun _=>au rfl (c406 go)) fun _=>aw (fun _=>au rfl (c408 go)) fun _=>au rfl (c416 go)) fun _=>aw (fun _=>au rfl (c417 go)) fun _=>aw (fun _=>au rfl (c419 go)) fun _=>au rfl (c425 go)) fun _=>aw (fun _=>aw (fun _=>au rfl (c426 go)) fun _=>aw (fun _=>au rfl (c429 go)) fun _=>au rfl (c435 go)) fun _=>aw (fun _=>au rfl (c436 go)) fun _=>aw (fun _=>au rfl (c437 go)) fun _=>au rfl (c438 go)) fun _=>aw (fun _=>aw (fun _=>aw (fun _=>aw (fun _=>au rfl (c439 go)) fun _=>au rfl (c440 go)) fun _=>aw (fun _=>au rfl (c441 go)) fun _=>aw (fun _=>au rfl (c442 go)) fun _=>au rfl (c443 go)) fun _=>aw (fun _=>aw (fun _=>au rfl (c444 go)) fun _=>aw (fun _=>au rfl (c445 go)) fun _=>au rfl (c446 go)) fun _=>aw (fun _=>au rfl (c447 go)) fun _=>aw (fun _=>au rfl (c448 go)) fun _=>au rfl (c451 go)) fun _=>aw (fun _=>aw (fun _=>aw (fun _=>au rfl (c460 go)) fun _=>aw (fun _=>au rfl (c461 go)) fun _=>au rfl (c462 go)) fun _=>aw (fun _=>au rfl (c463 go)) fun _=>aw (fun _=>au rfl (c465 go)) fun _=>au rfl (c490 go)) fun _=>aw (fun _=>aw (fun _=>au rfl (c491 go)) fun _=>aw (fun _=>au rfl (c492 go)) fun _=>au rfl (c493 go)) fun _=>aw (fun _=>au rfl (c494 go)) fun _=>aw (fun _=>au rfl (c495 go)) fun _=>au rfl (c496 go)) fun _=>aw (fun _=>aw (fun _=>aw (fun _=>aw (fun _=>aw (fun _=>aw (fun _=>au rfl (c497 go)) fun _=>au rfl (c498 go)) fun _=>aw (fun _=>au rfl (c499 go)) fun _=>aw (fun _=>au rfl (c500 go)) fun _=>au rfl (c501 go)) fun _=>aw (fun _=>aw (fun _=>au rfl (c502 go)) fun _=>aw (fun _=>au rfl (c503 go)) fun _=>au rfl (c504 go)) fun _=>aw (fun _=>au rfl (c505 go)) fun _=>aw (fun _=>au rfl (c506 go)) fun _=>au rfl (c507 go)) fun _=>aw (fun _=>aw (fun _=>aw (fun _=>au rfl (c508 go)) fun _=>aw (fun _=>au rfl (c509 go)) fun _=>au rfl (c510 go)) fun _=>aw (fun _=>au rfl (c511 go)) fun _=>aw (fun _=>au rfl (c512 go)) fun _=>au rfl (c513 go)) fun _=>aw (fun _=>aw (fun _=>au rfl (c514 go)) fun _=>aw (fun _=>au rfl (c515 go)) fun _=>au rfl (c517 go)) fun _=>aw (fun _=>au rfl (c518 go)) fun _=>aw (fun _=>au rfl (c519 go)) fun _=>au rfl (c520 go)) fun _=>aw (fun _=>aw (fun _=>aw (fun _=>aw (fun _=>au rfl (c521 go)) fun _=>au rfl (c522 go)) fun _=>aw (fun _=>au rfl (c523 go)) fun _=>aw (fun _=>au rfl (c530 go)) fun _=>au rfl (c531 go)) fun _=>aw (fun _=>aw (fun _=>au rfl (c532 go)) fun _=>aw (fun _=>au rfl (c533 go)) fun _=>au rfl (c534 go)) fun _=>aw (fun _=>au rfl (c535 go)) fun _=>aw (fun _=>au rfl (c537 go)) fun _=>au rfl (c538 go)) fun _=>aw (fun _=>aw (fun _=>aw (fun _=>au rfl (c561 go)) fun _=>aw (fun _=>au rfl (c562 go)) fun _=>au rfl (c563 go)) fun _=>aw (fun _=>au rfl (c564 go)) fun _=>aw (fun _=>au rfl (c565 go)) fun _=>au rfl (c566 go)) fun _=>aw (fun _=>aw (fun _=>au rfl (c567 go)) fun _=>aw (fun _=>au rfl (c568 go)) fun _=>au rfl (c569 go)) fun _=>aw (fun _=>au rfl (c570 go)) fun _=>aw (fun _=>au rfl (c571 go)) fun _=>au rfl (c572 go)) fun _=>aw (fun _=>aw (fun _=>aw (fun _=>aw (fun _=>aw (fun _=>au rfl (c573 go)) fun _=>au rfl (c574 go)) fun _=>aw (fun _=>au rfl (c575 go)) fun _=>aw (fun _=>au rfl (c576 go)) fun _=>au rfl (c577 go)) fun _=>aw (fun _=>aw (fun _=>au rfl (c579 go)) fun _=>aw (fun _=>au rfl (c580 go)) fun _=>au rfl (c581 go)) fun _=>aw (fun _=>au rfl (c582 go)) fun _=>aw (fun _=>au rfl (c594 go)) fun _=>au rfl (c596 go)) fun _=>aw (fun _=>aw (fun _=>aw (fun _=>au rfl (c612 go)) fun _=>aw (fun _=>au rfl (c613 go)) fun _=>au rfl (c614 go)) fun _=>aw (fun _=>au rfl (c615 go)) fun _=>aw (fun _=>au rfl (c616 go)) fun _=>au rfl (c617 go)) fun _=>aw (fun _=>aw (fun _=>au rfl (c618 go)) fun _=>aw (fun _=>au rfl (c619 go)) fun _=>au rfl (c620 go)) fun _=>aw (fun _=>au rfl (c621 go)) fun _=>aw (fun _=>au rfl (c622 go)) fun _=>au rfl (c623 go)) fun _=>aw (fun _=>aw (fun _=>aw (fun _=>aw (fun _=>au rfl (c624 go)) fun _=>aw (fun _=>au rfl (c625 go)) fun _=>au rfl (c626 go)) fun _=>aw (fun _=>au rfl (c627 go)) fun _=>aw (fun _=>au rfl (c630 go)) fun _=>au rfl (c641 go)) fun _=>aw (fun _=>aw (fun _=>au rfl (c642 go)) fun _=>aw (fun _=>au rfl (c643 go)) fun _=>au rfl (c644 go)) fun _=>aw (fun _=>au rfl (c645 go)) fun _=>aw (fun _=>au rfl (c646 go)) fun _=>au rfl (c647 go)) fun _=>aw (fun _=>aw (fun _=>aw (fun _=>au rfl (c648 go)) fun _=>aw (fun _=>au rfl (c651 go)) fun _=>au rfl (c652 go)) fun _=>aw (fun _=>au rfl (c653 go)) fun _=>aw (fun _=>au rfl (c654 go)) fun _=>au rfl (c655 go)) fun _=>aw (fun _=>aw (fun _=>au rfl (c656 go)) fun _=>aw (fun _=>au rfl (c657 go)) fun _=>au rfl (c658 go)) fun _=>aw (fun _=>au rfl (c659 go)) fun _=>aw (fun _=>au rfl (c660 go)) fun _=>au rfl (c661 go)
theorem idleX (v0 v1:Value) (w:World):
  CallsD Tryz.prog 182 #[v0,v1] .returning w fun e u' w'=>e= .returned (.tuple #[])∧u'= .returning∧ ∃os,w'=more w os:=by
 refine callsD_of_wpS Tryz.func182 rfl fun c₀ cs hu=>?_
 apply wpS_seq
 apply wpS_region
 simp[wpOpsS,go_sem,recoverD,hu,Tryz.ntmps182,Exit.thenS]
 refine wpS_cond (t:=false) (by simp[Act.eval,Array.replicate]) ?_
 simp only[Bool.false_eq_true,if_false]
 refine wpS_of_wp (wp_skip ?_)
 cases c₀
 simp_all[bodyPostS,results,Tryz.results182]
 exact ⟨#[],(Bp w).symm⟩
def wsX:List (List Value):=[[.int .i64 0,.int .i64 0,.int .i64 0,.slice none 0 0],[.int .i64 2]]
theorem bldX (w:World):(Instr.build 219 #[]).run Tryz.prog w= .ok (.agg #[.int .i64 0,.int .i64 0,.int .i64 0,.slice none 0 0]) w:=by kernel_rfl
theorem panX (p q:Addr) (T:Nat) (x:Value) (w:World) (hw:Li w [p,q] wsX):
  CallsD Tryz.prog 182 #[.pointer (some p),.pointer (some q)] (.panicking [{v:=.iface T x,recovered:=false}]) w fun e u' w'=>
   e= .returned (.tuple #[])∧u'= .panicking [{v:=.iface T x,recovered:=true}]∧ ∃os,w'=more (ug w [p,q] wsX) os:=by
 obtain ⟨b,o,sp⟩:=p
 obtain ⟨b2,o2,sp2⟩:=q
 obtain ⟨h1,h2,h3,h4,_⟩:=hw
 dsimp only at h1 h2 h3 h4
 subst h1 h3
 have a0:=h2 0 (by simp)
 have a1:=h2 1 (by simp)
 have a2:=h2 2 (by simp)
 have a3:=h2 3 (by simp)
 rw[Nat.add_zero] at a0
 have f1:=fun w=>World.isSome_setCells b [Value.int .i64 0] o w ⟨b,o+1,none⟩
 have f2:=fun w=>World.isSome_setCells b [Value.int .i64 0,Value.int .i64 0] o w ⟨b,o+2,none⟩
 have f3:=fun w=>World.isSome_setCells b [Value.int .i64 0,Value.int .i64 0,Value.int .i64 0] o w ⟨b,o+3,none⟩
 have b1:=f1 w a1.1
 have b2':=f2 w a2.1
 have b3:=f3 w a3.1
 have c1:=World.frozen?_setCells b [Value.int .i64 0] o w ⟨b,o+1,none⟩
 have c2:=World.frozen?_setCells b [Value.int .i64 0,Value.int .i64 0] o w ⟨b,o+2,none⟩
 have c3:=World.frozen?_setCells b [Value.int .i64 0,Value.int .i64 0,Value.int .i64 0] o w ⟨b,o+3,none⟩
 rw[a1.2] at c1
 rw[a2.2] at c2
 rw[a3.2] at c3
 obtain ⟨u0,g0⟩:=Option.isSome_iff_exists.1 a0.1
 obtain ⟨u1,g1⟩:=Option.isSome_iff_exists.1 b1
 obtain ⟨u2,g2⟩:=Option.isSome_iff_exists.1 b2'
 obtain ⟨u3,g3⟩:=Option.isSome_iff_exists.1 b3
 simp only[World.setCells,Nat.add_assoc,Nat.reduceAdd] at g1 g2 g3 c1 c2 c3
 obtain ⟨h5,h6⟩:=h4 0 (by simp)
 rw[Nat.add_zero] at h5 h6
 obtain ⟨u,hu0⟩:=Option.isSome_iff_exists.1 h5
 refine callsD_of_wpS Tryz.func182 rfl fun c₀ cs hu=>?_
 apply wpS_seq
 apply wpS_region
 simp[wpOpsS,go_sem,recoverD,hu,Tryz.ntmps182,Exit.thenS]
 refine wpS_cond (t:=true) (by simp[Act.eval,Array.replicate]) ?_
 simp only[if_true]
 apply wpS_region
 simp only[World.setCells,Nat.add_assoc,Nat.reduceAdd] at hu0 h6
 simp[wpOpsS,go_sem,bodyPostS,results,Tryz.results182,bldX,g0,g1,g2,g3,c1,c2,c3,a0.2,hu0,h6]
 exact ⟨#[],(Bp _).symm⟩
theorem dsemX (C:Ctx) (cs:Array Value) (fn:Func) (hcs:cs.size=2) (h1:C.dfr= [{target:=.fn (.func 182) cs,args:= #[]}]) (h2:C.dval= .func (.func 182) #[] cs):DSem Tryz.prog C fn Vv:=by
 obtain ⟨v0,v1,rfl⟩: ∃v0 v1,cs= #[v0,v1]:=by
  rcases cs with ⟨l⟩
  match l,hcs with
  | [a,b],_=>exact ⟨a,b,rfl⟩
 refine O8 h1 h2 (fun w=>by simp[invoke,go_sem]) (idleX v0 v1) ?_
 intro E v a css e2 hv hs
 unfold Vv at hs
 split at hs
 case h_2=>cases hs
 rename_i t y
 obtain rfl:=Option.some.inj hs
 rw[kp]
 cases hv with
 |ifc _ u _ hu=>
 refine ⟨wsX,⟨rfl,fun j hj=>?_,rfl,fun j hj=>?_,trivial⟩,fun w ps hps hw=>?_⟩
 ·match j,hj with
  |0,_=>exact ⟨rfl,.int _ _⟩
  |1,_=>exact ⟨rfl,.int _ _⟩
  |2,_=>exact ⟨rfl,.int _ _⟩
  |3,_=>exact ⟨rfl,LeP.nil (P:=Any) 4 E _ trivial (.con _)⟩
 ·match j,hj with
  |0,_=>exact ⟨rfl,.int _ _⟩
 ·obtain ⟨p,q,rfl⟩: ∃p q,ps= [p,q]:=by
   match ps,hps with
   | [p,q],_=>exact ⟨p,q,rfl⟩
  have hv0:v0= .pointer (some p)∧v1= .pointer (some q):=by simpa using hps
  obtain ⟨rfl,rfl⟩:=hv0
  exact panX p q _ _ w hw
theorem g516R (go:Nat→Option Obj):kd Tryz.prog (N go) Tryz.f124=some WZ:=by kernel_rfl
theorem p516 (go:Nat→Option Obj) (X:Facts go): ∀args bs t,F8 args bs=some t→fb Tryz.prog (N go) 516 args bs t:=by
 intro args bs t h
 unfold F8 at h
 split at h
 ·rename_i s
  split at h
  ·rename_i hs
   obtain rfl:=Option.some.inj h
   obtain ⟨A,caps,q1,q2,q3,q4⟩:=Mi s hs
   exact xp (f:=516) (kf:=578) (gok0 go X) mixed Tryz.func124 (g516R go) rfl (fun C cs k0 _ _ k3 k4=>dsemX C cs _ (by rw[k0,q3]) k3 k4) rfl q1 q2 q4
  ·cases h
 ·cases h
theorem gok1 (go:Nat→Option Obj) (X:Facts go):GOk Tryz.prog (N go) G1:=Ij fun f=>aw (fun e=>by
 obtain rfl:=Nat.eq_of_beq_eq_true e
 exact ⟨⟨_,Tryz.func124,by kernel_rfl,by decide⟩,p516 go X⟩) fun _=>gok0 go X f
theorem ta0 (w:World):(Instr.typeAssert .nilIface 20 208 true).run Tryz.prog w= .ok (.tuple #[.agg #[.int .i64 0],.bool false]) w:=by
 simp[Instr.typeAssert,go_sem]
theorem ta1 (v:Value) (w:World):(Instr.typeAssert (.iface 208 v) 20 208 true).run Tryz.prog w= .ok (.tuple #[v,.bool true]) w:=by
 simp[Instr.typeAssert,go_sem]
theorem idleR (v0:Value) (w:World):
  CallsD Tryz.prog 109 #[v0] .returning w fun e u' w'=>e= .returned (.tuple #[])∧u'= .returning∧ ∃os,w'=more w os:=by
 refine callsD_of_wpS Tryz.func109 rfl fun c₀ cs hu=>?_
 apply wpS_seq
 apply wpS_region
 simp[wpOpsS,go_sem,recoverD,hu,Tryz.ntmps109,Exit.thenS,ta0]
 apply wpS_seq
 apply wpS_region
 simp[wpOpsS,go_sem,Exit.thenS]
 refine wpS_cond (t:=false) (by simp[Act.eval,Array.replicate]) ?_
 simp only[Bool.false_eq_true,if_false]
 refine wpS_of_wp (wp_skip ?_)
 cases c₀
 simp_all[bodyPostS,results,Tryz.results109,mu]
 exact ⟨_,rfl⟩
theorem panR (p:Addr) (x:Int) (w:World) (hc:(w.cell? p).isSome=true) (hz:w.frozen? p=false):
  CallsD Tryz.prog 109 #[.pointer (some p)] (.panicking [{v:=.iface 208 (.agg #[.int .i64 x]),recovered:=false}]) w fun e u' w'=>
   e= .returned (.tuple #[])∧u'= .panicking [{v:=.iface 208 (.agg #[.int .i64 x]),recovered:=true}]∧ ∃os,w'=more (w.setCell p (.int .i64 x)) os:=by
 obtain ⟨u,hu0⟩:=Option.isSome_iff_exists.1 hc
 have h1: ∀o,(w.alloc o).cell? p=some u:=fun o=>by rw[mu,Ut hc,hu0]
 have h2: ∀o,(w.alloc o).frozen? p=false:=fun o=>by rw[mu,MJ hc,hz]
 have h3: ∀o v,(w.alloc o).setCell p v=more (w.setCell p v) #[o]:=fun o v=>by rw[mu,Vy (yV hc)]
 refine callsD_of_wpS Tryz.func109 rfl fun c₀ cs hu=>?_
 apply wpS_seq
 apply wpS_region
 simp[wpOpsS,go_sem,recoverD,hu,Tryz.ntmps109,Exit.thenS,ta1]
 apply wpS_seq
 apply wpS_region
 simp[wpOpsS,go_sem,Exit.thenS]
 refine wpS_cond (t:=true) (by simp[Act.eval,Array.replicate]) ?_
 simp only[if_true]
 apply wpS_region
 simp[wpOpsS,go_sem,h1,h2,bodyPostS,results,Tryz.results109,h3]
 exact ⟨_,rfl⟩
theorem dsemR (C:Ctx) (cs:Array Value) (fn:Func) (hcs:cs.size=1) (ht:C.tnum=id) (h1:C.dfr= [{target:=.fn (.func 109) cs,args:= #[]}]) (h2:C.dval= .func (.func 109) #[] cs):DSem Tryz.prog C fn Fk:=by
 obtain ⟨v0,rfl⟩: ∃v,cs= #[v]:=by
  rcases cs with ⟨l⟩
  match l,hcs with
  | [v],_=>exact ⟨v,rfl⟩
 refine O8 h1 h2 (fun w=>by simp[invoke,go_sem]) (idleR v0) ?_
 intro E v a css e2 hv hs
 unfold Fk at hs
 split at hs
 case h_2=>cases hs
 rename_i t e
 split at hs
 case isFalse=>cases hs
 rename_i htt
 subst htt
 obtain rfl:=Option.some.inj hs
 rw[ht] at e2
 cases hv with
 |ifc _ u _ hu=>
 obtain ⟨us,rfl,u1,u2,u3⟩:=hu.agg_inv
 have u4:=(u3 0 (by simp)).int_inv
 obtain rfl:us= #[.int .i64 e]:=by
  rcases us with ⟨l⟩
  match l,u1 with
  | [y],_=>simp at u4;rw[u4]
 refine ⟨[[.int .i64 e]],⟨rfl,fun j hj=>?_,trivial⟩,fun w ps hps hw=>?_⟩
 ·obtain rfl:j=0:=by simpa using hj
  exact ⟨rfl,.int _ _⟩
 ·obtain ⟨⟨b,o,sp⟩,rfl⟩: ∃p,ps= [p]:=by
   match ps,hps with
   | [p],_=>exact ⟨p,rfl⟩
  obtain ⟨w1,w2,_⟩:=hw
  dsimp only at w1 w2
  subst w1
  obtain ⟨q1,q2⟩:=w2 0 (by simp)
  have hv0:v0= .pointer (some ⟨b,o,none⟩):=by simpa using hps
  subst hv0
  rw[e2]
  exact panR ⟨b,o,none⟩ e w q1 q2
theorem g466R (go:Nat→Option Obj):kd Tryz.prog (N go) Tryz.f59=some g466:=by kernel_rfl
theorem p466 (go:Nat→Option Obj) (X:Facts go): ∀args bs t,ZT args bs=some t→fb Tryz.prog (N go) 466 args bs t:=
 Mj (gok1 go X) mixed (fn:=Tryz.f59) Tryz.func59 (g466R go) rfl fun C cs h0 _ h2 h3 h4=>dsemR C cs _ h0 h2 h3 h4
theorem gok (go:Nat→Option Obj) (X:Facts go):GOk Tryz.prog (N go) G:=Ij fun f=>aw (fun e=>by
 obtain rfl:=Nat.eq_of_beq_eq_true e
 exact ⟨⟨_,Tryz.func59,by kernel_rfl,by decide⟩,p466 go X⟩) fun _=>gok1 go X f
theorem laid:laidOutB Tryz.prog=true:=by kernel_rfl
theorem own:ownKnob Tryz.prog.godebug=none:=by kernel_rfl
theorem one_le (l:Lit) (H:Type):1≤Rows.uptoBulk (DataW.lit (H:=H) l):=by cases l<;>simp[Rows.uptoBulk]
def B:Bulk where
 f:=Rows.uptoBulk
 g:=Rows.uptoBulkAll
 str _:=by simp[Rows.uptoBulk]
 lit l:=one_le l _
 nil:=by simp[Rows.uptoBulk]
 slice _ _:=by simp[Rows.uptoBulk]
 agg _:=by simp[Rows.uptoBulk]
 none:=by simp[Rows.uptoBulkAll]
 cons _ _:=by simp[Rows.uptoBulkAll]
/-- The variables, as the world holds them. -/
def goW (W:World) (g:Nat):Option Obj:=W.heap[g]?
end Go.Proofs.YtcmipbleijmpjaaGreatDoor.tie
