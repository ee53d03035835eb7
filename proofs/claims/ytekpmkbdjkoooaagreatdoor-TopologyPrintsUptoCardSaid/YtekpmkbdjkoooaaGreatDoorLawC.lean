/- What this seat's program has to do with the functions of the abstract machine: function by function the same code, or a contract of the library. -/
import Derived.Test.YtekpmkbdjkoooaaGreatDoorDataB
import Derived.Test.YtekpmkbdjkoooaaGreatDoorContractsA
import Derived.Test.YtekpmkbdjkoooaaGreatDoorLawB
import Derived.Test.YtekpmkbdjkoooaaGreatDoorRows
import Derived.Test.YtekpmkbdjkoooaaGreatDoorDataE
import Derived.Test.YtekpmkbdjkoooaaGreatDoorMachineC
import Derived.Tactics
import Derived.Tactics2
import Derived.Laws.Pointers
set_option linter.unusedVariables false
set_option linter.unusedSimpArgs false
namespace Go.Proofs.YtekpmkbdjkoooaaGreatDoor.tie
open Go Go.AM Go.AM.IR Go.Proofs
set_option maxRecDepth 100000
abbrev GO:=Nat→Option Obj
noncomputable abbrev cF (i:Nat)(raw:Bool)(go:GO):Option AFunc:=(Tryz.prog.funcs[i]?).bind (ku Tryz.prog (N go) raw)
theorem c41 (go:GO):cF 77 false go=some f41:=by kernel_rfl
theorem c43 (go:GO):cF 167 false go=some f43:=by kernel_rfl
theorem c56 (go:GO):cF 232 false go=some f56:=by kernel_rfl
theorem c172 (go:GO):cF 168 false go=some f172:=by kernel_rfl
theorem c178 (go:GO):cF 100 false go=some Dw:=by kernel_rfl
theorem c179 (go:GO):cF 129 false go=some Dv:=by kernel_rfl
theorem c180 (go:GO):cF 187 false go=some xz:=by kernel_rfl
theorem c181 (go:GO):cF 171 false go=some adA:=by kernel_rfl
theorem c182 (go:GO):cF 193 false go=some WD:=by kernel_rfl
theorem c183 (go:GO):cF 238 false go=some ady:=by kernel_rfl
theorem c184 (go:GO):cF 256 false go=some Du:=by kernel_rfl
theorem c185 (go:GO):cF 257 false go=some adx:=by kernel_rfl
theorem c186 (go:GO):cF 285 false go=some Dq:=by kernel_rfl
theorem c227 (go:GO):cF 51 false go=some WC:=by kernel_rfl
theorem c228 (go:GO):cF 66 false go=some adw:=by kernel_rfl
theorem c229 (go:GO):cF 50 false go=some WB:=by kernel_rfl
theorem c230 (go:GO):cF 65 false go=some WA:=by kernel_rfl
theorem c231 (go:GO):cF 157 (AFunc.raw adu) go=some adu:=by kernel_rfl
theorem c233 (go:GO):cF 155 (AFunc.raw adt) go=some adt:=by kernel_rfl
theorem c235 (go:GO):cF 280 false go=some Wz:=by kernel_rfl
theorem c237 (go:GO):cF 281 false go=some NY:=by kernel_rfl
theorem c241 (go:GO):cF 231 false go=some f241:=by kernel_rfl
theorem c245 (go:GO):cF 310 false go=some f245:=by kernel_rfl
theorem c248 (go:GO):cF 132 false go=some Wy:=by kernel_rfl
theorem c250 (go:GO):cF 215 (AFunc.raw ads) go=some ads:=by kernel_rfl
theorem c325 (go:GO):cF 108 false go=some NX:=by kernel_rfl
theorem c326 (go:GO):cF 138 false go=some xy:=by kernel_rfl
theorem c332 (go:GO):cF 55 false go=some Wx:=by kernel_rfl
theorem c333 (go:GO):cF 70 false go=some Wu:=by kernel_rfl
theorem c337 (go:GO):cF 22 false go=some f337:=by kernel_rfl
theorem c338 (go:GO):cF 64 false go=some f338:=by kernel_rfl
theorem c339 (go:GO):cF 86 (AFunc.raw adr) go=some adr:=by kernel_rfl
theorem c344 (go:GO):cF 131 false go=some NW:=by kernel_rfl
theorem c346 (go:GO):cF 151 false go=some NV:=by kernel_rfl
theorem c347 (go:GO):cF 213 false go=some xx:=by kernel_rfl
theorem c370 (go:GO):cF 3 false go=some Wt:=by kernel_rfl
theorem c377 (go:GO):cF 5 false go=some kh:=by kernel_rfl
theorem c378 (go:GO):cF 6 false go=some f378:=by kernel_rfl
theorem c379 (go:GO):cF 16 false go=some sj:=by kernel_rfl
theorem c380 (go:GO):cF 25 false go=some xw:=by kernel_rfl
theorem c381 (go:GO):cF 7 false go=some xv:=by kernel_rfl
theorem c382 (go:GO):cF 8 false go=some xu:=by kernel_rfl
theorem c383 (go:GO):cF 14 (AFunc.raw ado) go=some ado:=by kernel_rfl
theorem c386 (go:GO):cF 15 false go=some adn:=by kernel_rfl
theorem c387 (go:GO):cF 125 false go=some Wq:=by kernel_rfl
theorem c395 (go:GO):cF 13 false go=some mf:=by kernel_rfl
theorem c396 (go:GO):cF 47 false go=some Dp:=by kernel_rfl
theorem c397 (go:GO):cF 48 false go=some uf:=by kernel_rfl
theorem c398 (go:GO):cF 60 false go=some si:=by kernel_rfl
theorem c399 (go:GO):cF 61 false go=some NU:=by kernel_rfl
theorem c400 (go:GO):cF 62 false go=some NT:=by kernel_rfl
theorem c401 (go:GO):cF 63 false go=some sg:=by kernel_rfl
theorem c402 (go:GO):cF 17 false go=some NQ:=by kernel_rfl
theorem c403 (go:GO):cF 18 false go=some Dm:=by kernel_rfl
theorem c404 (go:GO):cF 19 false go=some NN:=by kernel_rfl
theorem c405 (go:GO):cF 20 false go=some pb:=by kernel_rfl
theorem c406 (go:GO):cF 21 false go=some Wo:=by kernel_rfl
theorem c407 (go:GO):cF 23 false go=some Wn:=by kernel_rfl
theorem c408 (go:GO):cF 24 true go=some NJ:=by kernel_rfl
theorem c409 (go:GO):cF 26 false go=some Wm:=by kernel_rfl
theorem c410 (go:GO):cF 27 false go=some ade:=by kernel_rfl
theorem c411 (go:GO):cF 28 false go=some NI:=by kernel_rfl
theorem c412 (go:GO):cF 29 false go=some xt:=by kernel_rfl
theorem c413 (go:GO):cF 30 false go=some NH:=by kernel_rfl
theorem c414 (go:GO):cF 31 false go=some o9:=by kernel_rfl
theorem c415 (go:GO):cF 32 false go=some Wl:=by kernel_rfl
theorem c416 (go:GO):cF 43 (AFunc.raw ada) go=some ada:=by kernel_rfl
theorem c417 (go:GO):cF 44 (AFunc.raw ac9) go=some ac9:=by kernel_rfl
theorem c419 (go:GO):cF 46 (AFunc.raw ac8) go=some ac8:=by kernel_rfl
theorem c426 (go:GO):cF 33 false go=some xq:=by kernel_rfl
theorem c429 (go:GO):cF 36 false go=some xp:=by kernel_rfl
theorem c435 (go:GO):cF 42 false go=some ue:=by kernel_rfl
theorem c436 (go:GO):cF 94 false go=some Wh:=by kernel_rfl
theorem c437 (go:GO):cF 95 false go=some sd:=by kernel_rfl
theorem c438 (go:GO):cF 96 false go=some xo:=by kernel_rfl
theorem c439 (go:GO):cF 97 false go=some Dk:=by kernel_rfl
theorem c440 (go:GO):cF 98 false go=some NG:=by kernel_rfl
theorem c441 (go:GO):cF 99 false go=some NF:=by kernel_rfl
theorem c442 (go:GO):cF 124 false go=some Wg:=by kernel_rfl
theorem c443 (go:GO):cF 126 false go=some o8:=by kernel_rfl
theorem c444 (go:GO):cF 69 false go=some sc:=by kernel_rfl
theorem c445 (go:GO):cF 127 false go=some lc:=by kernel_rfl
theorem c446 (go:GO):cF 128 false go=some Dj:=by kernel_rfl
theorem c447 (go:GO):cF 130 false go=some ud:=by kernel_rfl
theorem c448 (go:GO):cF 49 false go=some f448:=by kernel_rfl
theorem c449 (go:GO):cF 52 false go=some We:=by kernel_rfl
theorem c450 (go:GO):cF 53 false go=some Wd:=by kernel_rfl
theorem c451 (go:GO):cF 54 false go=some ND:=by kernel_rfl
theorem c452 (go:GO):cF 56 false go=some Wc:=by kernel_rfl
theorem c453 (go:GO):cF 57 false go=some Wb:=by kernel_rfl
theorem c454 (go:GO):cF 58 false go=some Di:=by kernel_rfl
theorem c455 (go:GO):cF 67 false go=some Wa:=by kernel_rfl
theorem c456 (go:GO):cF 68 false go=some V8:=by kernel_rfl
theorem c457 (go:GO):cF 71 false go=some V7:=by kernel_rfl
theorem c458 (go:GO):cF 72 false go=some V6:=by kernel_rfl
theorem c459 (go:GO):cF 73 false go=some Dh:=by kernel_rfl
theorem c460 (go:GO):cF 87 (AFunc.raw ac3) go=some ac3:=by kernel_rfl
theorem c461 (go:GO):cF 88 (AFunc.raw ac2) go=some ac2:=by kernel_rfl
theorem c462 (go:GO):cF 89 (AFunc.raw ac1) go=some ac1:=by kernel_rfl
theorem c463 (go:GO):cF 90 (AFunc.raw ac0) go=some ac0:=by kernel_rfl
theorem c465 (go:GO):cF 92 (AFunc.raw acY) go=some acY:=by kernel_rfl
theorem c490 (go:GO):cF 166 false go=some Dg:=by kernel_rfl
theorem c491 (go:GO):cF 169 false go=some jI:=by kernel_rfl
theorem c492 (go:GO):cF 170 false go=some fG:=by kernel_rfl
theorem c493 (go:GO):cF 183 false go=some oZ:=by kernel_rfl
theorem c494 (go:GO):cF 184 false go=some Df:=by kernel_rfl
theorem c495 (go:GO):cF 185 false go=some Dc:=by kernel_rfl
theorem c496 (go:GO):cF 186 false go=some VZ:=by kernel_rfl
theorem c497 (go:GO):cF 133 false go=some Db:=by kernel_rfl
theorem c498 (go:GO):cF 134 false go=some CZ:=by kernel_rfl
theorem c499 (go:GO):cF 135 false go=some CY:=by kernel_rfl
theorem c500 (go:GO):cF 136 false go=some acV:=by kernel_rfl
theorem c501 (go:GO):cF 137 false go=some xn:=by kernel_rfl
theorem c502 (go:GO):cF 188 false go=some oY:=by kernel_rfl
theorem c503 (go:GO):cF 189 false go=some t8:=by kernel_rfl
theorem c504 (go:GO):cF 190 false go=some Ny:=by kernel_rfl
theorem c505 (go:GO):cF 191 false go=some Nx:=by kernel_rfl
theorem c506 (go:GO):cF 192 false go=some VY:=by kernel_rfl
theorem c507 (go:GO):cF 102 false go=some xm:=by kernel_rfl
theorem c508 (go:GO):cF 103 false go=some oX:=by kernel_rfl
theorem c509 (go:GO):cF 104 false go=some acS:=by kernel_rfl
theorem c510 (go:GO):cF 105 false go=some acR:=by kernel_rfl
theorem c511 (go:GO):cF 106 false go=some CX:=by kernel_rfl
theorem c512 (go:GO):cF 107 false go=some acQ:=by kernel_rfl
theorem c513 (go:GO):cF 109 false go=some acP:=by kernel_rfl
theorem c514 (go:GO):cF 110 false go=some acO:=by kernel_rfl
theorem c515 (go:GO):cF 111 false go=some acN:=by kernel_rfl
theorem c517 (go:GO):cF 113 false go=some acM:=by kernel_rfl
theorem c518 (go:GO):cF 114 false go=some acL:=by kernel_rfl
theorem c519 (go:GO):cF 115 false go=some acK:=by kernel_rfl
theorem c520 (go:GO):cF 116 false go=some Nw:=by kernel_rfl
theorem c521 (go:GO):cF 117 false go=some acJ:=by kernel_rfl
theorem c522 (go:GO):cF 118 false go=some acI:=by kernel_rfl
theorem c523 (go:GO):cF 119 false go=some VV:=by kernel_rfl
theorem c524 (go:GO):cF 120 false go=some acG:=by kernel_rfl
theorem c525 (go:GO):cF 121 false go=some acF:=by kernel_rfl
theorem c526 (go:GO):cF 122 false go=some acE:=by kernel_rfl
theorem c527 (go:GO):cF 139 false go=some acD:=by kernel_rfl
theorem c528 (go:GO):cF 140 false go=some acB:=by kernel_rfl
theorem c529 (go:GO):cF 141 false go=some acA:=by kernel_rfl
theorem c530 (go:GO):cF 149 (AFunc.raw acy) go=some acy:=by kernel_rfl
theorem c531 (go:GO):cF 150 (AFunc.raw acx) go=some acx:=by kernel_rfl
theorem c532 (go:GO):cF 152 (AFunc.raw acw) go=some acw:=by kernel_rfl
theorem c533 (go:GO):cF 153 (AFunc.raw acv) go=some acv:=by kernel_rfl
theorem c534 (go:GO):cF 154 (AFunc.raw acu) go=some acu:=by kernel_rfl
theorem c535 (go:GO):cF 156 (AFunc.raw act) go=some act:=by kernel_rfl
theorem c537 (go:GO):cF 159 (AFunc.raw acs) go=some acs:=by kernel_rfl
theorem c538 (go:GO):cF 160 (AFunc.raw acr) go=some acr:=by kernel_rfl
theorem c561 (go:GO):cF 230 false go=some oW:=by kernel_rfl
theorem c562 (go:GO):cF 233 false go=some Nv:=by kernel_rfl
theorem c563 (go:GO):cF 234 false go=some VU:=by kernel_rfl
theorem c564 (go:GO):cF 235 false go=some xk:=by kernel_rfl
theorem c565 (go:GO):cF 236 false go=some sb:=by kernel_rfl
theorem c566 (go:GO):cF 237 false go=some Nu:=by kernel_rfl
theorem c567 (go:GO):cF 251 false go=some Nt:=by kernel_rfl
theorem c568 (go:GO):cF 252 false go=some VR:=by kernel_rfl
theorem c569 (go:GO):cF 253 false go=some VO:=by kernel_rfl
theorem c570 (go:GO):cF 254 false go=some CW:=by kernel_rfl
theorem c571 (go:GO):cF 194 false go=some xh:=by kernel_rfl
theorem c572 (go:GO):cF 195 false go=some xg:=by kernel_rfl
theorem c573 (go:GO):cF 196 false go=some VN:=by kernel_rfl
theorem c574 (go:GO):cF 197 false go=some bP:=by kernel_rfl
theorem c575 (go:GO):cF 198 false go=some acn:=by kernel_rfl
theorem c576 (go:GO):cF 255 false go=some k9:=by kernel_rfl
theorem c577 (go:GO):cF 175 false go=some CU:=by kernel_rfl
theorem c579 (go:GO):cF 177 false go=some CR:=by kernel_rfl
theorem c580 (go:GO):cF 178 false go=some VM:=by kernel_rfl
theorem c581 (go:GO):cF 179 false go=some VL:=by kernel_rfl
theorem c582 (go:GO):cF 180 false go=some xf:=by kernel_rfl
theorem c583 (go:GO):cF 181 false go=some VK:=by kernel_rfl
theorem c584 (go:GO):cF 199 false go=some ack:=by kernel_rfl
theorem c594 (go:GO):cF 226 false go=some fm:=by kernel_rfl
theorem c596 (go:GO):cF 228 false go=some iU:=by kernel_rfl
theorem c612 (go:GO):cF 279 false go=some Nr:=by kernel_rfl
theorem c613 (go:GO):cF 282 false go=some Nq:=by kernel_rfl
theorem c614 (go:GO):cF 283 false go=some nr:=by kernel_rfl
theorem c615 (go:GO):cF 284 false go=some Nn:=by kernel_rfl
theorem c616 (go:GO):cF 258 false go=some Vz:=by kernel_rfl
theorem c617 (go:GO):cF 259 false go=some aci:=by kernel_rfl
theorem c618 (go:GO):cF 260 false go=some Vy:=by kernel_rfl
theorem c619 (go:GO):cF 261 false go=some xd:=by kernel_rfl
theorem c620 (go:GO):cF 262 false go=some Vv:=by kernel_rfl
theorem c621 (go:GO):cF 263 false go=some Vu:=by kernel_rfl
theorem c622 (go:GO):cF 264 false go=some Vr:=by kernel_rfl
theorem c623 (go:GO):cF 241 false go=some Vo:=by kernel_rfl
theorem c624 (go:GO):cF 242 false go=some Nk:=by kernel_rfl
theorem c625 (go:GO):cF 243 false go=some Vn:=by kernel_rfl
theorem c626 (go:GO):cF 244 false go=some acb:=by kernel_rfl
theorem c627 (go:GO):cF 245 false go=some me:=by kernel_rfl
theorem c628 (go:GO):cF 246 false go=some f628:=by kernel_rfl
theorem c630 (go:GO):cF 277 false go=some Vm:=by kernel_rfl
theorem c641 (go:GO):cF 295 false go=some Vl:=by kernel_rfl
theorem c642 (go:GO):cF 296 false go=some Nj:=by kernel_rfl
theorem c643 (go:GO):cF 297 false go=some xc:=by kernel_rfl
theorem c644 (go:GO):cF 298 false go=some g6:=by kernel_rfl
theorem c645 (go:GO):cF 299 false go=some Vk:=by kernel_rfl
theorem c646 (go:GO):cF 288 false go=some xb:=by kernel_rfl
theorem c647 (go:GO):cF 289 false go=some xa:=by kernel_rfl
theorem c648 (go:GO):cF 290 false go=some Vj:=by kernel_rfl
theorem c651 (go:GO):cF 316 false go=some wZ:=by kernel_rfl
theorem c652 (go:GO):cF 317 false go=some di:=by kernel_rfl
theorem c653 (go:GO):cF 311 false go=some kg:=by kernel_rfl
theorem c654 (go:GO):cF 312 false go=some wY:=by kernel_rfl
theorem c655 (go:GO):cF 313 false go=some wU:=by kernel_rfl
theorem c656 (go:GO):cF 330 false go=some jH:=by kernel_rfl
theorem c657 (go:GO):cF 326 false go=some Vi:=by kernel_rfl
theorem c658 (go:GO):cF 327 false go=some Vh:=by kernel_rfl
theorem c659 (go:GO):cF 328 false go=some oU:=by kernel_rfl
theorem c660 (go:GO):cF 329 false go=some CQ:=by kernel_rfl
theorem c661 (go:GO):cF 334 false go=some Vg:=by kernel_rfl
/-- What the contracts ask of the world. -/
structure Facts (go:Nat→Option Obj):Prop where
 pow:TabAt Tryz.prog (N go) "internal/strconv.uint64pow10" .u64 Lib.pow10Tab
 max:IntAt (N go) 1
 esyn:ErrAt (N go) 6
 eran:ErrAt (N go) 7
theorem p246 (go:Nat→Option Obj)(X:Facts go): ∀args bs t,yV args bs=some t→fq Tryz.prog (N go) 246 args bs t:=Yo Tryz.laysM171 rfl X.pow
theorem p247 (go:Nat→Option Obj)(X:Facts go): ∀args bs t,yU args bs=some t→fq Tryz.prog (N go) 247 args bs t:=Yn Tryz.lays156 Tryz.Builder_Extra_156 rfl
theorem p249 (go:Nat→Option Obj)(X:Facts go): ∀args bs t,yT args bs=some t→fq Tryz.prog (N go) 249 args bs t:=T8 Tryz.lays146 (by kernel_rfl) rfl X.max
theorem p252 (go:Nat→Option Obj)(X:Facts go): ∀args bs t,Uo args bs=some t→fq Tryz.prog (N go) 252 args bs t:=adJ Tryz.lays145 rfl X.max
theorem p263 (go:Nat→Option Obj)(X:Facts go): ∀args bs t,(JN 374) args bs=some t→fq Tryz.prog (N go) 263 args bs t:=aaF Tryz.laysC172 rfl rfl X.esyn X.eran
theorem p345 (go:Nat→Option Obj)(X:Facts go): ∀args bs t,pU args bs=some t→fq Tryz.prog (N go) 345 args bs t:=JD Tryz.lays144 rfl X.max
theorem mixed:Tryz.prog.follows .mixedOrders=true:=by kernel_rfl
theorem gok0 (go:Nat→Option Obj)(X:Facts go):GOk Tryz.prog (N go) G0:=MR fun f=>aq (fun _=>aq (fun _=>aq (fun _=>aq (fun _=>aq (fun _=>aq (fun _=>aq (fun _=>am rfl (c41 go)) fun _=>aq (fun _=>am rfl (c43 go)) fun _=>am rfl (c56 go)) fun _=>aq (fun _=>am rfl (c172 go)) fun _=>aq (fun _=>am rfl (c178 go)) fun _=>am rfl (c179 go)) fun _=>aq (fun _=>aq (fun _=>am rfl (c180 go)) fun _=>aq (fun _=>am rfl (c181 go)) fun _=>am rfl (c182 go)) fun _=>aq (fun _=>aq (fun _=>am rfl (c183 go)) fun _=>am rfl (c184 go)) fun _=>aq (fun _=>am rfl (c185 go)) fun _=>am rfl (c186 go)) fun _=>aq (fun _=>aq (fun _=>aq (fun _=>am rfl (c227 go)) fun _=>aq (fun _=>am rfl (c228 go)) fun _=>am rfl (c229 go)) fun _=>aq (fun _=>aq (fun _=>am rfl (c230 go)) fun _=>am rfl (c231 go)) fun _=>aq (fun _=>am rfl (c233 go)) fun _=>am rfl (c235 go)) fun _=>aq (fun _=>aq (fun _=>am rfl (c237 go)) fun _=>aq (fun _=>am rfl (c241 go)) fun _=>am rfl (c245 go)) fun _=>aq (fun _=>aq (fun _=>lZ rfl ⟨_,Tryz.func59,by kernel_rfl,by decide⟩ (p246 go X)) fun _=>lZ rfl ⟨_,Tryz.func101,by kernel_rfl,by decide⟩ (p247 go X)) fun _=>aq (fun _=>am rfl (c248 go)) fun _=>lZ rfl ⟨_,Tryz.func148,by kernel_rfl,by decide⟩ (p249 go X)) fun _=>aq (fun _=>aq (fun _=>aq (fun _=>aq (fun _=>am rfl (c250 go)) fun _=>aq (fun _=>lZ rfl ⟨_,Tryz.func214,by kernel_rfl,by decide⟩ (p252 go X)) fun _=>lZ rfl ⟨_,Tryz.func274,by kernel_rfl,by decide⟩ (p263 go X)) fun _=>aq (fun _=>am rfl (c325 go)) fun _=>aq (fun _=>am rfl (c326 go)) fun _=>am rfl (c332 go)) fun _=>aq (fun _=>aq (fun _=>am rfl (c333 go)) fun _=>aq (fun _=>am rfl (c337 go)) fun _=>am rfl (c338 go)) fun _=>aq (fun _=>aq (fun _=>am rfl (c339 go)) fun _=>am rfl (c344 go)) fun _=>aq (fun _=>lZ rfl ⟨_,Tryz.func147,by kernel_rfl,by decide⟩ (p345 go X)) fun _=>am rfl (c346 go)) fun _=>aq (fun _=>aq (fun _=>aq (fun _=>am rfl (c347 go)) fun _=>aq (fun _=>am rfl (c370 go)) fun _=>am rfl (c377 go)) fun _=>aq (fun _=>aq (fun _=>am rfl (c378 go)) fun _=>am rfl (c379 go)) fun _=>aq (fun _=>am rfl (c380 go)) fun _=>am rfl (c381 go)) fun _=>aq (fun _=>aq (fun _=>am rfl (c382 go)) fun _=>aq (fun _=>am rfl (c383 go)) fun _=>am rfl (c386 go)) fun _=>aq (fun _=>aq (fun _=>am rfl (c387 go)) fun _=>am rfl (c395 go)) fun _=>aq (fun _=>am rfl (c396 go)) fun _=>am rfl (c397 go)) fun _=>aq (fun _=>aq (fun _=>aq (fun _=>aq (fun _=>aq (fun _=>am rfl (c398 go)) fun _=>aq (fun _=>am rfl (c399 go)) fun _=>am rfl (c400 go)) fun _=>aq (fun _=>am rfl (c401 go)) fun _=>aq (fun _=>am rfl (c402 go)) fun _=>am rfl (c403 go)) fun _=>aq (fun _=>aq (fun _=>am rfl (c404 go)) fun _=>aq (fun _=>am rfl (c405 go)) fun _=>am rfl (c406 go)) fun _=>aq (fun _=>aq (fun _=>am rfl (c407 go)) fun _=>am rfl (c408 go)) fun _=>aq (fun _=>am rfl (c409 go)) fun _=>am rfl (c410 go)) fun _=>aq (fun _=>aq (fun _=>aq (fun _=>am rfl (c411 go)) fun _=>aq (fun _=>am rfl (c412 go)) fun _=>am rfl (c413 go)) fun _=>aq (fun _=>aq (fun _=>am rfl (c414 go)) fun _=>am rfl (c415 go)) fun _=>aq (fun _=>am rfl (c416 go)) fun _=>am rfl (c417 go)) fun _=>aq (fun _=>aq (fun _=>am rfl (c419 go)) fun _=>aq (fun _=>am rfl (c426 go)) fun _=>am rfl (c429 go)) fun _=>aq (fun _=>aq (fun _=>am rfl (c435 go)) fun _=>am rfl (c436 go)) fun _=>aq (fun _=>am rfl (c437 go)) fun _=>am rfl (c438 go)) fun _=>aq (fun _=>aq (fun _=>aq (fun _=>aq (fun _=>am rfl (c439 go)) fun _=>aq (fun _=>am rfl (c440 go)) fun _=>am rfl (c441 go)) fun _=>aq (fun _=>am rfl (c442 go)) fun _=>aq (fun _=>am rfl (c443 go)) fun _=>am rfl (c444 go)) fun _=>aq (fun _=>aq (fun _=>am rfl (c445 go)) fun _=>aq (fun _=>am rfl (c446 go)) fun _=>am rfl (c447 go)) fun _=>aq (fun _=>aq (fun _=>am rfl (c448 go)) fun _=>am rfl (c449 go)) fun _=>aq (fun _=>am rfl (c450 go)) fun _=>am rfl (c451 go)) fun _=>aq (fun _=>aq (fun _=>aq (fun _=>am rfl (c452 go)) fun _=>aq (fun _=>am rfl (c453 go)) fun _=>am rfl (c454 go)) fun _=>aq (fun _=>aq (fun _=>am rfl (c455 go)) fun _=>am rfl (c456 go)) fun _=>aq (fun _=>am rfl (c457 go)) fun _=>am rfl (c458 go)) fun _=>aq (fun _=>aq (fun _=>am rfl (c459 go)) fun _=>aq (fun _=>am rfl (c460 go)) fun _=>am rfl (c461 go)) fun _=>aq (fun _=>aq (fun _=>am rfl (c462 go)) fun _=>am rfl (c463 go)) fun _=>aq (fun _=>am rfl (c465 go)) fun _=>am rfl (c490 go)) fun _=>aq (fun _=>aq (fun _=>aq (fun _=>aq (fun _=>aq (fun _=>aq (fun _=>am rfl (c491 go)) fun _=>aq (fun _=>am rfl (c492 go)) fun _=>am rfl (c493 go)) fun _=>aq (fun _=>am rfl (c494 go)) fun _=>aq (fun _=>am rfl (c495 go)) fun _=>am rfl (c496 go)) fun _=>aq (fun _=>aq (fun _=>am rfl (c497 go)) fun _=>aq (fun _=>am rfl (c498 go)) fun _=>am rfl (c499 go)) fun _=>aq (fun _=>aq (fun _=>am rfl (c500 go)) fun _=>am rfl (c501 go)) fun _=>aq (fun _=>am rfl (c502 go)) fun _=>am rfl (c503 go)) fun _=>aq (fun _=>aq (fun _=>aq (fun _=>am rfl (c504 go)) fun _=>aq (fun _=>am rfl (c505 go)) fun _=>am rfl (c506 go)) fun _=>aq (fun _=>aq (fun _=>am rfl (c507 go)) fun _=>am rfl (c508 go)) fun _=>aq (fun _=>am rfl (c509 go)) fun _=>am rfl (c510 go)) fun _=>aq (fun _=>aq (fun _=>am rfl (c511 go)) fun _=>aq (fun _=>am rfl (c512 go)) fun _=>am rfl (c513 go)) fun _=>aq (fun _=>aq (fun _=>am rfl (c514 go)) fun _=>am rfl (c515 go)) fun _=>aq (fun _=>am rfl (c517 go)) fun _=>am rfl (c518 go)) fun _=>aq (fun _=>aq (fun _=>aq (fun _=>aq (fun _=>am rfl (c519 go)) fun _=>aq (fun _=>am rfl (c520 go)) fun _=>am rfl (c521 go)) fun _=>aq (fun _=>am rfl (c522 go)) fun _=>aq (fun _=>am rfl (c523 go)) fun _=>am rfl (c524 go)) fun _=>aq (fun _=>aq (fun _=>am rfl (c525 go)) fun _=>aq (fun _=>am rfl (c526 go)) fun _=>am rfl (c527 go)) fun _=>aq (fun _=>aq (fun _=>am rfl (c528 go)) fun _=>am rfl (c529 go)) fun _=>aq (fun _=>am rfl (c530 go)) fun _=>am rfl (c531 go)) fun _=>aq (fun _=>aq (fun _=>aq (fun _=>am rfl (c532 go)) fun _=>aq (fun _=>am rfl (c533 go)) fun _=>am rfl (c534 go)) fun _=>aq (fun _=>aq (fun _=>am rfl (c535 go)) fun _=>am rfl (c537 go)) fun _=>aq (fun _=>am rfl (c538 go)) fun _=>am rfl (c561 go)) fun _=>aq (fun _=>aq (fun _=>am rfl (c562 go)) fun _=>aq (fun _=>am rfl (c563 go)) fun _=>am rfl (c564 go)) fun _=>aq (fun _=>aq (fun _=>am rfl (c565 go)) fun _=>am rfl (c566 go)) fun _=>aq (fun _=>am rfl (c567 go)) fun _=>am rfl (c568 go)) fun _=>aq (fun _=>aq (fun _=>aq (fun _=>aq (fun _=>aq (fun _=>am rfl (c569 go)) fun _=>aq (fun _=>am rfl (c570 go)) fun _=>am rfl (c571 go)) fun _=>aq (fun _=>am rfl (c572 go)) fun _=>aq (fun _=>am rfl (c573 go)) fun _=>am rfl (c574 go)) fun _=>aq (fun _=>aq (fun _=>am rfl (c575 go)) fun _=>aq (fun _=>am rfl (c576 go)) fun _=>am rfl (c577 go)) fun _=>aq (fun _=>aq (fun _=>am rfl (c579 go)) fun _=>am rfl (c580 go)) fun _=>aq (fun _=>am rfl (c581 go)) fun _=>am rfl (c582 go)) fun _=>aq (fun _=>aq (fun _=>aq (fun _=>am rfl (c583 go)) fun _=>aq (fun _=>am rfl (c584 go)) fun _=>am rfl (c594 go)) fun _=>aq (fun _=>aq (fun _=>am rfl (c596 go)) fun _=>am rfl (c612 go)) fun _=>aq (fun _=>am rfl (c613 go)) fun _=>am rfl (c614 go)) fun _=>aq (fun _=>aq (fun _=>am rfl (c615 go)) fun _=>aq (fun _=>am rfl (c616 go)) fun _=>am rfl (c617 go)) fun _=>aq (fun _=>aq (fun _=>am rfl (c618 go)) fun _=>am rfl (c619 go)) fun _=>aq (fun _=>am rfl (c620 go)) fun _=>am rfl (c621 go)) fun _=>aq (fun _=>aq (fun _=>aq (fun _=>aq (fun _=>am rfl (c622 go)) fun _=>aq (fun _=>am rfl (c623 go)) fun _=>am rfl (c624 go)) fun _=>aq (fun _=>am rfl (c625 go)) fun _=>aq (fun _=>am rfl (c626 go)) fun _=>am rfl (c627 go)) fun _=>aq (fun _=>aq (fun _=>am rfl (c628 go)) fun _=>aq (fun _=>am rfl (c630 go)) fun _=>am rfl (c641 go)) fun _=>aq (fun _=>aq (fun _=>am rfl (c642 go)) fun _=>am rfl (c643 go)) fun _=>aq (fun _=>am rfl (c644 go)) fun _=>am rfl (c645 go)) fun _=>aq (fun _=>aq (fun _=>aq (fun _=>am rfl (c646 go)) fun _=>aq (fun _=>am rfl (c647 go)) fun _=>am rfl (c648 go)) fun _=>aq (fun _=>aq (fun _=>am rfl (c651 go)) fun _=>am rfl (c652 go)) fun _=>aq (fun _=>am rfl (c653 go)) fun _=>am rfl (c654 go)) fun _=>aq (fun _=>aq (fun _=>am rfl (c655 go)) fun _=>aq (fun _=>am rfl (c656 go)) fun _=>am rfl (c657 go)) fun _=>aq (fun _=>aq (fun _=>am rfl (c658 go)) fun _=>am rfl (c659 go)) fun _=>aq (fun _=>am rfl (c660 go)) fun _=>am rfl (c661 go)
theorem idleX (v0 v1:Value)(w:World):
  CallsD Tryz.prog 176 #[v0,v1] .returning w fun e u' w'=>e= .returned (.tuple #[])∧u'= .returning∧ ∃os,w'=more w os:=by
 refine callsD_of_wpS Tryz.func176 rfl fun c₀ cs hu=>?_
 apply wpS_seq;apply wpS_region;simp[wpOpsS,go_sem,recoverD,hu,Tryz.ntmps176,Exit.thenS];refine wpS_cond (t:=false) (by simp[Act.eval,Array.replicate]) ?_
 simp only[A4,if_false];refine wpS_of_wp (wp_skip ?_);cases c₀;simp_all[bodyPostS,results,Tryz.results176];exact ⟨#[],(Fx w).symm⟩
def wsX:List (List Value):=[[.int .i64 0,.int .i64 0,.int .i64 0,.slice none 0 0],[.int .i64 2]]
theorem bldX (w:World):(Instr.build 203 #[]).run Tryz.prog w= .ok (.agg #[.int .i64 0,.int .i64 0,.int .i64 0,.slice none 0 0]) w:=by kernel_rfl
theorem panX (p q:Addr)(T:Nat)(x:Value)(w:World)(hw:PU w [p,q] wsX):
  CallsD Tryz.prog 176 #[.pointer (some p),.pointer (some q)] (.panicking [{v:=.iface T x,recovered:=false}]) w fun e u' w'=>
   e= .returned (.tuple #[])∧u'= .panicking [{v:=.iface T x,recovered:=true}]∧ ∃os,w'=more (wq w [p,q] wsX) os:=by
 obtain ⟨b,o,sp⟩:=p;obtain ⟨b2,o2,sp2⟩:=q;obtain ⟨h1,h2,h3,h4,_⟩:=hw;dsimp only at h1 h2 h3 h4;subst h1 h3;have a0:=h2 0 (by simp)
 have a1:=h2 1 (by simp)
 have a2:=h2 2 (by simp)
 have a3:=h2 3 (by simp)
 rw[Nat.add_zero] at a0;have f1:=fun w=>World.isSome_setCells b [Value.int .i64 0] o w ⟨b,o+1,none⟩
 have f2:=fun w=>World.isSome_setCells b [Value.int .i64 0,Value.int .i64 0] o w ⟨b,o+2,none⟩
 have f3:=fun w=>World.isSome_setCells b [Value.int .i64 0,Value.int .i64 0,Value.int .i64 0] o w ⟨b,o+3,none⟩
 have b1:=f1 w a1.1;have b2':=f2 w a2.1;have b3:=f3 w a3.1;have c1:=World.frozen?_setCells b [Value.int .i64 0] o w ⟨b,o+1,none⟩;have c2:=World.frozen?_setCells b [Value.int .i64 0,Value.int .i64 0] o w ⟨b,o+2,none⟩;have c3:=World.frozen?_setCells b [Value.int .i64 0,Value.int .i64 0,Value.int .i64 0] o w ⟨b,o+3,none⟩;rw[a1.2] at c1;rw[a2.2] at c2;rw[a3.2] at c3;obtain ⟨u0,g0⟩:=Be.1 a0.1;obtain ⟨u1,g1⟩:=Be.1 b1;obtain ⟨u2,g2⟩:=Be.1 b2';obtain ⟨u3,g3⟩:=Be.1 b3;simp only[World.setCells,B8,Nat.reduceAdd] at g1 g2 g3 c1 c2 c3;obtain ⟨h5,h6⟩:=h4 0 (by simp)
 rw[Nat.add_zero] at h5 h6;obtain ⟨u,hu0⟩:=Be.1 h5;refine callsD_of_wpS Tryz.func176 rfl fun c₀ cs hu=>?_
 apply wpS_seq;apply wpS_region;simp[wpOpsS,go_sem,recoverD,hu,Tryz.ntmps176,Exit.thenS];refine wpS_cond (t:=true) (by simp[Act.eval,Array.replicate]) ?_
 simp only[if_true];apply wpS_region;simp only[World.setCells,B8,Nat.reduceAdd] at hu0 h6;simp[wpOpsS,go_sem,bodyPostS,results,Tryz.results176,bldX,g0,g1,g2,g3,c1,c2,c3,a0.2,hu0,h6];exact ⟨#[],(Fx _).symm⟩
theorem dsemX (C:Ctx)(cs:Array Value)(fn:Func)(hcs:cs.size=2)(h1:C.dfr= [{target:=.fn (.func 176) cs,args:= #[]}])(h2:C.dval= .func (.func 176) #[] cs):DSem Tryz.prog C fn aa9:=by
 obtain ⟨v0,v1,rfl⟩: ∃v0 v1,cs= #[v0,v1]:=by
  rcases cs with ⟨l⟩
  match l,hcs with
  | [a,b],_=>exact ⟨a,b,rfl⟩
 refine SY h1 h2 (fun w=>by simp[invoke,go_sem]) (idleX v0 v1) ?_
 intro E v a css e2 hv hs;unfold aa9 at hs;split at hs
 case h_2=>cases hs
 rename_i t y;obtain rfl:=Ai hs;rw[lI];cases hv with
 |ifc _ u _ hu=>
 refine ⟨wsX,⟨rfl,fun j hj=>?_,rfl,fun j hj=>?_,trivial⟩,fun w ps hps hw=>?_⟩
 ·match j,hj with
  |0,_=>exact ⟨rfl,.int _ _⟩
  |1,_=>exact ⟨rfl,.int _ _⟩
  |2,_=>exact ⟨rfl,.int _ _⟩
  |3,_=>exact ⟨rfl,LeP.nil (P:=Any) 4 E _ trivial (.con _)⟩
 ·match j,hj with
  |0,_=>exact ⟨rfl,.int _ _⟩
 ·obtain ⟨p,q,rfl⟩: ∃p q,ps= [p,q]:=by
   match ps,hps with
   | [p,q],_=>exact ⟨p,q,rfl⟩
  have hv0:v0= .pointer (some p)∧v1= .pointer (some q):=by simpa using hps
  obtain ⟨rfl,rfl⟩:=hv0;exact panX p q _ _ w hw
theorem g516R (go:Nat→Option Obj):li Tryz.prog (N go) Tryz.f112=some ab5:=by kernel_rfl
theorem p516 (go:Nat→Option Obj)(X:Facts go): ∀args bs t,LC args bs=some t→fq Tryz.prog (N go) 516 args bs t:=by
 intro args bs t h;unfold LC at h;split at h
 ·rename_i s
  split at h
  ·rename_i hs
   obtain rfl:=Ai h;obtain ⟨A,caps,q1,q2,q3,q4⟩:=QH s hs;exact zw (f:=516) (kf:=578) (gok0 go X) mixed Tryz.func112 (g516R go) rfl (fun C cs k0 _ _ k3 k4=>dsemX C cs _ (by rw[k0,q3]) k3 k4) rfl q1 q2 q4
  ·cases h
 ·cases h
theorem gok1 (go:Nat→Option Obj)(X:Facts go):GOk Tryz.prog (N go) G1:=MR fun f=>aq (fun e=>by
 obtain rfl:=Nat.eq_of_beq_eq_true e;exact ⟨⟨_,Tryz.func112,by kernel_rfl,by decide⟩,p516 go X⟩) fun _=>gok0 go X f
theorem ta0 (w:World):(Instr.typeAssert .nilIface 20 239 true).run Tryz.prog w= .ok (.tuple #[.agg #[.int .i64 0],.bool false]) w:=by
 simp[Instr.typeAssert,go_sem]
theorem ta1 (v:Value)(w:World):(Instr.typeAssert (.iface 239 v) 20 239 true).run Tryz.prog w= .ok (.tuple #[v,.bool true]) w:=by
 simp[Instr.typeAssert,go_sem]
theorem idleR (v0:Value)(w:World):
  CallsD Tryz.prog 162 #[v0] .returning w fun e u' w'=>e= .returned (.tuple #[])∧u'= .returning∧ ∃os,w'=more w os:=by
 refine callsD_of_wpS Tryz.func162 rfl fun c₀ cs hu=>?_
 apply wpS_seq;apply wpS_region;simp[wpOpsS,go_sem,recoverD,hu,Tryz.ntmps162,Exit.thenS,ta0];apply wpS_seq;apply wpS_region;simp[wpOpsS,go_sem,Exit.thenS];refine wpS_cond (t:=false) (by simp[Act.eval,Array.replicate]) ?_
 simp only[A4,if_false];refine wpS_of_wp (wp_skip ?_);cases c₀;simp_all[bodyPostS,results,Tryz.results162,n5];exact ⟨_,rfl⟩
theorem panR (p:Addr)(x:Int)(w:World)(hc:(w.cell? p).isSome=true)(hz:w.frozen? p=false):
  CallsD Tryz.prog 162 #[.pointer (some p)] (.panicking [{v:=.iface 239 (.agg #[.int .i64 x]),recovered:=false}]) w fun e u' w'=>
   e= .returned (.tuple #[])∧u'= .panicking [{v:=.iface 239 (.agg #[.int .i64 x]),recovered:=true}]∧ ∃os,w'=more (w.setCell p (.int .i64 x)) os:=by
 obtain ⟨u,hu0⟩:=Be.1 hc;have h1: ∀o,(w.alloc o).cell? p=some u:=fun o=>by rw[n5,aaA hc,hu0]
 have h2: ∀o,(w.alloc o).frozen? p=false:=fun o=>by rw[n5,Rh hc,hz]
 have h3: ∀o v,(w.alloc o).setCell p v=more (w.setCell p v) #[o]:=fun o v=>by rw[n5,aba (Cp hc)]
 refine callsD_of_wpS Tryz.func162 rfl fun c₀ cs hu=>?_
 apply wpS_seq;apply wpS_region;simp[wpOpsS,go_sem,recoverD,hu,Tryz.ntmps162,Exit.thenS,ta1];apply wpS_seq;apply wpS_region;simp[wpOpsS,go_sem,Exit.thenS];refine wpS_cond (t:=true) (by simp[Act.eval,Array.replicate]) ?_
 simp only[if_true];apply wpS_region;simp[wpOpsS,go_sem,h1,h2,bodyPostS,results,Tryz.results162,h3];exact ⟨_,rfl⟩
theorem dsemR (C:Ctx)(cs:Array Value)(fn:Func)(hcs:cs.size=1)(ht:C.tnum=id)(h1:C.dfr= [{target:=.fn (.func 162) cs,args:= #[]}])(h2:C.dval= .func (.func 162) #[] cs):DSem Tryz.prog C fn Km:=by
 obtain ⟨v0,rfl⟩: ∃v,cs= #[v]:=by
  rcases cs with ⟨l⟩
  match l,hcs with
  | [v],_=>exact ⟨v,rfl⟩
 refine SY h1 h2 (fun w=>by simp[invoke,go_sem]) (idleR v0) ?_
 intro E v a css e2 hv hs;unfold Km at hs;split at hs
 case h_2=>cases hs
 rename_i t e;split at hs
 case isFalse=>cases hs
 rename_i htt;subst htt;obtain rfl:=Ai hs;rw[ht] at e2;cases hv with
 |ifc _ u _ hu=>
 obtain ⟨us,rfl,u1,u2,u3⟩:=hu.agg_inv;have u4:=(u3 0 (by simp)).int_inv
 obtain rfl:us= #[.int .i64 e]:=by
  rcases us with ⟨l⟩
  match l,u1 with
  | [y],_=>simp at u4;rw[u4]
 refine ⟨[[.int .i64 e]],⟨rfl,fun j hj=>?_,trivial⟩,fun w ps hps hw=>?_⟩
 ·obtain rfl:j=0:=by simpa using hj
  exact ⟨rfl,.int _ _⟩
 ·obtain ⟨⟨b,o,sp⟩,rfl⟩: ∃p,ps= [p]:=by
   match ps,hps with
   | [p],_=>exact ⟨p,rfl⟩
  obtain ⟨w1,w2,_⟩:=hw;dsimp only at w1 w2;subst w1;obtain ⟨q1,q2⟩:=w2 0 (by simp)
  have hv0:v0= .pointer (some ⟨b,o,none⟩):=by simpa using hps
  subst hv0;rw[e2];exact panR ⟨b,o,none⟩ e w q1 q2
theorem g466R (go:Nat→Option Obj):li Tryz.prog (N go) Tryz.f93=some g466:=by kernel_rfl
theorem p466 (go:Nat→Option Obj)(X:Facts go): ∀args bs t,aej args bs=some t→fq Tryz.prog (N go) 466 args bs t:=
 QI (gok1 go X) mixed (fn:=Tryz.f93) Tryz.func93 (g466R go) rfl fun C cs h0 _ h2 h3 h4=>dsemR C cs _ h0 h2 h3 h4
theorem gok (go:Nat→Option Obj)(X:Facts go):GOk Tryz.prog (N go) G:=MR fun f=>aq (fun e=>by
 obtain rfl:=Nat.eq_of_beq_eq_true e;exact ⟨⟨_,Tryz.func93,by kernel_rfl,by decide⟩,p466 go X⟩) fun _=>gok1 go X f
theorem laid:laidOutB Tryz.prog=true:=by kernel_rfl
theorem own:ownKnob Tryz.prog.godebug=none:=by kernel_rfl
theorem one_le (l:Lit)(H:Type):1≤Rows.uptoBulk (DataW.lit (H:=H) l):=by cases l<;>simp[Rows.uptoBulk]
def B:Bulk where
 f:=Rows.uptoBulk
 g:=Rows.uptoBulkAll
 str _:=by simp[Rows.uptoBulk]
 lit l:=one_le l _
 nil:=by simp[Rows.uptoBulk]
 slice _ _:=by simp[Rows.uptoBulk]
 agg _:=by simp[Rows.uptoBulk]
 none:=by simp[Rows.uptoBulkAll]
 cons _ _:=by simp[Rows.uptoBulkAll]
/-- The variables, as the world holds them. -/
def goW (W:World)(g:Nat):Option Obj:=W.heap[g]?
end Go.Proofs.YtekpmkbdjkoooaaGreatDoor.tie
