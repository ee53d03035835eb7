/- What the functions of this program give, on the abstract machine. -/
import Derived.Test.YtndighlbglagiaaGreatDoorDataA
import Derived.Test.YtndighlbglagiaaGreatDoorMachineC
import Derived.Test.YtndighlbglagiaaGreatDoorLibraryA
import Derived.KernelRfl
set_option linter.unusedVariables false
set_option linter.unusedSimpArgs false
namespace Go.AM.IR
def G (f : Nat) : Fun := bif Nat.blt f 508 then (bif Nat.blt f 395 then (bif Nat.blt f 250 then (bif Nat.blt f 229 then (bif Nat.blt f 178 then (bif Nat.blt f 56 then (bif Nat.blt f 43 then (bif Nat.beq f 41 then .code f41 else .none) else (bif Nat.beq f 43 then .code f43 else .none)) else (bif Nat.blt f 172 then (bif Nat.beq f 56 then .code f56 else .none) else (bif Nat.beq f 172 then .code f172 else .none))) else (bif Nat.blt f 183 then (bif Nat.blt f 181 then (bif Nat.beq f 178 then .code f178 else .none) else (bif Nat.beq f 181 then .code f181 else .none)) else (bif Nat.blt f 186 then (bif Nat.beq f 183 then .code f183 else .none) else (bif Nat.blt f 227 then (bif Nat.beq f 186 then .code f186 else .none) else (bif Nat.beq f 227 then .code f227 else .none))))) else (bif Nat.blt f 241 then (bif Nat.blt f 233 then (bif Nat.blt f 231 then (bif Nat.beq f 229 then .code f229 else .none) else (bif Nat.beq f 231 then .code f231 else .none)) else (bif Nat.blt f 235 then (bif Nat.beq f 233 then .code f233 else .none) else (bif Nat.blt f 237 then (bif Nat.beq f 235 then .code f235 else .none) else (bif Nat.beq f 237 then .code f237 else .none)))) else (bif Nat.blt f 246 then (bif Nat.blt f 245 then (bif Nat.beq f 241 then .code f241 else .none) else (bif Nat.beq f 245 then .code f245 else .none)) else (bif Nat.blt f 247 then (bif Nat.beq f 246 then .prim false pItoa else .none) else (bif Nat.blt f 249 then (bif Nat.beq f 247 then .prim false pJoin else .none) else (bif Nat.beq f 249 then .prim false pSplit else .none)))))) else (bif Nat.blt f 346 then (bif Nat.blt f 334 then (bif Nat.blt f 263 then (bif Nat.blt f 252 then (bif Nat.beq f 250 then .code f250 else .none) else (bif Nat.beq f 252 then .prim false pCut else .none)) else (bif Nat.blt f 325 then (bif Nat.beq f 263 then .prim false (pAtoi 300) else .none) else (bif Nat.blt f 332 then (bif Nat.beq f 325 then .code f325 else .none) else (bif Nat.beq f 332 then .code f332 else .none)))) else (bif Nat.blt f 339 then (bif Nat.blt f 337 then (bif Nat.beq f 334 then .code f334 else .none) else (bif Nat.beq f 337 then .code f337 else .none)) else (bif Nat.blt f 340 then (bif Nat.beq f 339 then .code f339 else .none) else (bif Nat.blt f 345 then (bif Nat.beq f 340 then .code f340 else .none) else (bif Nat.beq f 345 then .prim false pContains else .none))))) else (bif Nat.blt f 379 then (bif Nat.blt f 372 then (bif Nat.blt f 347 then (bif Nat.beq f 346 then .code f346 else .none) else (bif Nat.beq f 347 then .code f347 else .none)) else (bif Nat.blt f 377 then (bif Nat.beq f 372 then .code f372 else .none) else (bif Nat.blt f 378 then (bif Nat.beq f 377 then .code f377 else .none) else (bif Nat.beq f 378 then .code f378 else .none)))) else (bif Nat.blt f 383 then (bif Nat.blt f 381 then (bif Nat.beq f 379 then .code f379 else .none) else (bif Nat.beq f 381 then .code f381 else .none)) else (bif Nat.blt f 386 then (bif Nat.beq f 383 then .code f383 else .none) else (bif Nat.blt f 387 then (bif Nat.beq f 386 then .code f386 else .none) else (bif Nat.beq f 387 then .code f387 else .none))))))) else (bif Nat.blt f 439 then (bif Nat.blt f 408 then (bif Nat.blt f 403 then (bif Nat.blt f 397 then (bif Nat.blt f 396 then (bif Nat.beq f 395 then .code f395 else .none) else (bif Nat.beq f 396 then .code f396 else .none)) else (bif Nat.blt f 402 then (bif Nat.beq f 397 then .code f397 else .none) else (bif Nat.beq f 402 then .code f402 else .none))) else (bif Nat.blt f 405 then (bif Nat.blt f 404 then (bif Nat.beq f 403 then .code f403 else .none) else (bif Nat.beq f 404 then .code f404 else .none)) else (bif Nat.blt f 406 then (bif Nat.beq f 405 then .code f405 else .none) else (bif Nat.blt f 407 then (bif Nat.beq f 406 then .code f406 else .none) else (bif Nat.beq f 407 then .code f407 else .none))))) else (bif Nat.blt f 426 then (bif Nat.blt f 417 then (bif Nat.blt f 416 then (bif Nat.beq f 408 then .code f408 else .none) else (bif Nat.beq f 416 then .code f416 else .none)) else (bif Nat.blt f 418 then (bif Nat.beq f 417 then .code f417 else .none) else (bif Nat.blt f 419 then (bif Nat.beq f 418 then .code f418 else .none) else (bif Nat.beq f 419 then .code f419 else .none)))) else (bif Nat.blt f 436 then (bif Nat.blt f 435 then (bif Nat.beq f 426 then .code f426 else .none) else (bif Nat.beq f 435 then .code f435 else .none)) else (bif Nat.blt f 437 then (bif Nat.beq f 436 then .code f436 else .none) else (bif Nat.blt f 438 then (bif Nat.beq f 437 then .code f437 else .none) else (bif Nat.beq f 438 then .code f438 else .none)))))) else (bif Nat.blt f 460 then (bif Nat.blt f 450 then (bif Nat.blt f 441 then (bif Nat.blt f 440 then (bif Nat.beq f 439 then .code f439 else .none) else (bif Nat.beq f 440 then .code f440 else .none)) else (bif Nat.blt f 448 then (bif Nat.beq f 441 then .code f441 else .none) else (bif Nat.blt f 449 then (bif Nat.beq f 448 then .code f448 else .none) else (bif Nat.beq f 449 then .code f449 else .none)))) else (bif Nat.blt f 452 then (bif Nat.blt f 451 then (bif Nat.beq f 450 then .code f450 else .none) else (bif Nat.beq f 451 then .code f451 else .none)) else (bif Nat.blt f 453 then (bif Nat.beq f 452 then .code f452 else .none) else (bif Nat.blt f 454 then (bif Nat.beq f 453 then .code f453 else .none) else (bif Nat.beq f 454 then .code f454 else .none))))) else (bif Nat.blt f 465 then (bif Nat.blt f 462 then (bif Nat.blt f 461 then (bif Nat.beq f 460 then .code f460 else .none) else (bif Nat.beq f 461 then .code f461 else .none)) else (bif Nat.blt f 463 then (bif Nat.beq f 462 then .code f462 else .none) else (bif Nat.blt f 464 then (bif Nat.beq f 463 then .code f463 else .none) else (bif Nat.beq f 464 then .code f464 else .none)))) else (bif Nat.blt f 491 then (bif Nat.blt f 490 then (bif Nat.beq f 465 then .code f465 else .none) else (bif Nat.beq f 490 then .code f490 else .none)) else (bif Nat.blt f 492 then (bif Nat.beq f 491 then .code f491 else .none) else (bif Nat.blt f 507 then (bif Nat.beq f 492 then .code f492 else .none) else (bif Nat.beq f 507 then .code f507 else .none)))))))) else (bif Nat.blt f 580 then (bif Nat.blt f 531 then (bif Nat.blt f 518 then (bif Nat.blt f 512 then (bif Nat.blt f 510 then (bif Nat.blt f 509 then (bif Nat.beq f 508 then .code f508 else .none) else (bif Nat.beq f 509 then .code f509 else .none)) else (bif Nat.blt f 511 then (bif Nat.beq f 510 then .code f510 else .none) else (bif Nat.beq f 511 then .code f511 else .none))) else (bif Nat.blt f 514 then (bif Nat.blt f 513 then (bif Nat.beq f 512 then .code f512 else .none) else (bif Nat.beq f 513 then .code f513 else .none)) else (bif Nat.blt f 515 then (bif Nat.beq f 514 then .code f514 else .none) else (bif Nat.blt f 517 then (bif Nat.beq f 515 then .code f515 else .none) else (bif Nat.beq f 517 then .code f517 else .none))))) else (bif Nat.blt f 523 then (bif Nat.blt f 520 then (bif Nat.blt f 519 then (bif Nat.beq f 518 then .code f518 else .none) else (bif Nat.beq f 519 then .code f519 else .none)) else (bif Nat.blt f 521 then (bif Nat.beq f 520 then .code f520 else .none) else (bif Nat.blt f 522 then (bif Nat.beq f 521 then .code f521 else .none) else (bif Nat.beq f 522 then .code f522 else .none)))) else (bif Nat.blt f 525 then (bif Nat.blt f 524 then (bif Nat.beq f 523 then .code f523 else .none) else (bif Nat.beq f 524 then .code f524 else .none)) else (bif Nat.blt f 526 then (bif Nat.beq f 525 then .code f525 else .none) else (bif Nat.blt f 530 then (bif Nat.beq f 526 then .code f526 else .none) else (bif Nat.beq f 530 then .code f530 else .none)))))) else (bif Nat.blt f 542 then (bif Nat.blt f 536 then (bif Nat.blt f 533 then (bif Nat.blt f 532 then (bif Nat.beq f 531 then .code f531 else .none) else (bif Nat.beq f 532 then .code f532 else .none)) else (bif Nat.blt f 534 then (bif Nat.beq f 533 then .code f533 else .none) else (bif Nat.blt f 535 then (bif Nat.beq f 534 then .code f534 else .none) else (bif Nat.beq f 535 then .code f535 else .none)))) else (bif Nat.blt f 538 then (bif Nat.blt f 537 then (bif Nat.beq f 536 then .code f536 else .none) else (bif Nat.beq f 537 then .code f537 else .none)) else (bif Nat.blt f 539 then (bif Nat.beq f 538 then .code f538 else .none) else (bif Nat.blt f 541 then (bif Nat.beq f 539 then .code f539 else .none) else (bif Nat.beq f 541 then .code f541 else .none))))) else (bif Nat.blt f 564 then (bif Nat.blt f 561 then (bif Nat.blt f 543 then (bif Nat.beq f 542 then .code f542 else .none) else (bif Nat.beq f 543 then .code f543 else .none)) else (bif Nat.blt f 562 then (bif Nat.beq f 561 then .code f561 else .none) else (bif Nat.blt f 563 then (bif Nat.beq f 562 then .code f562 else .none) else (bif Nat.beq f 563 then .code f563 else .none)))) else (bif Nat.blt f 566 then (bif Nat.blt f 565 then (bif Nat.beq f 564 then .code f564 else .none) else (bif Nat.beq f 565 then .code f565 else .none)) else (bif Nat.blt f 577 then (bif Nat.beq f 566 then .code f566 else .none) else (bif Nat.blt f 579 then (bif Nat.beq f 577 then .code f577 else .none) else (bif Nat.beq f 579 then .code f579 else .none))))))) else (bif Nat.blt f 615 then (bif Nat.blt f 591 then (bif Nat.blt f 586 then (bif Nat.blt f 582 then (bif Nat.blt f 581 then (bif Nat.beq f 580 then .code f580 else .none) else (bif Nat.beq f 581 then .code f581 else .none)) else (bif Nat.blt f 583 then (bif Nat.beq f 582 then .code f582 else .none) else (bif Nat.blt f 585 then (bif Nat.beq f 583 then .code f583 else .none) else (bif Nat.beq f 585 then .code f585 else .none)))) else (bif Nat.blt f 588 then (bif Nat.blt f 587 then (bif Nat.beq f 586 then .code f586 else .none) else (bif Nat.beq f 587 then .code f587 else .none)) else (bif Nat.blt f 589 then (bif Nat.beq f 588 then .code f588 else .none) else (bif Nat.blt f 590 then (bif Nat.beq f 589 then .code f589 else .none) else (bif Nat.beq f 590 then .code f590 else .none))))) else (bif Nat.blt f 596 then (bif Nat.blt f 593 then (bif Nat.blt f 592 then (bif Nat.beq f 591 then .code f591 else .none) else (bif Nat.beq f 592 then .code f592 else .none)) else (bif Nat.blt f 594 then (bif Nat.beq f 593 then .code f593 else .none) else (bif Nat.blt f 595 then (bif Nat.beq f 594 then .code f594 else .none) else (bif Nat.beq f 595 then .code f595 else .none)))) else (bif Nat.blt f 612 then (bif Nat.blt f 597 then (bif Nat.beq f 596 then .code f596 else .none) else (bif Nat.beq f 597 then .code f597 else .none)) else (bif Nat.blt f 613 then (bif Nat.beq f 612 then .code f612 else .none) else (bif Nat.blt f 614 then (bif Nat.beq f 613 then .code f613 else .none) else (bif Nat.beq f 614 then .code f614 else .none)))))) else (bif Nat.blt f 646 then (bif Nat.blt f 627 then (bif Nat.blt f 624 then (bif Nat.blt f 623 then (bif Nat.beq f 615 then .code f615 else .none) else (bif Nat.beq f 623 then .code f623 else .none)) else (bif Nat.blt f 625 then (bif Nat.beq f 624 then .code f624 else .none) else (bif Nat.blt f 626 then (bif Nat.beq f 625 then .code f625 else .none) else (bif Nat.beq f 626 then .code f626 else .none)))) else (bif Nat.blt f 629 then (bif Nat.blt f 628 then (bif Nat.beq f 627 then .code f627 else .none) else (bif Nat.beq f 628 then .code f628 else .none)) else (bif Nat.blt f 630 then (bif Nat.beq f 629 then .code f629 else .none) else (bif Nat.blt f 631 then (bif Nat.beq f 630 then .code f630 else .none) else (bif Nat.beq f 631 then .code f631 else .none))))) else (bif Nat.blt f 655 then (bif Nat.blt f 648 then (bif Nat.blt f 647 then (bif Nat.beq f 646 then .code f646 else .none) else (bif Nat.beq f 647 then .code f647 else .none)) else (bif Nat.blt f 653 then (bif Nat.beq f 648 then .code f648 else .none) else (bif Nat.blt f 654 then (bif Nat.beq f 653 then .code f653 else .none) else (bif Nat.beq f 654 then .code f654 else .none)))) else (bif Nat.blt f 658 then (bif Nat.blt f 657 then (bif Nat.beq f 655 then .code f655 else .none) else (bif Nat.beq f 657 then .code f657 else .none)) else (bif Nat.blt f 659 then (bif Nat.beq f 658 then .code f658 else .none) else (bif Nat.blt f 660 then (bif Nat.beq f 659 then .code f659 else .none) else (bif Nat.beq f 660 then .code f660 else .none))))))))
end Go.AM.IR
namespace Go.AM.IR
end Go.AM.IR
namespace Go.AM.IR
set_option maxRecDepth 100000
theorem lives378_gives : Gives G 378 [] [] ⟨.bool true, []⟩ := gives_run 100000000 rfl rfl (by kernel_rfl)
end Go.AM.IR
namespace Go.AM.IR
def encI (x : Int) : List AV := [.int .i64 x]
def encU (x : Int) : List AV := [.int .u32 x]
structure Seg where
  kind : Int
  as : List Int
def Seg.enc (s : Seg) : List AV := [.int .i64 s.kind, .sl 1 (s.as.map encI)]
structure TLV where
  kind : Int
  value : List UInt8
def TLV.enc (s : TLV) : List AV := [.int .i64 s.kind, .sl 1 (byteCells s.value)]
structure Attrs where
  origin : Int
  path : List Seg
  nextHop : Int
  hasMED : Bool
  med : Int
  hasPref : Bool
  pref : Int
  atomic : Bool
  hasAggr : Bool
  aggrAS : Int
  aggrAddr : Int
  comms : List Int
  hasOrig : Bool
  orig : Int
  clusters : List Int
  unknown : List TLV
def Attrs.enc (a : Attrs) : List AV := [.int .i64 a.origin, .sl 2 (a.path.map Seg.enc), .int .u32 a.nextHop, .bool a.hasMED, .int .i64 a.med, .bool a.hasPref, .int .i64 a.pref, .bool a.atomic, .bool a.hasAggr, .int .i64 a.aggrAS, .int .u32 a.aggrAddr,
  .sl 1 (a.comms.map encU), .bool a.hasOrig, .int .u32 a.orig, .sl 1 (a.clusters.map encU), .sl 2 (a.unknown.map TLV.enc)]
structure PVRoute where
  paddr : Int
  plen : Int
  attrs : Attrs
  peer : Int
  kind : Int
  router : Int
  stale : Bool
def PVRoute.enc (r : PVRoute) : List AV := [.int .u32 r.paddr, .int .i64 r.plen,
  .int .i64 r.attrs.origin, .sl 2 (r.attrs.path.map Seg.enc), .int .u32 r.attrs.nextHop, .bool r.attrs.hasMED, .int .i64 r.attrs.med, .bool r.attrs.hasPref, .int .i64 r.attrs.pref, .bool r.attrs.atomic, .bool r.attrs.hasAggr, .int .i64 r.attrs.aggrAS, .int .u32 r.attrs.aggrAddr,
  .sl 1 (r.attrs.comms.map encU), .bool r.attrs.hasOrig, .int .u32 r.attrs.orig, .sl 1 (r.attrs.clusters.map encU), .sl 2 (r.attrs.unknown.map TLV.enc),
  .int .i64 r.peer, .int .i64 r.kind, .int .u32 r.router, .bool r.stale]
structure IGP where
  addr : Int
  cost : Int
def IGP.enc (c : IGP) : List AV := [.int .u32 c.addr, .int .i64 c.cost]
theorem pureLL_map {α : Type} {f : α → List AV} (h : ∀ x, pureL (f x) = true) : ∀ l : List α, pureLL (l.map f) = true
  | [] => rfl
  | x :: r => by simp only [List.map_cons, pureLL, h x, pureLL_map h r, Bool.and_self]
theorem pureLL_bytes : ∀ l : List UInt8, pureLL (byteCells l) = true := fun l => pureLL_map (f := fun b : UInt8 => [AV.int .u8 (b.toNat : Int)]) (fun _ => rfl) l
@[simp] theorem pure_encI (l : List Int) : pureLL (l.map encI) = true := pureLL_map (fun _ => rfl) l
@[simp] theorem pure_encU (l : List Int) : pureLL (l.map encU) = true := pureLL_map (fun _ => rfl) l
theorem Seg.pure (s : Seg) : pureL s.enc = true := by simp [Seg.enc, pureL, AV.pure]
@[simp] theorem pure_segs (l : List Seg) : pureLL (l.map Seg.enc) = true := pureLL_map Seg.pure l
theorem TLV.pure (s : TLV) : pureL s.enc = true := by simp [TLV.enc, pureL, AV.pure, pureLL_bytes]
@[simp] theorem pure_tlvs (l : List TLV) : pureLL (l.map TLV.enc) = true := pureLL_map TLV.pure l
@[simp] theorem Attrs.pure (s : Attrs) : pureL s.enc = true := by simp [Attrs.enc, pureL, AV.pure]
@[simp] theorem PVRoute.pure (s : PVRoute) : pureL s.enc = true := by simp [PVRoute.enc, pureL, AV.pure]
@[simp] theorem pure_routes (l : List PVRoute) : pureLL (l.map PVRoute.enc) = true := pureLL_map PVRoute.pure l
@[simp] theorem pure_igps (l : List IGP) : pureLL (l.map IGP.enc) = true := pureLL_map (fun _ => rfl) l
end Go.AM.IR
namespace Go.AM.IR
theorem lift_enc {α : Type} {e : List AV → Prop} {enc : α → List AV} {Q : α → Prop} (h : ∀ x, e x → ∃ a, x = enc a ∧ Q a) : ∀ es : List (List AV), (∀ x ∈ es, e x) → ∃ l : List α, es = l.map enc ∧ ∀ a ∈ l, Q a
  | [], _ => ⟨[], rfl, by simp⟩
  | x :: r, hx => by
    obtain ⟨a, rfl, ha⟩ := h x (hx x (by simp))
    obtain ⟨l, rfl, hl⟩ := lift_enc h r fun y hy => hx y (by simp [hy])
    exact ⟨a :: l, rfl, by simpa using ⟨ha, hl⟩⟩
def okI (x : Int) : Prop := -9223372036854775808 ≤ x ∧ x ≤ 9223372036854775807
def okU (x : Int) : Prop := 0 ≤ x ∧ x ≤ 4294967295
theorem T_i64 {as : List AV} (h : Ty.T (.int .i64) as) : ∃ x, as = encI x ∧ okI x := by
  obtain ⟨n, rfl, h1, h2⟩ := h
  exact ⟨n, rfl, by simpa [IntKind.min, IntKind.max, IntKind.signed, IntKind.bits, okI] using And.intro h1 h2⟩
theorem T_u32 {as : List AV} (h : Ty.T (.int .u32) as) : ∃ x, as = encU x ∧ okU x := by
  obtain ⟨n, rfl, h1, h2⟩ := h
  exact ⟨n, rfl, by simpa [IntKind.min, IntKind.max, IntKind.signed, IntKind.bits, okU] using And.intro h1 h2⟩
theorem T_sl {α : Type} {τ : Ty} {enc : α → List AV} {Q : α → Prop} (h : ∀ x, τ.T x → ∃ a, x = enc a ∧ Q a) {as : List AV} (hs : Ty.T (.sl τ) as) : ∃ l : List α, as = [.sl τ.cells (l.map enc)] ∧ ∀ a ∈ l, Q a := by
  obtain ⟨es, rfl, h1, _⟩ := hs
  obtain ⟨l, rfl, h2⟩ := lift_enc h es h1
  exact ⟨l, rfl, h2⟩
structure Seg.ok (s : Seg) : Prop where
  kind : okI s.kind
  as : ∀ x ∈ s.as, okI x
structure TLV.ok (s : TLV) : Prop where
  kind : okI s.kind
structure IGP.ok (s : IGP) : Prop where
  addr : okU s.addr
  cost : okI s.cost
structure Attrs.ok (a : Attrs) : Prop where
  origin : okI a.origin
  path : ∀ s ∈ a.path, s.ok
  nextHop : okU a.nextHop
  med : okI a.med
  pref : okI a.pref
  aggrAS : okI a.aggrAS
  aggrAddr : okU a.aggrAddr
  comms : ∀ x ∈ a.comms, okU x
  orig : okU a.orig
  clusters : ∀ x ∈ a.clusters, okU x
  unknown : ∀ x ∈ a.unknown, x.ok
structure PVRoute.ok (r : PVRoute) : Prop where
  paddr : okU r.paddr
  plen : okI r.plen
  attrs : r.attrs.ok
  peer : okI r.peer
  kind : okI r.kind
  router : okU r.router
end Go.AM.IR
namespace Go.AM.IR
structure Pfx where
  addr : Int
  len : Int
  deriving DecidableEq
def Pfx.enc (p : Pfx) : List AV := [.int .u32 p.addr, .int .i64 p.len]
structure Cap where
  code : Int
  value : List UInt8
  deriving DecidableEq
def Cap.enc (p : Cap) : List AV := [.int .i64 p.code, .sl 1 (byteCells p.value)]
structure PMsg where
  kind : Int
  version : Int
  as : Int
  hold : Int
  router : Int
  caps : List Cap
  withdrawn : List Pfx
  attrs : Attrs
  reach : List Pfx
  code : Int
  sub : Int
  data : List UInt8
def PMsg.enc (m : PMsg) : List AV := [.int .i64 m.kind, .int .i64 m.version, .int .i64 m.as, .int .i64 m.hold, .int .u32 m.router, .sl 2 (m.caps.map Cap.enc), .sl 2 (m.withdrawn.map Pfx.enc),
  .int .i64 m.attrs.origin, .sl 2 (m.attrs.path.map Seg.enc), .int .u32 m.attrs.nextHop, .bool m.attrs.hasMED, .int .i64 m.attrs.med, .bool m.attrs.hasPref, .int .i64 m.attrs.pref, .bool m.attrs.atomic, .bool m.attrs.hasAggr, .int .i64 m.attrs.aggrAS, .int .u32 m.attrs.aggrAddr,
  .sl 1 (m.attrs.comms.map encU), .bool m.attrs.hasOrig, .int .u32 m.attrs.orig, .sl 1 (m.attrs.clusters.map encU), .sl 2 (m.attrs.unknown.map TLV.enc),
  .sl 2 (m.reach.map Pfx.enc), .int .i64 m.code, .int .i64 m.sub, .sl 1 (byteCells m.data)]
structure Peer where
  kind : Int
  as : Int
  addr : Int
  loc : Int
  client : Bool
  hold : Int
  restart : Int
  imp : List UInt8
  exp : List UInt8
  nextSelf : Bool
  damp : Bool
def Peer.enc (p : Peer) : List AV := [.int .i64 p.kind, .int .i64 p.as, .int .u32 p.addr, .int .u32 p.loc, .bool p.client, .int .i64 p.hold, .int .i64 p.restart, .str p.imp, .str p.exp, .bool p.nextSelf, .bool p.damp]
structure Conf where
  as : Int
  confed : Int
  router : Int
  cluster : Int
  peers : List Peer
  nets : AV
  p1 : AV
  p2 : AV
  p3 : AV
  p4 : AV
  d1 : Int
  d2 : Int
  d3 : Int
  d4 : Int
  multi : Int
def Conf.enc (c : Conf) : List AV := [.int .i64 c.as, .int .i64 c.confed, .int .u32 c.router, .int .u32 c.cluster, .sl 11 (c.peers.map Peer.enc), c.nets, c.p1, c.p2, c.p3, c.p4, .int .i64 c.d1, .int .i64 c.d2, .int .i64 c.d3, .int .i64 c.d4, .int .i64 c.multi]
structure Ses where
  state : Int
  retry : Int
  hold : Int
  keep : Int
  holdTime : Int
  router : Int
  restart : Int
  refresh : Bool
  untl : Int
def Ses.enc (s : Ses) : List AV := [.int .i64 s.state, .int .i64 s.retry, .int .i64 s.hold, .int .i64 s.keep, .int .i64 s.holdTime, .int .u32 s.router, .int .i64 s.restart, .bool s.refresh, .int .i64 s.untl]
structure Act where
  kind : Int
  msg : PMsg
def Act.enc (a : Act) : List AV := .int .i64 a.kind :: a.msg.enc
theorem Pfx.pure (s : Pfx) : pureL s.enc = true := rfl
@[simp] theorem pure_pfxs (l : List Pfx) : pureLL (l.map Pfx.enc) = true := pureLL_map Pfx.pure l
theorem Cap.pure (s : Cap) : pureL s.enc = true := by simp [Cap.enc, pureL, AV.pure, pureLL_bytes]
@[simp] theorem pure_caps (l : List Cap) : pureLL (l.map Cap.enc) = true := pureLL_map Cap.pure l
@[simp] theorem PMsg.pure (s : PMsg) : pureL s.enc = true := by simp [PMsg.enc, pureL, AV.pure, pureLL_bytes]
theorem Peer.pure (s : Peer) : pureL s.enc = true := rfl
@[simp] theorem pure_peers (l : List Peer) : pureLL (l.map Peer.enc) = true := pureLL_map Peer.pure l
@[simp] theorem Ses.pure (s : Ses) : pureL s.enc = true := rfl
@[simp] theorem Act.pure (s : Act) : pureL s.enc = true := by simp [Act.enc, pureL, AV.pure]
@[simp] theorem pure_acts (l : List Act) : pureLL (l.map Act.enc) = true := pureLL_map Act.pure l
structure Conf.ok (c : Conf) : Prop where
  nets : c.nets.pure = true
  p1 : c.p1.pure = true
  p2 : c.p2.pure = true
  p3 : c.p3.pure = true
  p4 : c.p4.pure = true
  as : okI c.as
  confed : okI c.confed
  router : okU c.router
  peers : ∀ p ∈ c.peers, okI p.as ∧ okI p.hold ∧ okI p.restart ∧ okI p.kind
  len : c.peers.length ≤ maxLen
theorem Conf.pure {c : Conf} (h : c.ok) : pureL c.enc = true := by simp [Conf.enc, pureL, AV.pure, h.nets, h.p1, h.p2, h.p3, h.p4]
def tPfx : Ty := .st [.int .u32, .int .i64]
structure Pfx.ok (p : Pfx) : Prop where
  addr : okU p.addr
  len : okI p.len
theorem T_pfx {as : List AV} (h : tPfx.T as) : ∃ s : Pfx, as = s.enc ∧ s.ok := by
  simp only [tPfx, Ty.T.eq_5, TT] at h
  obtain ⟨a1, b1, rfl, h1, a2, b2, rfl, h2, rfl⟩ := h
  obtain ⟨x1, rfl, k1⟩ := T_u32 h1
  obtain ⟨x2, rfl, k2⟩ := T_i64 h2
  exact ⟨⟨x1, x2⟩, rfl, k1, k2⟩
structure PMsg.ok (m : PMsg) : Prop where
  kind : okI m.kind
  version : okI m.version
  as : okI m.as
  hold : okI m.hold
  router : okU m.router
  caps : ∀ c ∈ m.caps, okI c.code
  withdrawn : ∀ p ∈ m.withdrawn, p.ok
  attrs : m.attrs.ok
  reach : ∀ p ∈ m.reach, p.ok
  code : okI m.code
  sub : okI m.sub
theorem T_str {as : List AV} (h : Ty.T .str as) : ∃ s, as = [.str s] := by
  obtain ⟨s, rfl, _⟩ := h; exact ⟨s, rfl⟩
structure Ses.ok (s : Ses) : Prop where
  state : okI s.state
  retry : okI s.retry
  hold : okI s.hold
  keep : okI s.keep
  holdTime : okI s.holdTime
  router : okU s.router
  restart : okI s.restart
  untl : okI s.untl
end Go.AM.IR
namespace Go.AM.IR
set_option maxHeartbeats 1000000
@[simp] theorem enc_pure_Pfx (x : Pfx) : pureL x.enc = true := by simp [Pfx.enc, pureL, AV.pure]
@[simp] theorem pureLL_i : ∀ l : List Int, pureLL (l.map encI) = true
  | [] => rfl
  | x :: r => by simp only [List.map_cons, pureLL, pureLL_i r]; simp [encI, pureL, AV.pure]
@[simp] theorem pureLL_m_Pfx : ∀ l : List Pfx, pureLL (l.map Pfx.enc) = true
  | [] => rfl
  | x :: r => by simp only [List.map_cons, pureLL, pureLL_m_Pfx r, enc_pure_Pfx]; rfl
theorem T_sli {as : List AV} (h : Ty.T (.sl (.int .i64)) as) : ∃ l : List Int, as = [.sl 1 (l.map encI)] ∧ ∀ x ∈ l, okI x := T_sl (fun _ => T_i64) h
structure Ifc where
  kind : Int
  pfx : Pfx
  addr : Int
  area : Int
  cost : Int
  prio : Int
  hello : Int
  dead : Int
def Ifc.enc (r : Ifc) : List AV := [.int .i64 r.kind, .int .u32 r.pfx.addr, .int .i64 r.pfx.len, .int .u32 r.addr, .int .u32 r.area, .int .i64 r.cost, .int .i64 r.prio, .int .i64 r.hello, .int .i64 r.dead]
def Ifc.ok (r : Ifc) : Prop := okI r.kind ∧ Pfx.ok r.pfx ∧ okU r.addr ∧ okU r.area ∧ okI r.cost ∧ okI r.prio ∧ okI r.hello ∧ okI r.dead
def tIfc_ : Ty := .st [.int .i64, tPfx, .int .u32, .int .u32, .int .i64, .int .i64, .int .i64, .int .i64]
theorem T_Ifc {as : List AV} (h : tIfc_.T as) : ∃ s : Ifc, as = s.enc ∧ s.ok := by
  simp only [tIfc_, Ty.T.eq_5, TT] at h
  obtain ⟨a0, b0, rfl, h0, a1, b1, rfl, h1, a2, b2, rfl, h2, a3, b3, rfl, h3, a4, b4, rfl, h4, a5, b5, rfl, h5, a6, b6, rfl, h6, a7, b7, rfl, h7, rfl⟩ := h
  obtain ⟨x0, rfl, k0⟩ := T_i64 h0
  obtain ⟨x1, rfl, k1⟩ := T_pfx h1
  obtain ⟨x2, rfl, k2⟩ := T_u32 h2
  obtain ⟨x3, rfl, k3⟩ := T_u32 h3
  obtain ⟨x4, rfl, k4⟩ := T_i64 h4
  obtain ⟨x5, rfl, k5⟩ := T_i64 h5
  obtain ⟨x6, rfl, k6⟩ := T_i64 h6
  obtain ⟨x7, rfl, k7⟩ := T_i64 h7
  exact ⟨⟨x0, x1, x2, x3, x4, x5, x6, x7⟩, rfl, ⟨k0, k1, k2, k3, k4, k5, k6, k7⟩⟩
@[simp] theorem enc_pure_Ifc (x : Ifc) : pureL x.enc = true := by simp [Ifc.enc, pureL, AV.pure]
@[simp] theorem pureLL_m_Ifc : ∀ l : List Ifc, pureLL (l.map Ifc.enc) = true
  | [] => rfl
  | x :: r => by simp only [List.map_cons, pureLL, pureLL_m_Ifc r, enc_pure_Ifc]; rfl
structure ARange where
  area : Int
  pfx : Pfx
  adv : Bool
def ARange.enc (r : ARange) : List AV := [.int .u32 r.area, .int .u32 r.pfx.addr, .int .i64 r.pfx.len, .bool r.adv]
def ARange.ok (r : ARange) : Prop := okU r.area ∧ Pfx.ok r.pfx
def tARange_ : Ty := .st [.int .u32, tPfx, .bool]
theorem T_ARange {as : List AV} (h : tARange_.T as) : ∃ s : ARange, as = s.enc ∧ s.ok := by
  simp only [tARange_, Ty.T.eq_5, TT] at h
  obtain ⟨a0, b0, rfl, h0, a1, b1, rfl, h1, a2, b2, rfl, h2, rfl⟩ := h
  obtain ⟨x0, rfl, k0⟩ := T_u32 h0
  obtain ⟨x1, rfl, k1⟩ := T_pfx h1
  obtain ⟨x2, rfl⟩ := h2
  exact ⟨⟨x0, x1, x2⟩, rfl, ⟨k0, k1⟩⟩
@[simp] theorem enc_pure_ARange (x : ARange) : pureL x.enc = true := by simp [ARange.enc, pureL, AV.pure]
@[simp] theorem pureLL_m_ARange : ∀ l : List ARange, pureLL (l.map ARange.enc) = true
  | [] => rfl
  | x :: r => by simp only [List.map_cons, pureLL, pureLL_m_ARange r, enc_pure_ARange]; rfl
structure LSC where
  router : Int
  ifs : List Ifc
  ranges : List ARange
def LSC.enc (r : LSC) : List AV := [.int .u32 r.router, .sl 9 (r.ifs.map Ifc.enc), .sl 4 (r.ranges.map ARange.enc)]
def LSC.ok (r : LSC) : Prop := okU r.router ∧ (∀ x ∈ r.ifs, Ifc.ok x) ∧ (∀ x ∈ r.ranges, ARange.ok x)
def tLSC_ : Ty := .st [.int .u32, .sl tIfc_, .sl tARange_]
theorem T_LSC {as : List AV} (h : tLSC_.T as) : ∃ s : LSC, as = s.enc ∧ s.ok := by
  simp only [tLSC_, Ty.T.eq_5, TT] at h
  obtain ⟨a0, b0, rfl, h0, a1, b1, rfl, h1, a2, b2, rfl, h2, rfl⟩ := h
  obtain ⟨x0, rfl, k0⟩ := T_u32 h0
  obtain ⟨x1, rfl, k1⟩ := T_sl (fun _ => T_Ifc) h1
  obtain ⟨x2, rfl, k2⟩ := T_sl (fun _ => T_ARange) h2
  exact ⟨⟨x0, x1, x2⟩, rfl, ⟨k0, k1, k2⟩⟩
@[simp] theorem enc_pure_LSC (x : LSC) : pureL x.enc = true := by simp [LSC.enc, pureL, AV.pure]
@[simp] theorem pureLL_m_LSC : ∀ l : List LSC, pureLL (l.map LSC.enc) = true
  | [] => rfl
  | x :: r => by simp only [List.map_cons, pureLL, pureLL_m_LSC r, enc_pure_LSC]; rfl
structure RuleP where
  permit : Bool
  pfx : Pfx
  min : Int
  max : Int
def RuleP.enc (r : RuleP) : List AV := [.bool r.permit, .int .u32 r.pfx.addr, .int .i64 r.pfx.len, .int .i64 r.min, .int .i64 r.max]
def RuleP.ok (r : RuleP) : Prop := Pfx.ok r.pfx ∧ okI r.min ∧ okI r.max
def tRuleP_ : Ty := .st [.bool, tPfx, .int .i64, .int .i64]
theorem T_RuleP {as : List AV} (h : tRuleP_.T as) : ∃ s : RuleP, as = s.enc ∧ s.ok := by
  simp only [tRuleP_, Ty.T.eq_5, TT] at h
  obtain ⟨a0, b0, rfl, h0, a1, b1, rfl, h1, a2, b2, rfl, h2, a3, b3, rfl, h3, rfl⟩ := h
  obtain ⟨x0, rfl⟩ := h0
  obtain ⟨x1, rfl, k1⟩ := T_pfx h1
  obtain ⟨x2, rfl, k2⟩ := T_i64 h2
  obtain ⟨x3, rfl, k3⟩ := T_i64 h3
  exact ⟨⟨x0, x1, x2, x3⟩, rfl, ⟨k1, k2, k3⟩⟩
@[simp] theorem enc_pure_RuleP (x : RuleP) : pureL x.enc = true := by simp [RuleP.enc, pureL, AV.pure]
@[simp] theorem pureLL_m_RuleP : ∀ l : List RuleP, pureLL (l.map RuleP.enc) = true
  | [] => rfl
  | x :: r => by simp only [List.map_cons, pureLL, pureLL_m_RuleP r, enc_pure_RuleP]; rfl
structure PList where
  name : List UInt8
  rules : List RuleP
def PList.enc (r : PList) : List AV := [.str r.name, .sl 5 (r.rules.map RuleP.enc)]
def PList.ok (r : PList) : Prop := (∀ x ∈ r.rules, RuleP.ok x)
def tPList_ : Ty := .st [.str, .sl tRuleP_]
theorem T_PList {as : List AV} (h : tPList_.T as) : ∃ s : PList, as = s.enc ∧ s.ok := by
  simp only [tPList_, Ty.T.eq_5, TT] at h
  obtain ⟨a0, b0, rfl, h0, a1, b1, rfl, h1, rfl⟩ := h
  obtain ⟨x0, rfl⟩ := T_str h0
  obtain ⟨x1, rfl, k1⟩ := T_sl (fun _ => T_RuleP) h1
  exact ⟨⟨x0, x1⟩, rfl, k1⟩
@[simp] theorem enc_pure_PList (x : PList) : pureL x.enc = true := by simp [PList.enc, pureL, AV.pure]
@[simp] theorem pureLL_m_PList : ∀ l : List PList, pureLL (l.map PList.enc) = true
  | [] => rfl
  | x :: r => by simp only [List.map_cons, pureLL, pureLL_m_PList r, enc_pure_PList]; rfl
structure PathR where
  permit : Bool
  pattern : List UInt8
def PathR.enc (r : PathR) : List AV := [.bool r.permit, .str r.pattern]
def PathR.ok (r : PathR) : Prop := True
def tPathR_ : Ty := .st [.bool, .str]
theorem T_PathR {as : List AV} (h : tPathR_.T as) : ∃ s : PathR, as = s.enc ∧ s.ok := by
  simp only [tPathR_, Ty.T.eq_5, TT] at h
  obtain ⟨a0, b0, rfl, h0, a1, b1, rfl, h1, rfl⟩ := h
  obtain ⟨x0, rfl⟩ := h0
  obtain ⟨x1, rfl⟩ := T_str h1
  exact ⟨⟨x0, x1⟩, rfl, trivial⟩
@[simp] theorem enc_pure_PathR (x : PathR) : pureL x.enc = true := by simp [PathR.enc, pureL, AV.pure]
@[simp] theorem pureLL_m_PathR : ∀ l : List PathR, pureLL (l.map PathR.enc) = true
  | [] => rfl
  | x :: r => by simp only [List.map_cons, pureLL, pureLL_m_PathR r, enc_pure_PathR]; rfl
structure PathL where
  name : List UInt8
  rules : List PathR
def PathL.enc (r : PathL) : List AV := [.str r.name, .sl 2 (r.rules.map PathR.enc)]
def PathL.ok (r : PathL) : Prop := (∀ x ∈ r.rules, PathR.ok x)
def tPathL_ : Ty := .st [.str, .sl tPathR_]
theorem T_PathL {as : List AV} (h : tPathL_.T as) : ∃ s : PathL, as = s.enc ∧ s.ok := by
  simp only [tPathL_, Ty.T.eq_5, TT] at h
  obtain ⟨a0, b0, rfl, h0, a1, b1, rfl, h1, rfl⟩ := h
  obtain ⟨x0, rfl⟩ := T_str h0
  obtain ⟨x1, rfl, k1⟩ := T_sl (fun _ => T_PathR) h1
  exact ⟨⟨x0, x1⟩, rfl, k1⟩
@[simp] theorem enc_pure_PathL (x : PathL) : pureL x.enc = true := by simp [PathL.enc, pureL, AV.pure]
@[simp] theorem pureLL_m_PathL : ∀ l : List PathL, pureLL (l.map PathL.enc) = true
  | [] => rfl
  | x :: r => by simp only [List.map_cons, pureLL, pureLL_m_PathL r, enc_pure_PathL]; rfl
structure ComR where
  permit : Bool
  high : Int
  low : Int
def ComR.enc (r : ComR) : List AV := [.bool r.permit, .int .i64 r.high, .int .i64 r.low]
def ComR.ok (r : ComR) : Prop := okI r.high ∧ okI r.low
def tComR_ : Ty := .st [.bool, .int .i64, .int .i64]
theorem T_ComR {as : List AV} (h : tComR_.T as) : ∃ s : ComR, as = s.enc ∧ s.ok := by
  simp only [tComR_, Ty.T.eq_5, TT] at h
  obtain ⟨a0, b0, rfl, h0, a1, b1, rfl, h1, a2, b2, rfl, h2, rfl⟩ := h
  obtain ⟨x0, rfl⟩ := h0
  obtain ⟨x1, rfl, k1⟩ := T_i64 h1
  obtain ⟨x2, rfl, k2⟩ := T_i64 h2
  exact ⟨⟨x0, x1, x2⟩, rfl, ⟨k1, k2⟩⟩
@[simp] theorem enc_pure_ComR (x : ComR) : pureL x.enc = true := by simp [ComR.enc, pureL, AV.pure]
@[simp] theorem pureLL_m_ComR : ∀ l : List ComR, pureLL (l.map ComR.enc) = true
  | [] => rfl
  | x :: r => by simp only [List.map_cons, pureLL, pureLL_m_ComR r, enc_pure_ComR]; rfl
structure ComL where
  name : List UInt8
  rules : List ComR
def ComL.enc (r : ComL) : List AV := [.str r.name, .sl 3 (r.rules.map ComR.enc)]
def ComL.ok (r : ComL) : Prop := (∀ x ∈ r.rules, ComR.ok x)
def tComL_ : Ty := .st [.str, .sl tComR_]
theorem T_ComL {as : List AV} (h : tComL_.T as) : ∃ s : ComL, as = s.enc ∧ s.ok := by
  simp only [tComL_, Ty.T.eq_5, TT] at h
  obtain ⟨a0, b0, rfl, h0, a1, b1, rfl, h1, rfl⟩ := h
  obtain ⟨x0, rfl⟩ := T_str h0
  obtain ⟨x1, rfl, k1⟩ := T_sl (fun _ => T_ComR) h1
  exact ⟨⟨x0, x1⟩, rfl, k1⟩
@[simp] theorem enc_pure_ComL (x : ComL) : pureL x.enc = true := by simp [ComL.enc, pureL, AV.pure]
@[simp] theorem pureLL_m_ComL : ∀ l : List ComL, pureLL (l.map ComL.enc) = true
  | [] => rfl
  | x :: r => by simp only [List.map_cons, pureLL, pureLL_m_ComL r, enc_pure_ComL]; rfl
structure Mat where
  kind : Int
  name : List UInt8
  n : Int
  pfx : Pfx
  neg : Bool
def Mat.enc (r : Mat) : List AV := [.int .i64 r.kind, .str r.name, .int .i64 r.n, .int .u32 r.pfx.addr, .int .i64 r.pfx.len, .bool r.neg]
def Mat.ok (r : Mat) : Prop := okI r.kind ∧ okI r.n ∧ Pfx.ok r.pfx
def tMat_ : Ty := .st [.int .i64, .str, .int .i64, tPfx, .bool]
theorem T_Mat {as : List AV} (h : tMat_.T as) : ∃ s : Mat, as = s.enc ∧ s.ok := by
  simp only [tMat_, Ty.T.eq_5, TT] at h
  obtain ⟨a0, b0, rfl, h0, a1, b1, rfl, h1, a2, b2, rfl, h2, a3, b3, rfl, h3, a4, b4, rfl, h4, rfl⟩ := h
  obtain ⟨x0, rfl, k0⟩ := T_i64 h0
  obtain ⟨x1, rfl⟩ := T_str h1
  obtain ⟨x2, rfl, k2⟩ := T_i64 h2
  obtain ⟨x3, rfl, k3⟩ := T_pfx h3
  obtain ⟨x4, rfl⟩ := h4
  exact ⟨⟨x0, x1, x2, x3, x4⟩, rfl, ⟨k0, k2, k3⟩⟩
@[simp] theorem enc_pure_Mat (x : Mat) : pureL x.enc = true := by simp [Mat.enc, pureL, AV.pure]
@[simp] theorem pureLL_m_Mat : ∀ l : List Mat, pureLL (l.map Mat.enc) = true
  | [] => rfl
  | x :: r => by simp only [List.map_cons, pureLL, pureLL_m_Mat r, enc_pure_Mat]; rfl
structure Actn where
  kind : Int
  n : Int
  asn : Int
  com : Int
  addr : Int
def Actn.enc (r : Actn) : List AV := [.int .i64 r.kind, .int .i64 r.n, .int .i64 r.asn, .int .u32 r.com, .int .u32 r.addr]
def Actn.ok (r : Actn) : Prop := okI r.kind ∧ okI r.n ∧ okI r.asn ∧ okU r.com ∧ okU r.addr
def tActn_ : Ty := .st [.int .i64, .int .i64, .int .i64, .int .u32, .int .u32]
theorem T_Actn {as : List AV} (h : tActn_.T as) : ∃ s : Actn, as = s.enc ∧ s.ok := by
  simp only [tActn_, Ty.T.eq_5, TT] at h
  obtain ⟨a0, b0, rfl, h0, a1, b1, rfl, h1, a2, b2, rfl, h2, a3, b3, rfl, h3, a4, b4, rfl, h4, rfl⟩ := h
  obtain ⟨x0, rfl, k0⟩ := T_i64 h0
  obtain ⟨x1, rfl, k1⟩ := T_i64 h1
  obtain ⟨x2, rfl, k2⟩ := T_i64 h2
  obtain ⟨x3, rfl, k3⟩ := T_u32 h3
  obtain ⟨x4, rfl, k4⟩ := T_u32 h4
  exact ⟨⟨x0, x1, x2, x3, x4⟩, rfl, ⟨k0, k1, k2, k3, k4⟩⟩
@[simp] theorem enc_pure_Actn (x : Actn) : pureL x.enc = true := by simp [Actn.enc, pureL, AV.pure]
@[simp] theorem pureLL_m_Actn : ∀ l : List Actn, pureLL (l.map Actn.enc) = true
  | [] => rfl
  | x :: r => by simp only [List.map_cons, pureLL, pureLL_m_Actn r, enc_pure_Actn]; rfl
structure Trm where
  name : List UInt8
  mats : List Mat
  acts : List Actn
  verdict : Int
def Trm.enc (r : Trm) : List AV := [.str r.name, .sl 6 (r.mats.map Mat.enc), .sl 5 (r.acts.map Actn.enc), .int .i64 r.verdict]
def Trm.ok (r : Trm) : Prop := (∀ x ∈ r.mats, Mat.ok x) ∧ (∀ x ∈ r.acts, Actn.ok x) ∧ okI r.verdict
def tTrm_ : Ty := .st [.str, .sl tMat_, .sl tActn_, .int .i64]
theorem T_Trm {as : List AV} (h : tTrm_.T as) : ∃ s : Trm, as = s.enc ∧ s.ok := by
  simp only [tTrm_, Ty.T.eq_5, TT] at h
  obtain ⟨a0, b0, rfl, h0, a1, b1, rfl, h1, a2, b2, rfl, h2, a3, b3, rfl, h3, rfl⟩ := h
  obtain ⟨x0, rfl⟩ := T_str h0
  obtain ⟨x1, rfl, k1⟩ := T_sl (fun _ => T_Mat) h1
  obtain ⟨x2, rfl, k2⟩ := T_sl (fun _ => T_Actn) h2
  obtain ⟨x3, rfl, k3⟩ := T_i64 h3
  exact ⟨⟨x0, x1, x2, x3⟩, rfl, ⟨k1, k2, k3⟩⟩
@[simp] theorem enc_pure_Trm (x : Trm) : pureL x.enc = true := by simp [Trm.enc, pureL, AV.pure]
@[simp] theorem pureLL_m_Trm : ∀ l : List Trm, pureLL (l.map Trm.enc) = true
  | [] => rfl
  | x :: r => by simp only [List.map_cons, pureLL, pureLL_m_Trm r, enc_pure_Trm]; rfl
structure Pol where
  name : List UInt8
  terms : List Trm
  dflt : Int
def Pol.enc (r : Pol) : List AV := [.str r.name, .sl 4 (r.terms.map Trm.enc), .int .i64 r.dflt]
def Pol.ok (r : Pol) : Prop := (∀ x ∈ r.terms, Trm.ok x) ∧ okI r.dflt
def tPol_ : Ty := .st [.str, .sl tTrm_, .int .i64]
theorem T_Pol {as : List AV} (h : tPol_.T as) : ∃ s : Pol, as = s.enc ∧ s.ok := by
  simp only [tPol_, Ty.T.eq_5, TT] at h
  obtain ⟨a0, b0, rfl, h0, a1, b1, rfl, h1, a2, b2, rfl, h2, rfl⟩ := h
  obtain ⟨x0, rfl⟩ := T_str h0
  obtain ⟨x1, rfl, k1⟩ := T_sl (fun _ => T_Trm) h1
  obtain ⟨x2, rfl, k2⟩ := T_i64 h2
  exact ⟨⟨x0, x1, x2⟩, rfl, ⟨k1, k2⟩⟩
@[simp] theorem enc_pure_Pol (x : Pol) : pureL x.enc = true := by simp [Pol.enc, pureL, AV.pure]
@[simp] theorem pureLL_m_Pol : ∀ l : List Pol, pureLL (l.map Pol.enc) = true
  | [] => rfl
  | x :: r => by simp only [List.map_cons, pureLL, pureLL_m_Pol r, enc_pure_Pol]; rfl
structure PSet where
  prefixes : List PList
  paths : List PathL
  comms : List ComL
  pols : List Pol
def PSet.enc (r : PSet) : List AV := [.sl 2 (r.prefixes.map PList.enc), .sl 2 (r.paths.map PathL.enc), .sl 2 (r.comms.map ComL.enc), .sl 3 (r.pols.map Pol.enc)]
def PSet.ok (r : PSet) : Prop := (∀ x ∈ r.prefixes, PList.ok x) ∧ (∀ x ∈ r.paths, PathL.ok x) ∧ (∀ x ∈ r.comms, ComL.ok x) ∧ (∀ x ∈ r.pols, Pol.ok x)
def tPSet_ : Ty := .st [.sl tPList_, .sl tPathL_, .sl tComL_, .sl tPol_]
theorem T_PSet {as : List AV} (h : tPSet_.T as) : ∃ s : PSet, as = s.enc ∧ s.ok := by
  simp only [tPSet_, Ty.T.eq_5, TT] at h
  obtain ⟨a0, b0, rfl, h0, a1, b1, rfl, h1, a2, b2, rfl, h2, a3, b3, rfl, h3, rfl⟩ := h
  obtain ⟨x0, rfl, k0⟩ := T_sl (fun _ => T_PList) h0
  obtain ⟨x1, rfl, k1⟩ := T_sl (fun _ => T_PathL) h1
  obtain ⟨x2, rfl, k2⟩ := T_sl (fun _ => T_ComL) h2
  obtain ⟨x3, rfl, k3⟩ := T_sl (fun _ => T_Pol) h3
  exact ⟨⟨x0, x1, x2, x3⟩, rfl, ⟨k0, k1, k2, k3⟩⟩
@[simp] theorem enc_pure_PSet (x : PSet) : pureL x.enc = true := by simp [PSet.enc, pureL, AV.pure]
@[simp] theorem pureLL_m_PSet : ∀ l : List PSet, pureLL (l.map PSet.enc) = true
  | [] => rfl
  | x :: r => by simp only [List.map_cons, pureLL, pureLL_m_PSet r, enc_pure_PSet]; rfl
structure PeerC where
  kind : Int
  asn : Int
  addr : Int
  loc : Int
  client : Bool
  hold : Int
  restart : Int
  imp : List UInt8
  exp : List UInt8
  nextSelf : Bool
  damp : Bool
def PeerC.enc (r : PeerC) : List AV := [.int .i64 r.kind, .int .i64 r.asn, .int .u32 r.addr, .int .u32 r.loc, .bool r.client, .int .i64 r.hold, .int .i64 r.restart, .str r.imp, .str r.exp, .bool r.nextSelf, .bool r.damp]
def PeerC.ok (r : PeerC) : Prop := okI r.kind ∧ okI r.asn ∧ okU r.addr ∧ okU r.loc ∧ okI r.hold ∧ okI r.restart
def tPeerC_ : Ty := .st [.int .i64, .int .i64, .int .u32, .int .u32, .bool, .int .i64, .int .i64, .str, .str, .bool, .bool]
theorem T_PeerC {as : List AV} (h : tPeerC_.T as) : ∃ s : PeerC, as = s.enc ∧ s.ok := by
  simp only [tPeerC_, Ty.T.eq_5, TT] at h
  obtain ⟨a0, b0, rfl, h0, a1, b1, rfl, h1, a2, b2, rfl, h2, a3, b3, rfl, h3, a4, b4, rfl, h4, a5, b5, rfl, h5, a6, b6, rfl, h6, a7, b7, rfl, h7, a8, b8, rfl, h8, a9, b9, rfl, h9, a10, b10, rfl, h10, rfl⟩ := h
  obtain ⟨x0, rfl, k0⟩ := T_i64 h0
  obtain ⟨x1, rfl, k1⟩ := T_i64 h1
  obtain ⟨x2, rfl, k2⟩ := T_u32 h2
  obtain ⟨x3, rfl, k3⟩ := T_u32 h3
  obtain ⟨x4, rfl⟩ := h4
  obtain ⟨x5, rfl, k5⟩ := T_i64 h5
  obtain ⟨x6, rfl, k6⟩ := T_i64 h6
  obtain ⟨x7, rfl⟩ := T_str h7
  obtain ⟨x8, rfl⟩ := T_str h8
  obtain ⟨x9, rfl⟩ := h9
  obtain ⟨x10, rfl⟩ := h10
  exact ⟨⟨x0, x1, x2, x3, x4, x5, x6, x7, x8, x9, x10⟩, rfl, ⟨k0, k1, k2, k3, k5, k6⟩⟩
@[simp] theorem enc_pure_PeerC (x : PeerC) : pureL x.enc = true := by simp [PeerC.enc, pureL, AV.pure]
@[simp] theorem pureLL_m_PeerC : ∀ l : List PeerC, pureLL (l.map PeerC.enc) = true
  | [] => rfl
  | x :: r => by simp only [List.map_cons, pureLL, pureLL_m_PeerC r, enc_pure_PeerC]; rfl
structure DampC where
  half : Int
  reuse : Int
  suppress : Int
  maxTime : Int
def DampC.enc (r : DampC) : List AV := [.int .i64 r.half, .int .i64 r.reuse, .int .i64 r.suppress, .int .i64 r.maxTime]
def DampC.ok (r : DampC) : Prop := okI r.half ∧ okI r.reuse ∧ okI r.suppress ∧ okI r.maxTime
def tDampC_ : Ty := .st [.int .i64, .int .i64, .int .i64, .int .i64]
theorem T_DampC {as : List AV} (h : tDampC_.T as) : ∃ s : DampC, as = s.enc ∧ s.ok := by
  simp only [tDampC_, Ty.T.eq_5, TT] at h
  obtain ⟨a0, b0, rfl, h0, a1, b1, rfl, h1, a2, b2, rfl, h2, a3, b3, rfl, h3, rfl⟩ := h
  obtain ⟨x0, rfl, k0⟩ := T_i64 h0
  obtain ⟨x1, rfl, k1⟩ := T_i64 h1
  obtain ⟨x2, rfl, k2⟩ := T_i64 h2
  obtain ⟨x3, rfl, k3⟩ := T_i64 h3
  exact ⟨⟨x0, x1, x2, x3⟩, rfl, ⟨k0, k1, k2, k3⟩⟩
@[simp] theorem enc_pure_DampC (x : DampC) : pureL x.enc = true := by simp [DampC.enc, pureL, AV.pure]
@[simp] theorem pureLL_m_DampC : ∀ l : List DampC, pureLL (l.map DampC.enc) = true
  | [] => rfl
  | x :: r => by simp only [List.map_cons, pureLL, pureLL_m_DampC r, enc_pure_DampC]; rfl
structure PVC where
  asn : Int
  confed : Int
  router : Int
  cluster : Int
  peers : List PeerC
  nets : List Pfx
  pols : PSet
  damp : DampC
  multi : Int
def PVC.enc (r : PVC) : List AV := [.int .i64 r.asn, .int .i64 r.confed, .int .u32 r.router, .int .u32 r.cluster, .sl 11 (r.peers.map PeerC.enc), .sl 2 (r.nets.map Pfx.enc), .sl 2 (r.pols.prefixes.map PList.enc), .sl 2 (r.pols.paths.map PathL.enc), .sl 2 (r.pols.comms.map ComL.enc), .sl 3 (r.pols.pols.map Pol.enc), .int .i64 r.damp.half, .int .i64 r.damp.reuse, .int .i64 r.damp.suppress, .int .i64 r.damp.maxTime, .int .i64 r.multi]
def PVC.ok (r : PVC) : Prop := okI r.asn ∧ okI r.confed ∧ okU r.router ∧ okU r.cluster ∧ (∀ x ∈ r.peers, PeerC.ok x) ∧ (∀ x ∈ r.nets, Pfx.ok x) ∧ PSet.ok r.pols ∧ DampC.ok r.damp ∧ okI r.multi
def tPVC_ : Ty := .st [.int .i64, .int .i64, .int .u32, .int .u32, .sl tPeerC_, .sl tPfx, tPSet_, tDampC_, .int .i64]
theorem T_PVC {as : List AV} (h : tPVC_.T as) : ∃ s : PVC, as = s.enc ∧ s.ok := by
  simp only [tPVC_, Ty.T.eq_5, TT] at h
  obtain ⟨a0, b0, rfl, h0, a1, b1, rfl, h1, a2, b2, rfl, h2, a3, b3, rfl, h3, a4, b4, rfl, h4, a5, b5, rfl, h5, a6, b6, rfl, h6, a7, b7, rfl, h7, a8, b8, rfl, h8, rfl⟩ := h
  obtain ⟨x0, rfl, k0⟩ := T_i64 h0
  obtain ⟨x1, rfl, k1⟩ := T_i64 h1
  obtain ⟨x2, rfl, k2⟩ := T_u32 h2
  obtain ⟨x3, rfl, k3⟩ := T_u32 h3
  obtain ⟨x4, rfl, k4⟩ := T_sl (fun _ => T_PeerC) h4
  obtain ⟨x5, rfl, k5⟩ := T_sl (fun _ => T_pfx) h5
  obtain ⟨x6, rfl, k6⟩ := T_PSet h6
  obtain ⟨x7, rfl, k7⟩ := T_DampC h7
  obtain ⟨x8, rfl, k8⟩ := T_i64 h8
  exact ⟨⟨x0, x1, x2, x3, x4, x5, x6, x7, x8⟩, rfl, ⟨k0, k1, k2, k3, k4, k5, k6, k7, k8⟩⟩
@[simp] theorem enc_pure_PVC (x : PVC) : pureL x.enc = true := by simp [PVC.enc, pureL, AV.pure]
@[simp] theorem pureLL_m_PVC : ∀ l : List PVC, pureLL (l.map PVC.enc) = true
  | [] => rfl
  | x :: r => by simp only [List.map_cons, pureLL, pureLL_m_PVC r, enc_pure_PVC]; rfl
structure Red where
  src : Int
  dst : Int
  pol : List UInt8
  metric : Int
  second : Bool
def Red.enc (r : Red) : List AV := [.int .i64 r.src, .int .i64 r.dst, .str r.pol, .int .i64 r.metric, .bool r.second]
def Red.ok (r : Red) : Prop := okI r.src ∧ okI r.dst ∧ okI r.metric
def tRed_ : Ty := .st [.int .i64, .int .i64, .str, .int .i64, .bool]
theorem T_Red {as : List AV} (h : tRed_.T as) : ∃ s : Red, as = s.enc ∧ s.ok := by
  simp only [tRed_, Ty.T.eq_5, TT] at h
  obtain ⟨a0, b0, rfl, h0, a1, b1, rfl, h1, a2, b2, rfl, h2, a3, b3, rfl, h3, a4, b4, rfl, h4, rfl⟩ := h
  obtain ⟨x0, rfl, k0⟩ := T_i64 h0
  obtain ⟨x1, rfl, k1⟩ := T_i64 h1
  obtain ⟨x2, rfl⟩ := T_str h2
  obtain ⟨x3, rfl, k3⟩ := T_i64 h3
  obtain ⟨x4, rfl⟩ := h4
  exact ⟨⟨x0, x1, x2, x3, x4⟩, rfl, ⟨k0, k1, k3⟩⟩
@[simp] theorem enc_pure_Red (x : Red) : pureL x.enc = true := by simp [Red.enc, pureL, AV.pure]
@[simp] theorem pureLL_m_Red : ∀ l : List Red, pureLL (l.map Red.enc) = true
  | [] => rfl
  | x :: r => by simp only [List.map_cons, pureLL, pureLL_m_Red r, enc_pure_Red]; rfl
structure Stat where
  pfx : Pfx
  hop : Int
  dist : Int
def Stat.enc (r : Stat) : List AV := [.int .u32 r.pfx.addr, .int .i64 r.pfx.len, .int .u32 r.hop, .int .i64 r.dist]
def Stat.ok (r : Stat) : Prop := Pfx.ok r.pfx ∧ okU r.hop ∧ okI r.dist
def tStat_ : Ty := .st [tPfx, .int .u32, .int .i64]
theorem T_Stat {as : List AV} (h : tStat_.T as) : ∃ s : Stat, as = s.enc ∧ s.ok := by
  simp only [tStat_, Ty.T.eq_5, TT] at h
  obtain ⟨a0, b0, rfl, h0, a1, b1, rfl, h1, a2, b2, rfl, h2, rfl⟩ := h
  obtain ⟨x0, rfl, k0⟩ := T_pfx h0
  obtain ⟨x1, rfl, k1⟩ := T_u32 h1
  obtain ⟨x2, rfl, k2⟩ := T_i64 h2
  exact ⟨⟨x0, x1, x2⟩, rfl, ⟨k0, k1, k2⟩⟩
@[simp] theorem enc_pure_Stat (x : Stat) : pureL x.enc = true := by simp [Stat.enc, pureL, AV.pure]
@[simp] theorem pureLL_m_Stat : ∀ l : List Stat, pureLL (l.map Stat.enc) = true
  | [] => rfl
  | x :: r => by simp only [List.map_cons, pureLL, pureLL_m_Stat r, enc_pure_Stat]; rfl
structure RConf where
  name : List UInt8
  ls : LSC
  hasPV : Bool
  pv : PVC
  labels : Bool
  reroute : Bool
  redist : List Red
  stat : List Stat
  dists : List Int
def RConf.enc (r : RConf) : List AV := [.str r.name, .int .u32 r.ls.router, .sl 9 (r.ls.ifs.map Ifc.enc), .sl 4 (r.ls.ranges.map ARange.enc), .bool r.hasPV, .int .i64 r.pv.asn, .int .i64 r.pv.confed, .int .u32 r.pv.router, .int .u32 r.pv.cluster, .sl 11 (r.pv.peers.map PeerC.enc), .sl 2 (r.pv.nets.map Pfx.enc), .sl 2 (r.pv.pols.prefixes.map PList.enc), .sl 2 (r.pv.pols.paths.map PathL.enc), .sl 2 (r.pv.pols.comms.map ComL.enc), .sl 3 (r.pv.pols.pols.map Pol.enc), .int .i64 r.pv.damp.half, .int .i64 r.pv.damp.reuse, .int .i64 r.pv.damp.suppress, .int .i64 r.pv.damp.maxTime, .int .i64 r.pv.multi, .bool r.labels, .bool r.reroute, .sl 5 (r.redist.map Red.enc), .sl 4 (r.stat.map Stat.enc), .sl 1 (r.dists.map encI)]
def RConf.ok (r : RConf) : Prop := LSC.ok r.ls ∧ PVC.ok r.pv ∧ (∀ x ∈ r.redist, Red.ok x) ∧ (∀ x ∈ r.stat, Stat.ok x) ∧ (∀ x ∈ r.dists, okI x)
def tRConf_ : Ty := .st [.str, tLSC_, .bool, tPVC_, .bool, .bool, .sl tRed_, .sl tStat_, .sl (.int .i64)]
theorem T_RConf {as : List AV} (h : tRConf_.T as) : ∃ s : RConf, as = s.enc ∧ s.ok := by
  simp only [tRConf_, Ty.T.eq_5, TT] at h
  obtain ⟨a0, b0, rfl, h0, a1, b1, rfl, h1, a2, b2, rfl, h2, a3, b3, rfl, h3, a4, b4, rfl, h4, a5, b5, rfl, h5, a6, b6, rfl, h6, a7, b7, rfl, h7, a8, b8, rfl, h8, rfl⟩ := h
  obtain ⟨x0, rfl⟩ := T_str h0
  obtain ⟨x1, rfl, k1⟩ := T_LSC h1
  obtain ⟨x2, rfl⟩ := h2
  obtain ⟨x3, rfl, k3⟩ := T_PVC h3
  obtain ⟨x4, rfl⟩ := h4
  obtain ⟨x5, rfl⟩ := h5
  obtain ⟨x6, rfl, k6⟩ := T_sl (fun _ => T_Red) h6
  obtain ⟨x7, rfl, k7⟩ := T_sl (fun _ => T_Stat) h7
  obtain ⟨x8, rfl, k8⟩ := T_sli h8
  exact ⟨⟨x0, x1, x2, x3, x4, x5, x6, x7, x8⟩, rfl, ⟨k1, k3, k6, k7, k8⟩⟩
@[simp] theorem enc_pure_RConf (x : RConf) : pureL x.enc = true := by simp [RConf.enc, pureL, AV.pure]
@[simp] theorem pureLL_m_RConf : ∀ l : List RConf, pureLL (l.map RConf.enc) = true
  | [] => rfl
  | x :: r => by simp only [List.map_cons, pureLL, pureLL_m_RConf r, enc_pure_RConf]; rfl
structure LEnd where
  router : Int
  ifc : Int
def LEnd.enc (r : LEnd) : List AV := [.int .i64 r.router, .int .i64 r.ifc]
def LEnd.ok (r : LEnd) : Prop := okI r.router ∧ okI r.ifc
def tLEnd_ : Ty := .st [.int .i64, .int .i64]
theorem T_LEnd {as : List AV} (h : tLEnd_.T as) : ∃ s : LEnd, as = s.enc ∧ s.ok := by
  simp only [tLEnd_, Ty.T.eq_5, TT] at h
  obtain ⟨a0, b0, rfl, h0, a1, b1, rfl, h1, rfl⟩ := h
  obtain ⟨x0, rfl, k0⟩ := T_i64 h0
  obtain ⟨x1, rfl, k1⟩ := T_i64 h1
  exact ⟨⟨x0, x1⟩, rfl, ⟨k0, k1⟩⟩
@[simp] theorem enc_pure_LEnd (x : LEnd) : pureL x.enc = true := by simp [LEnd.enc, pureL, AV.pure]
@[simp] theorem pureLL_m_LEnd : ∀ l : List LEnd, pureLL (l.map LEnd.enc) = true
  | [] => rfl
  | x :: r => by simp only [List.map_cons, pureLL, pureLL_m_LEnd r, enc_pure_LEnd]; rfl
structure Lnk where
  ends : List LEnd
  delay : Int
def Lnk.enc (r : Lnk) : List AV := [.sl 2 (r.ends.map LEnd.enc), .int .i64 r.delay]
def Lnk.ok (r : Lnk) : Prop := (∀ x ∈ r.ends, LEnd.ok x) ∧ okI r.delay
def tLnk_ : Ty := .st [.sl tLEnd_, .int .i64]
theorem T_Lnk {as : List AV} (h : tLnk_.T as) : ∃ s : Lnk, as = s.enc ∧ s.ok := by
  simp only [tLnk_, Ty.T.eq_5, TT] at h
  obtain ⟨a0, b0, rfl, h0, a1, b1, rfl, h1, rfl⟩ := h
  obtain ⟨x0, rfl, k0⟩ := T_sl (fun _ => T_LEnd) h0
  obtain ⟨x1, rfl, k1⟩ := T_i64 h1
  exact ⟨⟨x0, x1⟩, rfl, ⟨k0, k1⟩⟩
@[simp] theorem enc_pure_Lnk (x : Lnk) : pureL x.enc = true := by simp [Lnk.enc, pureL, AV.pure]
@[simp] theorem pureLL_m_Lnk : ∀ l : List Lnk, pureLL (l.map Lnk.enc) = true
  | [] => rfl
  | x :: r => by simp only [List.map_cons, pureLL, pureLL_m_Lnk r, enc_pure_Lnk]; rfl
structure Topo where
  routers : List RConf
  links : List Lnk
def Topo.enc (r : Topo) : List AV := [.sl 25 (r.routers.map RConf.enc), .sl 2 (r.links.map Lnk.enc)]
def Topo.ok (r : Topo) : Prop := (∀ x ∈ r.routers, RConf.ok x) ∧ (∀ x ∈ r.links, Lnk.ok x)
def tTopo_ : Ty := .st [.sl tRConf_, .sl tLnk_]
theorem T_Topo {as : List AV} (h : tTopo_.T as) : ∃ s : Topo, as = s.enc ∧ s.ok := by
  simp only [tTopo_, Ty.T.eq_5, TT] at h
  obtain ⟨a0, b0, rfl, h0, a1, b1, rfl, h1, rfl⟩ := h
  obtain ⟨x0, rfl, k0⟩ := T_sl (fun _ => T_RConf) h0
  obtain ⟨x1, rfl, k1⟩ := T_sl (fun _ => T_Lnk) h1
  exact ⟨⟨x0, x1⟩, rfl, ⟨k0, k1⟩⟩
@[simp] theorem enc_pure_Topo (x : Topo) : pureL x.enc = true := by simp [Topo.enc, pureL, AV.pure]
@[simp] theorem pureLL_m_Topo : ∀ l : List Topo, pureLL (l.map Topo.enc) = true
  | [] => rfl
  | x :: r => by simp only [List.map_cons, pureLL, pureLL_m_Topo r, enc_pure_Topo]; rfl
end Go.AM.IR
set_option maxHeartbeats 4000000
set_option maxRecDepth 20000
namespace Go.AM.IR
def findB : List RConf → List UInt8 → Bool
  | [], _ => false
  | c :: r, k => if c.name = k then true else findB r k
def findI : List RConf → List UInt8 → Int → Int
  | [], _, _ => 0
  | c :: r, k, n => if c.name = k then n else findI r k (n + 1)
section
variable {kv : AV → Prop}
end
theorem find_loop386 (l : List RConf) (k : List UInt8) (hl : l.length < 2 ^ 40) (ln : Int) (hln : ln = l.length) : ∀ (rest done : List RConf)  (T : List (Nat × AV)) (H : Heap) (c : Nat) (n : Int) (e : l = done ++ rest) (hn : n = done.length) , Ev G ⟨f386x7LH, ⟨(9, .sl 25 (l.map RConf.enc)) :: (10, .int .i64 ln) :: (11, .int .i64 n) :: (1, .str k) :: T, H, c⟩, [.t 4, .t 5], 0⟩ (⟨.tup [.int .i64 (findI rest k n), .bool (findB rest k)], []⟩)
  | [], done,  T, H, c, n, e, hn => by
    have hd : l.length = done.length := by simp [e]
    have hll : (l.map RConf.enc).length = l.length := by simp
    refine ev_loop' (W_ok 300 _ _ _ _ ?_)
    repeat' (first | refine stpA ?_ | (refine condS ?_ ?_ <;> intro h))
    (first | refine fin1 ?_ | refine fin0 ?_); rfl
  | x :: r, done,  T, H, c, n, e, hn => by
    have hd : l.length = done.length + (r.length + 1) := by simp [e]
    have hll : (l.map RConf.enc).length = l.length := by simp
    have hx : (l.map RConf.enc)[n.toNat]? = some (RConf.enc x) := by simp [e, hn]
    by_cases hk : x.name = k
    · refine ev_loop' (W_ok 300 _ _ _ _ ?_)
      repeat' (first | refine stpS ?_ | (refine condS ?_ ?_ <;> intro h))
      (first | refine fin1 ?_ | refine fin0 ?_)
      simp [findI, findB, hk]
    · refine ev_loop' (W_ok 300 _ _ _ _ ?_)
      repeat' (first | refine stpS ?_ | (refine condS ?_ ?_ <;> intro h))
      rw [show findI (x :: r) k n = findI r k (n + 1) from by simp [findI, hk], show findB (x :: r) k = findB r k from by simp [findB, hk]]
      refine ev_keep [9, 10, 11, 1] [] ?_; exact find_loop386 l k hl ln hln r (done ++ [x])  _ _ _ (n + 1) (by simp [e]) (by simp [hn] <;> omega)
theorem find_gives386 (t : Topo) (ht : t.routers.length < 2 ^ 40) (k : List UInt8) : Gives G 386 [.agg t.enc, .str k] [] ⟨.tup [.int .i64 (findI t.routers k 0), .bool (findB t.routers k)], []⟩ := by
  have hll : (t.routers.map RConf.enc).length = t.routers.length := by simp
  refine gives_code (F := f386) rfl rfl (W_ok 300 _ _ _ _ ?_)
  repeat' (first | refine stpA ?_ | (refine condS ?_ ?_ <;> intro h))
  refine ev_keep [9, 10, 11, 1] [] ?_
  rw [hll]
  exact find_loop386 t.routers k ht _ rfl t.routers [] _ _ _ 0 rfl rfl
theorem find_loop387 (l : List RConf) (k : List UInt8) (t : Topo) (hl1 : t.routers = l) (hl : l.length < 2 ^ 40) (ln : Int) (hln : ln = l.length) : ∀ (rest done : List RConf)  (T : List (Nat × AV)) (H : Heap) (c : Nat) (n : Int) (e : l = done ++ rest) (hn : n = done.length) , Ev G ⟨f387x7LH, ⟨(8, .sl 25 (l.map RConf.enc)) :: (9, .int .i64 ln) :: (10, .int .i64 n) :: (1, .str k) :: (2, .ref 66 1 0) :: T, (66, some (1, .cells t.enc)) :: H, c⟩, [.t 4, .t 5], 0⟩ (⟨.tup [.int .i64 (findI rest k n), .bool (findB rest k)], []⟩)
  | [], done,  T, H, c, n, e, hn => by
    have hd : l.length = done.length := by simp [e]
    have hll : (l.map RConf.enc).length = l.length := by simp
    refine ev_loop' (W_ok 300 _ _ _ _ ?_)
    repeat' (first | refine stpA ?_ | (refine condS ?_ ?_ <;> intro h))
    (first | refine fin1 ?_ | refine fin0 ?_); rfl
  | x :: r, done,  T, H, c, n, e, hn => by
    have hd : l.length = done.length + (r.length + 1) := by simp [e]
    have hll : (l.map RConf.enc).length = l.length := by simp
    have hx : (l.map RConf.enc)[n.toNat]? = some (RConf.enc x) := by simp [e, hn]
    have hy : (t.routers.map RConf.enc)[n.toNat]? = some x.enc := by rw [hl1]; exact hx
    have hm : (t.routers.map RConf.enc).length = l.length := by simp [hl1]
    by_cases hk : x.name = k
    · refine ev_loop' (W_ok 300 _ _ _ _ ?_)
      repeat' (first | refine stpS ?_ | (refine condS ?_ ?_ <;> intro h))
      (first | refine fin1 ?_ | refine fin0 ?_)
      simp [findI, findB, hk]
    · refine ev_loop' (W_ok 300 _ _ _ _ ?_)
      repeat' (first | refine stpS ?_ | (refine condS ?_ ?_ <;> intro h))
      rw [show findI (x :: r) k n = findI r k (n + 1) from by simp [findI, hk], show findB (x :: r) k = findB r k from by simp [findB, hk]]
      refine ev_keep [8, 9, 10, 1, 2] [66] ?_; exact find_loop387 l k t hl1 hl ln hln r (done ++ [x])  _ _ _ (n + 1) (by simp [e]) (by simp [hn] <;> omega)
theorem find_gives387 (t : Topo) (ht : t.routers.length < 2 ^ 40) (k : List UInt8) : Gives G 387 [.agg t.enc, .str k] [] ⟨.tup [.int .i64 (findI t.routers k 0), .bool (findB t.routers k)], []⟩ := by
  have hll : (t.routers.map RConf.enc).length = t.routers.length := by simp
  refine gives_code (F := f387) rfl rfl (W_ok 300 _ _ _ _ ?_)
  repeat' (first | refine stpA ?_ | (refine condS ?_ ?_ <;> intro h))
  refine ev_keep [8, 9, 10, 1, 2] [66] ?_
  rw [hll]
  exact find_loop387 t.routers k t rfl ht _ rfl t.routers [] _ _ _ 0 rfl rfl
end Go.AM.IR
namespace Go.AM.IR
def sumN {α : Type} (f : α → Nat) : List α → Nat
  | [] => 0
  | x :: r => f x + sumN f r
def trmN (t : Trm) : Nat := t.mats.length + t.acts.length
def polN (p : Pol) : Nat := p.terms.length + sumN trmN p.terms
def sizeN (s : PSet) : Nat := s.prefixes.length + s.paths.length + s.comms.length + s.pols.length + sumN (fun p => p.rules.length) s.prefixes + sumN (fun p => p.rules.length) s.paths + sumN (fun p => p.rules.length) s.comms + sumN polN s.pols
theorem sz_loop29 (l : List Trm) (P : List (List AV)) (j ln2 : Int) (tot : Int) (htot : tot < 2 ^ 40) (hj : 0 ≤ j ∧ j < 2 ^ 50) (R : Ret) (go : ∀ (T : List (Nat × AV)) (H : Heap) (c : Nat), Ev G ⟨f435x31LH, ⟨(69, .sl 3 P) :: (70, .int .i64 ln2) :: (71, .int .i64 (j + 1)) :: (3, .int .i64 tot) :: T, H, c⟩, [.t 2], 0⟩ R) (hl : l.length < 2 ^ 40) (ln : Int) (hln : ln = l.length) : ∀ (rest done : List Trm) (a : Int) (T : List (Nat × AV)) (H : Heap) (c : Nat) (n : Int) (e : l = done ++ rest) (hn : n = done.length) (ha : a + ((sumN trmN rest : Nat) : Int) = tot) (h0 : 0 ≤ a), Ev G ⟨f435x29LH, ⟨(81, .sl 4 (l.map Trm.enc)) :: (82, .int .i64 ln) :: (83, .int .i64 n) :: (3, .int .i64 a) :: (69, .sl 3 P) :: (70, .int .i64 ln2) :: (71, .int .i64 j) :: T, H, c⟩, [.t 2], 0⟩ R
  | [], done, a, T, H, c, n, e, hn, ha, h0 => by
    have hd : l.length = done.length := by simp [e]
    have hll : (l.map Trm.enc).length = l.length := by simp
    obtain rfl : a = tot := by simp only [sumN] at ha; omega
    refine ev_loop' (W_ok 300 _ _ _ _ ?_)
    repeat' (first | refine stpA ?_ | (refine condS ?_ ?_ <;> intro h))
    refine ev_keep [69, 70, 71, 3] [] ?_
    exact go _ _ _
  | x :: r, done, a, T, H, c, n, e, hn, ha, h0 => by
    have hd : l.length = done.length + (r.length + 1) := by simp [e]
    have hll : (l.map Trm.enc).length = l.length := by simp
    have hx : (l.map Trm.enc)[n.toNat]? = some (Trm.enc x) := by simp [e, hn]
    have m1 : (x.mats.map Mat.enc).length = x.mats.length := by simp
    have m2 : (x.acts.map Actn.enc).length = x.acts.length := by simp
    simp only [sumN, trmN] at ha
    refine ev_loop' (W_ok 300 _ _ _ _ ?_)
    repeat' (first | refine stpA ?_ | (refine condS ?_ ?_ <;> intro h))
    refine ev_keep [81, 82, 83, 3, 69, 70, 71] [] ?_; exact sz_loop29 l P j ln2 tot htot hj R go hl ln hln r (done ++ [x]) (a + (((x.mats.map Mat.enc).length : Int) + ((x.acts.map Actn.enc).length : Int))) _ _ _ (n + 1) (by simp [e]) (by simp [hn] <;> omega) (by rw [← ha, m1, m2]; omega) (by omega)
theorem sz_loop31 (l : List Pol) (tot : Int) (htot : tot < 2 ^ 40) (hl : l.length < 2 ^ 40) (ln : Int) (hln : ln = l.length) : ∀ (rest done : List Pol) (a : Int) (T : List (Nat × AV)) (H : Heap) (c : Nat) (n : Int) (e : l = done ++ rest) (hn : n = done.length) (ha : a + ((sumN polN rest : Nat) : Int) = tot) (h0 : 0 ≤ a), Ev G ⟨f435x31LH, ⟨(69, .sl 3 (l.map Pol.enc)) :: (70, .int .i64 ln) :: (71, .int .i64 n) :: (3, .int .i64 a) :: T, H, c⟩, [.t 2], 0⟩ (⟨.int .i64 tot, []⟩)
  | [], done, a, T, H, c, n, e, hn, ha, h0 => by
    have hd : l.length = done.length := by simp [e]
    have hll : (l.map Pol.enc).length = l.length := by simp
    obtain rfl : a = tot := by simp only [sumN] at ha; omega
    refine ev_loop' (W_ok 300 _ _ _ _ ?_)
    repeat' (first | refine stpA ?_ | (refine condS ?_ ?_ <;> intro h))
    (first | refine fin1 ?_ | refine fin0 ?_); rfl
  | x :: r, done, a, T, H, c, n, e, hn, ha, h0 => by
    have hd : l.length = done.length + (r.length + 1) := by simp [e]
    have hll : (l.map Pol.enc).length = l.length := by simp
    have hx : (l.map Pol.enc)[n.toNat]? = some (Pol.enc x) := by simp [e, hn]
    have m1 : (x.terms.map Trm.enc).length = x.terms.length := by simp
    simp only [sumN, polN] at ha
    refine ev_loop' (W_ok 300 _ _ _ _ ?_)
    repeat' (first | refine stpA ?_ | (refine condS ?_ ?_ <;> intro h))
    refine ev_keep [81, 82, 83, 3, 69, 70, 71] [] ?_
    rw [m1]
    exact sz_loop29 x.terms (l.map Pol.enc) n ln (a + x.terms.length + ((sumN trmN x.terms : Nat) : Int)) (by omega) (by omega) _ (fun T H c => sz_loop31 l tot htot hl ln hln r (done ++ [x]) (a + x.terms.length + ((sumN trmN x.terms : Nat) : Int)) T H c (n + 1) (by simp [e]) (by simp [hn] <;> omega) (by omega) (by omega)) (by omega) _ rfl x.terms [] (a + x.terms.length) _ _ _ 0 rfl rfl rfl (by omega)
theorem sz_loopx19 (l : List ComL) (s : PSet) (hl1 : s.comms = l) (tot : Int) (htot : tot < 2 ^ 40) (hsz : s.pols.length < 2 ^ 40 ∧ s.comms.length < 2 ^ 40 ∧ s.paths.length < 2 ^ 40) (hl : l.length < 2 ^ 40) (ln : Int) (hln : ln = l.length) : ∀ (rest done : List ComL) (a : Int) (T : List (Nat × AV)) (H : Heap) (c : Nat) (n : Int) (e : l = done ++ rest) (hn : n = done.length) (ha : a + ((sumN (fun p => p.rules.length) rest + (sumN polN s.pols) : Nat) : Int) = tot) (h0 : 0 ≤ a), Ev G ⟨f435x19LH, ⟨(56, .sl 2 (l.map ComL.enc)) :: (57, .int .i64 ln) :: (58, .int .i64 n) :: (3, .int .i64 a) :: (1, .ref 65 1 0) :: T, (65, some (1, .cells s.enc)) :: H, c⟩, [.t 2], 0⟩ (⟨.int .i64 tot, []⟩)
  | [], done, a, T, H, c, n, e, hn, ha, h0 => by
    have hd : l.length = done.length := by simp [e]
    have hll : (l.map ComL.enc).length = l.length := by simp
    have m1 : (s.pols.map Pol.enc).length = s.pols.length := by simp
    refine ev_loop' (W_ok 300 _ _ _ _ ?_)
    repeat' (first | refine stpA ?_ | (refine condS ?_ ?_ <;> intro h))
    refine ev_keep [69, 70, 71, 3] [] ?_
    rw [m1]
    exact sz_loop31 s.pols tot htot (by omega) _ rfl s.pols [] a _ _ _ 0 rfl rfl (by simp only [sumN] at ha; omega) h0
  | x :: r, done, a, T, H, c, n, e, hn, ha, h0 => by
    have hd : l.length = done.length + (r.length + 1) := by simp [e]
    have hll : (l.map ComL.enc).length = l.length := by simp
    have hx : (l.map ComL.enc)[n.toNat]? = some (ComL.enc x) := by simp [e, hn]
    have m1 : (x.rules.map ComR.enc).length = x.rules.length := by simp
    simp only [sumN] at ha
    refine ev_loop' (W_ok 300 _ _ _ _ ?_)
    repeat' (first | refine stpA ?_ | (refine condS ?_ ?_ <;> intro h))
    refine ev_keep [56, 57, 58, 3, 1] [65] ?_; exact sz_loopx19 l s hl1 tot htot hsz hl ln hln r (done ++ [x]) (a + ((x.rules.map ComR.enc).length : Int)) _ _ _ (n + 1) (by simp [e]) (by simp [hn] <;> omega) (by rw [← ha, m1]; omega) (by omega)
theorem sz_loopx13 (l : List PathL) (s : PSet) (hl1 : s.paths = l) (tot : Int) (htot : tot < 2 ^ 40) (hsz : s.pols.length < 2 ^ 40 ∧ s.comms.length < 2 ^ 40 ∧ s.paths.length < 2 ^ 40) (hl : l.length < 2 ^ 40) (ln : Int) (hln : ln = l.length) : ∀ (rest done : List PathL) (a : Int) (T : List (Nat × AV)) (H : Heap) (c : Nat) (n : Int) (e : l = done ++ rest) (hn : n = done.length) (ha : a + ((sumN (fun p => p.rules.length) rest + (sumN (fun p => p.rules.length) s.comms + sumN polN s.pols) : Nat) : Int) = tot) (h0 : 0 ≤ a), Ev G ⟨f435x13LH, ⟨(43, .sl 2 (l.map PathL.enc)) :: (44, .int .i64 ln) :: (45, .int .i64 n) :: (3, .int .i64 a) :: (1, .ref 65 1 0) :: T, (65, some (1, .cells s.enc)) :: H, c⟩, [.t 2], 0⟩ (⟨.int .i64 tot, []⟩)
  | [], done, a, T, H, c, n, e, hn, ha, h0 => by
    have hd : l.length = done.length := by simp [e]
    have hll : (l.map PathL.enc).length = l.length := by simp
    have m1 : (s.comms.map ComL.enc).length = s.comms.length := by simp
    refine ev_loop' (W_ok 300 _ _ _ _ ?_)
    repeat' (first | refine stpA ?_ | (refine condS ?_ ?_ <;> intro h))
    refine ev_keep [56, 57, 58, 3, 1] [65] ?_
    rw [m1]
    exact sz_loopx19 s.comms s rfl tot htot hsz (by omega) _ rfl s.comms [] a _ _ _ 0 rfl rfl (by simp only [sumN] at ha; omega) h0
  | x :: r, done, a, T, H, c, n, e, hn, ha, h0 => by
    have hd : l.length = done.length + (r.length + 1) := by simp [e]
    have hll : (l.map PathL.enc).length = l.length := by simp
    have hx : (l.map PathL.enc)[n.toNat]? = some (PathL.enc x) := by simp [e, hn]
    have m1 : (x.rules.map PathR.enc).length = x.rules.length := by simp
    simp only [sumN] at ha
    refine ev_loop' (W_ok 300 _ _ _ _ ?_)
    repeat' (first | refine stpA ?_ | (refine condS ?_ ?_ <;> intro h))
    refine ev_keep [43, 44, 45, 3, 1] [65] ?_; exact sz_loopx13 l s hl1 tot htot hsz hl ln hln r (done ++ [x]) (a + ((x.rules.map PathR.enc).length : Int)) _ _ _ (n + 1) (by simp [e]) (by simp [hn] <;> omega) (by rw [← ha, m1]; omega) (by omega)
theorem sz_loopx7 (l : List PList) (s : PSet) (hl1 : s.prefixes = l) (tot : Int) (htot : tot < 2 ^ 40) (hsz : s.pols.length < 2 ^ 40 ∧ s.comms.length < 2 ^ 40 ∧ s.paths.length < 2 ^ 40) (hl : l.length < 2 ^ 40) (ln : Int) (hln : ln = l.length) : ∀ (rest done : List PList) (a : Int) (T : List (Nat × AV)) (H : Heap) (c : Nat) (n : Int) (e : l = done ++ rest) (hn : n = done.length) (ha : a + ((sumN (fun p => p.rules.length) rest + (sumN (fun p => p.rules.length) s.paths + (sumN (fun p => p.rules.length) s.comms + sumN polN s.pols)) : Nat) : Int) = tot) (h0 : 0 ≤ a), Ev G ⟨f435x7LH, ⟨(30, .sl 2 (l.map PList.enc)) :: (31, .int .i64 ln) :: (32, .int .i64 n) :: (3, .int .i64 a) :: (1, .ref 65 1 0) :: T, (65, some (1, .cells s.enc)) :: H, c⟩, [.t 2], 0⟩ (⟨.int .i64 tot, []⟩)
  | [], done, a, T, H, c, n, e, hn, ha, h0 => by
    have hd : l.length = done.length := by simp [e]
    have hll : (l.map PList.enc).length = l.length := by simp
    have m1 : (s.paths.map PathL.enc).length = s.paths.length := by simp
    refine ev_loop' (W_ok 300 _ _ _ _ ?_)
    repeat' (first | refine stpA ?_ | (refine condS ?_ ?_ <;> intro h))
    refine ev_keep [43, 44, 45, 3, 1] [65] ?_
    rw [m1]
    exact sz_loopx13 s.paths s rfl tot htot hsz (by omega) _ rfl s.paths [] a _ _ _ 0 rfl rfl (by simp only [sumN] at ha; omega) h0
  | x :: r, done, a, T, H, c, n, e, hn, ha, h0 => by
    have hd : l.length = done.length + (r.length + 1) := by simp [e]
    have hll : (l.map PList.enc).length = l.length := by simp
    have hx : (l.map PList.enc)[n.toNat]? = some (PList.enc x) := by simp [e, hn]
    have m1 : (x.rules.map RuleP.enc).length = x.rules.length := by simp
    simp only [sumN] at ha
    refine ev_loop' (W_ok 300 _ _ _ _ ?_)
    repeat' (first | refine stpA ?_ | (refine condS ?_ ?_ <;> intro h))
    refine ev_keep [30, 31, 32, 3, 1] [65] ?_; exact sz_loopx7 l s hl1 tot htot hsz hl ln hln r (done ++ [x]) (a + ((x.rules.map RuleP.enc).length : Int)) _ _ _ (n + 1) (by simp [e]) (by simp [hn] <;> omega) (by rw [← ha, m1]; omega) (by omega)
theorem size_gives435 (s : PSet) (hs : sizeN s < 2 ^ 40) : Gives G 435 [.agg s.enc] [] ⟨.int .i64 (sizeN s : Nat), []⟩ := by
  have m1 : (s.prefixes.map PList.enc).length = s.prefixes.length := by simp
  have m2 : (s.paths.map PathL.enc).length = s.paths.length := by simp
  have m3 : (s.comms.map ComL.enc).length = s.comms.length := by simp
  have m4 : (s.pols.map Pol.enc).length = s.pols.length := by simp
  have hz : sizeN s = s.prefixes.length + s.paths.length + s.comms.length + s.pols.length + sumN (fun p => p.rules.length) s.prefixes + sumN (fun p => p.rules.length) s.paths + sumN (fun p => p.rules.length) s.comms + sumN polN s.pols := rfl
  refine gives_code (F := f435) rfl rfl (W_ok 300 _ _ _ _ ?_)
  repeat' (first | refine stpA ?_ | (refine condS ?_ ?_ <;> intro h))
  refine ev_keep [30, 31, 32, 3, 1] [65] ?_
  rw [m1, m2, m3, m4]
  exact sz_loopx7 s.prefixes s rfl (sizeN s : Nat) (by omega) (by omega) (by omega) _ rfl s.prefixes [] _ _ _ _ 0 rfl rfl (by rw [hz]; omega) (by omega)
end Go.AM.IR
namespace Go.AM.IR
def fewP (c : RConf) : List PeerC → Bool
  | [] => decide (((sizeN c.pv.pols : Nat) : Int) ≤ 400)
  | x :: r => if 100 < x.imp.length then false else if 100 < x.exp.length then false else fewP c r
def fewD (c : RConf) : List Red → Bool
  | [] => fewP c c.pv.peers
  | x :: r => if 100 < x.pol.length then false else fewD c r
def fewR (c : RConf) : Bool :=
  if 100 < c.name.length then false else if 24 < c.ls.ifs.length then false else if 24 < c.ls.ranges.length then false else
  if 24 < c.redist.length then false else if 24 < c.stat.length then false else if 24 < c.dists.length then false else
  if 24 < c.pv.peers.length then false else if 40 < c.pv.nets.length then false else fewD c c.redist
def RConf.fit (c : RConf) : Prop := sizeN c.pv.pols < 2 ^ 40 ∧ c.redist.length < 2 ^ 40 ∧ c.pv.peers.length < 2 ^ 40
theorem few_loop18 (l : List PeerC) (q : RConf) (hl1 : q.pv.peers = l) (hz : sizeN q.pv.pols < 2 ^ 40) (hl : l.length < 2 ^ 40) (ln : Int) (hln : ln = l.length) : ∀ (rest done : List PeerC)  (T : List (Nat × AV)) (H : Heap) (c : Nat) (n : Int) (e : l = done ++ rest) (hn : n = done.length) , Ev G ⟨f395x18LH, ⟨(70, .sl 11 (l.map PeerC.enc)) :: (71, .int .i64 ln) :: (72, .int .i64 n) :: (1, .ref 65 1 0) :: T, (65, some (1, .cells q.enc)) :: H, c⟩, [.t 2], 0⟩ (⟨.bool (fewP q rest), []⟩)
  | [], done,  T, H, c, n, e, hn => by
    have hd : l.length = done.length := by simp [e]
    have hll : (l.map PeerC.enc).length = l.length := by simp
    have hs : Gives G 435 [.agg [.sl 2 (q.pv.pols.prefixes.map PList.enc), .sl 2 (q.pv.pols.paths.map PathL.enc), .sl 2 (q.pv.pols.comms.map ComL.enc), .sl 3 (q.pv.pols.pols.map Pol.enc)]] [] ⟨.int .i64 (sizeN q.pv.pols : Nat), []⟩ := size_gives435 q.pv.pols hz
    refine ev_loop' (W_ok 300 _ _ _ _ ?_)
    repeat' (first | refine stpA ?_ | (refine condS ?_ ?_ <;> intro h))
    (first | refine fin1 ?_ | refine fin0 ?_); rfl
  | x :: r, done,  T, H, c, n, e, hn => by
    have hd : l.length = done.length + (r.length + 1) := by simp [e]
    have hll : (l.map PeerC.enc).length = l.length := by simp
    have hx : (l.map PeerC.enc)[n.toNat]? = some (PeerC.enc x) := by simp [e, hn]
    have hy : (q.pv.peers.map PeerC.enc)[n.toNat]? = some x.enc := by rw [hl1]; exact hx
    have hm : (q.pv.peers.map PeerC.enc).length = l.length := by simp [hl1]
    refine ev_loop' (W_ok 300 _ _ _ _ ?_)
    repeat' (first | refine stpA ?_ | (refine condS ?_ ?_ <;> intro h))
    all_goals try ((first | refine fin1 ?_ | refine fin0 ?_); first | rfl | (simp [fewP, Bool.cond_eq_ite, *]; done) | (simp [fewP, Bool.cond_eq_ite, *]; omega) | (unfold fewP; repeat' split; all_goals first | rfl | (exfalso; omega) | (simp_all; done) | (simp_all; omega)))
    rw [show fewP q (x :: r) = fewP q r from by rw [fewP, if_neg (by omega), if_neg (by omega)]]
    refine ev_keep [70, 71, 72, 1] [65] ?_; exact few_loop18 l q hl1 hz hl ln hln r (done ++ [x])  _ _ _ (n + 1) (by simp [e]) (by simp [hn] <;> omega)
theorem few_loop11 (l : List Red) (q : RConf) (hl1 : q.redist = l) (hz : q.fit) (hl : l.length < 2 ^ 40) (ln : Int) (hln : ln = l.length) : ∀ (rest done : List Red)  (T : List (Nat × AV)) (H : Heap) (c : Nat) (n : Int) (e : l = done ++ rest) (hn : n = done.length) , Ev G ⟨f395x11LH, ⟨(54, .sl 5 (l.map Red.enc)) :: (55, .int .i64 ln) :: (56, .int .i64 n) :: (1, .ref 65 1 0) :: T, (65, some (1, .cells q.enc)) :: H, c⟩, [.t 2], 0⟩ (⟨.bool (fewD q rest), []⟩)
  | [], done,  T, H, c, n, e, hn => by
    have hd : l.length = done.length := by simp [e]
    have hll : (l.map Red.enc).length = l.length := by simp
    have m1 : (q.pv.peers.map PeerC.enc).length = q.pv.peers.length := by simp
    refine ev_loop' (W_ok 300 _ _ _ _ ?_)
    repeat' (first | refine stpA ?_ | (refine condS ?_ ?_ <;> intro h))
    refine ev_keep [70, 71, 72, 1] [65] ?_
    rw [m1]
    exact few_loop18 q.pv.peers q rfl hz.1 hz.2.2 _ rfl q.pv.peers [] _ _ _ 0 rfl rfl
  | x :: r, done,  T, H, c, n, e, hn => by
    have hd : l.length = done.length + (r.length + 1) := by simp [e]
    have hll : (l.map Red.enc).length = l.length := by simp
    have hx : (l.map Red.enc)[n.toNat]? = some (Red.enc x) := by simp [e, hn]
    have hy : (q.redist.map Red.enc)[n.toNat]? = some x.enc := by rw [hl1]; exact hx
    have hm : (q.redist.map Red.enc).length = l.length := by simp [hl1]
    refine ev_loop' (W_ok 300 _ _ _ _ ?_)
    repeat' (first | refine stpA ?_ | (refine condS ?_ ?_ <;> intro h))
    all_goals try ((first | refine fin1 ?_ | refine fin0 ?_); first | rfl | (simp [fewD, Bool.cond_eq_ite, *]; done) | (simp [fewD, Bool.cond_eq_ite, *]; omega) | (unfold fewD; repeat' split; all_goals first | rfl | (exfalso; omega) | (simp_all; done) | (simp_all; omega)))
    rw [show fewD q (x :: r) = fewD q r from by rw [fewD, if_neg (by omega)]]
    refine ev_keep [54, 55, 56, 1] [65] ?_; exact few_loop11 l q hl1 hz hl ln hln r (done ++ [x])  _ _ _ (n + 1) (by simp [e]) (by simp [hn] <;> omega)
theorem few_gives395 (q : RConf) (hz : q.fit) : Gives G 395 [.agg q.enc] [] ⟨.bool (fewR q), []⟩ := by
  have m1 : (q.ls.ifs.map Ifc.enc).length = q.ls.ifs.length := by simp
  have m2 : (q.ls.ranges.map ARange.enc).length = q.ls.ranges.length := by simp
  have m3 : (q.redist.map Red.enc).length = q.redist.length := by simp
  have m4 : (q.stat.map Stat.enc).length = q.stat.length := by simp
  have m5 : (q.dists.map encI).length = q.dists.length := by simp
  have m6 : (q.pv.peers.map PeerC.enc).length = q.pv.peers.length := by simp
  have m7 : (q.pv.nets.map Pfx.enc).length = q.pv.nets.length := by simp
  by_cases c1 : 100 < q.name.length
  · refine gives_code (F := f395) rfl rfl (W_ok 300 _ _ _ _ ?_)
    repeat' (first | refine stpA ?_ | (refine condS ?_ ?_ <;> intro h))
    (first | refine fin1 ?_ | refine fin0 ?_); rw [fewR, if_pos c1]
  by_cases c2 : 24 < q.ls.ifs.length
  · refine gives_code (F := f395) rfl rfl (W_ok 300 _ _ _ _ ?_)
    repeat' (first | refine stpA ?_ | (refine condS ?_ ?_ <;> intro h))
    (first | refine fin1 ?_ | refine fin0 ?_); rw [fewR, if_neg c1, if_pos c2]
  by_cases c3 : 24 < q.ls.ranges.length
  · refine gives_code (F := f395) rfl rfl (W_ok 300 _ _ _ _ ?_)
    repeat' (first | refine stpA ?_ | (refine condS ?_ ?_ <;> intro h))
    (first | refine fin1 ?_ | refine fin0 ?_); rw [fewR, if_neg c1, if_neg c2, if_pos c3]
  by_cases c4 : 24 < q.redist.length
  · refine gives_code (F := f395) rfl rfl (W_ok 300 _ _ _ _ ?_)
    repeat' (first | refine stpA ?_ | (refine condS ?_ ?_ <;> intro h))
    (first | refine fin1 ?_ | refine fin0 ?_); rw [fewR, if_neg c1, if_neg c2, if_neg c3, if_pos c4]
  by_cases c5 : 24 < q.stat.length
  · refine gives_code (F := f395) rfl rfl (W_ok 300 _ _ _ _ ?_)
    repeat' (first | refine stpA ?_ | (refine condS ?_ ?_ <;> intro h))
    (first | refine fin1 ?_ | refine fin0 ?_); rw [fewR, if_neg c1, if_neg c2, if_neg c3, if_neg c4, if_pos c5]
  by_cases c6 : 24 < q.dists.length
  · refine gives_code (F := f395) rfl rfl (W_ok 300 _ _ _ _ ?_)
    repeat' (first | refine stpA ?_ | (refine condS ?_ ?_ <;> intro h))
    (first | refine fin1 ?_ | refine fin0 ?_); rw [fewR, if_neg c1, if_neg c2, if_neg c3, if_neg c4, if_neg c5, if_pos c6]
  by_cases c7 : 24 < q.pv.peers.length
  · refine gives_code (F := f395) rfl rfl (W_ok 300 _ _ _ _ ?_)
    repeat' (first | refine stpA ?_ | (refine condS ?_ ?_ <;> intro h))
    (first | refine fin1 ?_ | refine fin0 ?_); rw [fewR, if_neg c1, if_neg c2, if_neg c3, if_neg c4, if_neg c5, if_neg c6, if_pos c7]
  by_cases c8 : 40 < q.pv.nets.length
  · refine gives_code (F := f395) rfl rfl (W_ok 300 _ _ _ _ ?_)
    repeat' (first | refine stpA ?_ | (refine condS ?_ ?_ <;> intro h))
    (first | refine fin1 ?_ | refine fin0 ?_); rw [fewR, if_neg c1, if_neg c2, if_neg c3, if_neg c4, if_neg c5, if_neg c6, if_neg c7, if_pos c8]
  rw [fewR, if_neg c1, if_neg c2, if_neg c3, if_neg c4, if_neg c5, if_neg c6, if_neg c7, if_neg c8]
  refine gives_code (F := f395) rfl rfl (W_ok 300 _ _ _ _ ?_)
  repeat' (first | refine stpA ?_ | (refine condS ?_ ?_ <;> intro h))
  refine ev_keep [54, 55, 56, 1] [65] ?_
  rw [m3]
  exact few_loop11 q.redist q rfl hz hz.2.1 _ rfl q.redist [] _ _ _ 0 rfl rfl
def fewL : List Lnk → Bool
  | [] => true
  | x :: r => if 20 < x.ends.length then false else fewL r
def fewC (ls : List Lnk) : List RConf → Bool
  | [] => fewL ls
  | x :: r => if fewR x then fewC ls r else false
theorem few_loop16 (l : List Lnk) (t : Topo) (hl1 : t.links = l) (hl : l.length < 2 ^ 40) (ln : Int) (hln : ln = l.length) : ∀ (rest done : List Lnk)  (T : List (Nat × AV)) (H : Heap) (c : Nat) (n : Int) (e : l = done ++ rest) (hn : n = done.length) , Ev G ⟨f377x16LH, ⟨(54, .sl 2 (l.map Lnk.enc)) :: (55, .int .i64 ln) :: (56, .int .i64 n) :: (1, .ref 65 1 0) :: T, (65, some (1, .cells t.enc)) :: H, c⟩, [.t 2], 0⟩ (⟨.bool (fewL rest), []⟩)
  | [], done,  T, H, c, n, e, hn => by
    have hd : l.length = done.length := by simp [e]
    have hll : (l.map Lnk.enc).length = l.length := by simp
    refine ev_loop' (W_ok 300 _ _ _ _ ?_)
    repeat' (first | refine stpA ?_ | (refine condS ?_ ?_ <;> intro h))
    (first | refine fin1 ?_ | refine fin0 ?_); rfl
  | x :: r, done,  T, H, c, n, e, hn => by
    have hd : l.length = done.length + (r.length + 1) := by simp [e]
    have hll : (l.map Lnk.enc).length = l.length := by simp
    have hx : (l.map Lnk.enc)[n.toNat]? = some (Lnk.enc x) := by simp [e, hn]
    have hy : (t.links.map Lnk.enc)[n.toNat]? = some x.enc := by rw [hl1]; exact hx
    have hm : (t.links.map Lnk.enc).length = l.length := by simp [hl1]
    have m1 : (x.ends.map LEnd.enc).length = x.ends.length := by simp
    by_cases h : 20 < x.ends.length
    · refine ev_loop' (W_ok 300 _ _ _ _ ?_)
      repeat' (first | refine stpA ?_ | (refine condS ?_ ?_ <;> intro h))
      (first | refine fin1 ?_ | refine fin0 ?_); rw [fewL, if_pos h]
    · rw [fewL, if_neg h]
      refine ev_loop' (W_ok 300 _ _ _ _ ?_)
      repeat' (first | refine stpA ?_ | (refine condS ?_ ?_ <;> intro h))
      refine ev_keep [54, 55, 56, 1] [65] ?_; exact few_loop16 l t hl1 hl ln hln r (done ++ [x])  _ _ _ (n + 1) (by simp [e]) (by simp [hn] <;> omega)
theorem few_loop9 (l : List RConf) (t : Topo) (hl1 : t.routers = l) (hf : ∀ x ∈ l, x.fit) (hk : t.links.length < 2 ^ 40) (hl : l.length < 2 ^ 40) (ln : Int) (hln : ln = l.length) : ∀ (rest done : List RConf)  (T : List (Nat × AV)) (H : Heap) (c : Nat) (n : Int) (e : l = done ++ rest) (hn : n = done.length) , Ev G ⟨f377x9LH, ⟨(40, .sl 25 (l.map RConf.enc)) :: (41, .int .i64 ln) :: (42, .int .i64 n) :: (1, .ref 65 1 0) :: T, (65, some (1, .cells t.enc)) :: H, c⟩, [.t 2], 0⟩ (⟨.bool (fewC t.links rest), []⟩)
  | [], done,  T, H, c, n, e, hn => by
    have hd : l.length = done.length := by simp [e]
    have hll : (l.map RConf.enc).length = l.length := by simp
    have m1 : (t.links.map Lnk.enc).length = t.links.length := by simp
    refine ev_loop' (W_ok 300 _ _ _ _ ?_)
    repeat' (first | refine stpA ?_ | (refine condS ?_ ?_ <;> intro h))
    refine ev_keep [54, 55, 56, 1] [65] ?_
    rw [m1]
    exact few_loop16 t.links t rfl hk _ rfl t.links [] _ _ _ 0 rfl rfl
  | x :: r, done,  T, H, c, n, e, hn => by
    have hd : l.length = done.length + (r.length + 1) := by simp [e]
    have hll : (l.map RConf.enc).length = l.length := by simp
    have hx : (l.map RConf.enc)[n.toNat]? = some (RConf.enc x) := by simp [e, hn]
    have hy : (t.routers.map RConf.enc)[n.toNat]? = some x.enc := by rw [hl1]; exact hx
    have hm : (t.routers.map RConf.enc).length = l.length := by simp [hl1]
    have h1 := few_gives395 x (hf x (by simp [e]))
    by_cases h : fewR x = true
    · rw [h] at h1
      rw [fewC, if_pos h]
      refine ev_loop' (W_ok 300 _ _ _ _ ?_)
      repeat' (first | refine stpA ?_ | (refine condS ?_ ?_ <;> intro h))
      refine ev_keep [40, 41, 42, 1] [65] ?_; exact few_loop9 l t hl1 hf hk hl ln hln r (done ++ [x])  _ _ _ (n + 1) (by simp [e]) (by simp [hn] <;> omega)
    · rw [Bool.not_eq_true] at h
      rw [h] at h1
      refine ev_loop' (W_ok 300 _ _ _ _ ?_)
      repeat' (first | refine stpA ?_ | (refine condS ?_ ?_ <;> intro h))
      (first | refine fin1 ?_ | refine fin0 ?_); rw [fewC, h]; rfl
def Topo.fit (t : Topo) : Prop := t.routers.length < 2 ^ 40 ∧ t.links.length < 2 ^ 40 ∧ ∀ x ∈ t.routers, x.fit
theorem few_gives377 (t : Topo) (ht : t.fit) : ∃ b, Gives G 377 [.agg t.enc] [] ⟨.bool b, []⟩ := by
  have m1 : (t.routers.map RConf.enc).length = t.routers.length := by simp
  have m2 : (t.links.map Lnk.enc).length = t.links.length := by simp
  by_cases c1 : 12 < t.routers.length
  · by_cases c2 : t.routers.length ≤ 32
    · refine ⟨false, ?_⟩
      refine gives_code (F := f377) rfl rfl (W_ok 300 _ _ _ _ ?_)
      repeat' (first | refine stpA ?_ | (refine condS ?_ ?_ <;> intro h))
      (first | refine fin1 ?_ | refine fin0 ?_); rfl
    · by_cases c3 : 24 < t.links.length
      · by_cases c4 : t.links.length ≤ 64
        · refine ⟨false, ?_⟩
          refine gives_code (F := f377) rfl rfl (W_ok 300 _ _ _ _ ?_)
          repeat' (first | refine stpA ?_ | (refine condS ?_ ?_ <;> intro h))
          (first | refine fin1 ?_ | refine fin0 ?_); rfl
        · by_cases c5 : 40 < t.routers.length
          · refine ⟨false, ?_⟩
            refine gives_code (F := f377) rfl rfl (W_ok 300 _ _ _ _ ?_)
            repeat' (first | refine stpA ?_ | (refine condS ?_ ?_ <;> intro h))
            (first | refine fin1 ?_ | refine fin0 ?_); rfl
          · by_cases c6 : 80 < t.links.length
            · refine ⟨false, ?_⟩
              refine gives_code (F := f377) rfl rfl (W_ok 300 _ _ _ _ ?_)
              repeat' (first | refine stpA ?_ | (refine condS ?_ ?_ <;> intro h))
              (first | refine fin1 ?_ | refine fin0 ?_); rfl
            · refine ⟨fewC t.links t.routers, ?_⟩
              refine gives_code (F := f377) rfl rfl (W_ok 300 _ _ _ _ ?_)
              repeat' (first | refine stpA ?_ | (refine condS ?_ ?_ <;> intro h))
              refine ev_keep [40, 41, 42, 1] [65] ?_
              rw [m1]
              exact few_loop9 t.routers t rfl ht.2.2 ht.2.1 ht.1 _ rfl t.routers [] _ _ _ 0 rfl rfl
      · by_cases c5 : 40 < t.routers.length
        · refine ⟨false, ?_⟩
          refine gives_code (F := f377) rfl rfl (W_ok 300 _ _ _ _ ?_)
          repeat' (first | refine stpA ?_ | (refine condS ?_ ?_ <;> intro h))
          (first | refine fin1 ?_ | refine fin0 ?_); rfl
        · refine ⟨fewC t.links t.routers, ?_⟩
          refine gives_code (F := f377) rfl rfl (W_ok 300 _ _ _ _ ?_)
          repeat' (first | refine stpA ?_ | (refine condS ?_ ?_ <;> intro h))
          refine ev_keep [40, 41, 42, 1] [65] ?_
          rw [m1]
          exact few_loop9 t.routers t rfl ht.2.2 ht.2.1 ht.1 _ rfl t.routers [] _ _ _ 0 rfl rfl
  · by_cases c3 : 24 < t.links.length
    · by_cases c4 : t.links.length ≤ 64
      · refine ⟨false, ?_⟩
        refine gives_code (F := f377) rfl rfl (W_ok 300 _ _ _ _ ?_)
        repeat' (first | refine stpA ?_ | (refine condS ?_ ?_ <;> intro h))
        (first | refine fin1 ?_ | refine fin0 ?_); rfl
      · by_cases c6 : 80 < t.links.length
        · refine ⟨false, ?_⟩
          refine gives_code (F := f377) rfl rfl (W_ok 300 _ _ _ _ ?_)
          repeat' (first | refine stpA ?_ | (refine condS ?_ ?_ <;> intro h))
          (first | refine fin1 ?_ | refine fin0 ?_); rfl
        · refine ⟨fewC t.links t.routers, ?_⟩
          refine gives_code (F := f377) rfl rfl (W_ok 300 _ _ _ _ ?_)
          repeat' (first | refine stpA ?_ | (refine condS ?_ ?_ <;> intro h))
          refine ev_keep [40, 41, 42, 1] [65] ?_
          rw [m1]
          exact few_loop9 t.routers t rfl ht.2.2 ht.2.1 ht.1 _ rfl t.routers [] _ _ _ 0 rfl rfl
    · refine ⟨fewC t.links t.routers, ?_⟩
      refine gives_code (F := f377) rfl rfl (W_ok 300 _ _ _ _ ?_)
      repeat' (first | refine stpA ?_ | (refine condS ?_ ?_ <;> intro h))
      refine ev_keep [40, 41, 42, 1] [65] ?_
      rw [m1]
      exact few_loop9 t.routers t rfl ht.2.2 ht.2.1 ht.1 _ rfl t.routers [] _ _ _ 0 rfl rfl
end Go.AM.IR
namespace Go.AM.IR
theorem law372_gives (t : Topo) (k : List UInt8) (ht : t.fit) : Gives G 372 [.agg t.enc, .str k] [] ⟨.bool true, []⟩ := by
  obtain ⟨b, hb⟩ := few_gives377 t ht
  have h1 := find_gives386 t ht.1 k
  have h2 := find_gives387 t ht.1 k
  generalize findI t.routers k 0 = i at *
  generalize findB t.routers k = f at *
  cases b
  · refine gives_code (F := f372) rfl rfl (W_ok 300 _ _ _ _ ?_)
    repeat' (first | refine stpA ?_ | refine kV (lives378_gives) ?_ | (refine condS ?_ ?_ <;> intro h))
    (first | refine fin1 ?_ | refine fin0 ?_); rfl
  · by_cases hk : 200 < k.length
    · refine gives_code (F := f372) rfl rfl (W_ok 300 _ _ _ _ ?_)
      repeat' (first | refine stpA ?_ | refine kV (lives378_gives) ?_ | (refine condS ?_ ?_ <;> intro h))
      (first | refine fin1 ?_ | refine fin0 ?_); rfl
    · cases f
      · refine gives_code (F := f372) rfl rfl (W_ok 300 _ _ _ _ ?_)
        repeat' (first | refine stpA ?_ | refine kV (lives378_gives) ?_ | (refine condS ?_ ?_ <;> intro h))
        (first | refine fin1 ?_ | refine fin0 ?_); rfl
      · refine gives_code (F := f372) rfl rfl (W_ok 300 _ _ _ _ ?_)
        repeat' (first | refine stpA ?_ | refine kV (lives378_gives) ?_ | (refine condS ?_ ?_ <;> intro h))
        (first | refine fin1 ?_ | refine fin0 ?_); rfl
end Go.AM.IR
namespace Go.AM.IR
theorem bk_sum {α : Type} {f : α → Nat} {enc : α → List AV} (h : ∀ x, f x + 1 ≤ bkL (enc x)) : ∀ l : List α, l.length + sumN f l ≤ bkLL (l.map enc)
  | [] => by simp [sumN]
  | x :: r => by
    have := bk_sum h r
    have := h x
    rw [List.map_cons, bkLL, List.length_cons, sumN]; omega
theorem bk_len {α : Type} {enc : α → List AV} (h : ∀ x, 1 ≤ bkL (enc x)) (l : List α) : l.length ≤ bkLL (l.map enc) := by
  have := bk_sum (f := fun _ => 0) (enc := enc) (fun x => by have := h x; omega) l
  omega
theorem bk_mem {α : Type} {enc : α → List AV} {x : α} : ∀ {l : List α}, x ∈ l → bkL (enc x) ≤ bkLL (l.map enc)
  | y :: r, h => by
    rw [List.map_cons, bkLL]
    rcases List.mem_cons.1 h with rfl | h
    · omega
    · have := bk_mem (enc := enc) h; omega
theorem bk_Mat (x : Mat) : 0 + 1 ≤ bkL x.enc := by simp only [Mat.enc, bkL, AV.bk]; omega
theorem bk_Actn (x : Actn) : 0 + 1 ≤ bkL x.enc := by simp only [Actn.enc, bkL, AV.bk]; omega
theorem bk_Trm (x : Trm) : trmN x + 1 ≤ bkL x.enc := by
  have h1 := bk_len (fun x => by have := bk_Mat x; omega) x.mats
  have h2 := bk_len (fun x => by have := bk_Actn x; omega) x.acts
  simp only [Trm.enc, bkL, AV.bk, trmN]; omega
theorem bk_Pol (x : Pol) : polN x + 1 ≤ bkL x.enc := by
  have h1 := bk_sum bk_Trm x.terms
  simp only [Pol.enc, bkL, AV.bk, polN]; omega
theorem bk_RuleP (x : RuleP) : 1 ≤ bkL x.enc := by simp only [RuleP.enc, bkL, AV.bk]; omega
theorem bk_PathR (x : PathR) : 1 ≤ bkL x.enc := by simp only [PathR.enc, bkL, AV.bk]; omega
theorem bk_ComR (x : ComR) : 1 ≤ bkL x.enc := by simp only [ComR.enc, bkL, AV.bk]; omega
theorem bk_PList (x : PList) : x.rules.length + 1 ≤ bkL x.enc := by
  have h1 := bk_len bk_RuleP x.rules
  simp only [PList.enc, bkL, AV.bk]; omega
theorem bk_PathL (x : PathL) : x.rules.length + 1 ≤ bkL x.enc := by
  have h1 := bk_len bk_PathR x.rules
  simp only [PathL.enc, bkL, AV.bk]; omega
theorem bk_ComL (x : ComL) : x.rules.length + 1 ≤ bkL x.enc := by
  have h1 := bk_len bk_ComR x.rules
  simp only [ComL.enc, bkL, AV.bk]; omega
theorem bk_PSet (s : PSet) : sizeN s ≤ bkL s.enc := by
  have h1 := bk_sum bk_PList s.prefixes
  have h2 := bk_sum bk_PathL s.paths
  have h3 := bk_sum bk_ComL s.comms
  have h4 := bk_sum bk_Pol s.pols
  simp only [PSet.enc, bkL, AV.bk, sizeN]; omega
theorem bk_Red (x : Red) : 1 ≤ bkL x.enc := by simp only [Red.enc, bkL, AV.bk]; omega
theorem bk_PeerC (x : PeerC) : 1 ≤ bkL x.enc := by simp only [PeerC.enc, bkL, AV.bk]; omega
theorem bk_Lnk (x : Lnk) : 1 ≤ bkL x.enc := by simp only [Lnk.enc, bkL, AV.bk]; omega
theorem bk_RConf (c : RConf) : sizeN c.pv.pols + c.redist.length + c.pv.peers.length + 1 ≤ bkL c.enc := by
  have h1 := bk_PSet c.pv.pols
  have h2 := bk_len bk_Red c.redist
  have h3 := bk_len bk_PeerC c.pv.peers
  simp only [PSet.enc, bkL, AV.bk] at h1
  simp only [RConf.enc, bkL, AV.bk]; omega
theorem fit_Topo (t : Topo) (h : bkL t.enc ≤ 1048576) : t.fit := by
  have h1 := bk_len (enc := RConf.enc) (fun x => by have := bk_RConf x; omega) t.routers
  have h2 := bk_len bk_Lnk t.links
  simp only [Topo.enc, bkL, AV.bk] at h
  refine ⟨by omega, by omega, fun x hx => ?_⟩
  have h3 := bk_mem (enc := RConf.enc) hx
  have h4 := bk_RConf x
  exact ⟨by omega, by omega, by omega⟩
theorem law372_all (ass : List (List AV)) (h : ArgsT [tTopo_, .str] ass) (hb : bkLL ass ≤ 1048576) : Gives G 372 (argsA [tTopo_, .str] ass) [] ⟨.bool true, []⟩ := by
  obtain ⟨x0, s0, rfl, h0, h⟩ := argsT_cons h
  obtain ⟨x1, s1, rfl, h1, h⟩ := argsT_cons h
  obtain rfl := argsT_nil h
  obtain ⟨t, rfl, ht⟩ := T_Topo h0
  obtain ⟨k, rfl⟩ := T_str h1
  simp only [bkLL] at hb
  exact law372_gives t k (fit_Topo t (by omega))
end Go.AM.IR
