/- What the functions of this program give, on the abstract machine. -/
import Derived.Test.YtcmipbleijmpjaaGreatDoorLibraryA
import Derived.Test.YtcmipbleijmpjaaGreatDoorDataA
set_option linter.unusedVariables false
set_option linter.unusedSimpArgs false
namespace Go.AM.IR
set_option linter.unusedSectionVars false
set_option linter.unusedVariables false
inductive Rx where
 | mk (kind lo hi : Int) (kids : List Rx)
namespace Rx
def kind : Rx → Int | .mk k _ _ _ => k
def kids : Rx → List Rx | .mk _ _ _ l => l
end Rx
def bg (k lo hi : Int) (n : Nat) : Bool :=
 if k = 1 then decide (0 ≤ lo ∧ lo ≤ hi ∧ hi ≤ 4294967295 ∧ n = 0)
 else (decide (lo = 0 ∧ hi = 0)) && (if k = 0 ∨ k = 2 then decide (n = 0) else if k = 3 then decide (2 ≤ n) else if k = 4 then decide (n ≠ 1) else if 5 ≤ k ∧ k ≤ 7 then decide (n = 1) else false)
mutual
def chk : Rx → Nat → Nat → Option Nat
 | .mk k lo hi kids, lv, c => if 16 < lv then none else if 64 ≤ c then none else if bg k lo hi kids.length then iw kids (lv + 1) (c + 1) else none
def iw : List Rx → Nat → Nat → Option Nat
 | [], _, c => some c
 | x :: r, lv, c => match chk x lv c with
  | some c' => iw r lv c'
  | none => none
end
def sn (k : Int) (x : Rx) : Bool :=
 if x.kind = 3 then decide (k ≠ 4) else if x.kind = 4 then !x.kids.isEmpty else decide (5 ≤ x.kind ∧ x.kind ≤ 7) && decide (5 ≤ k ∧ k ≤ 7)
def ja (k : Int) (x : Rx) (p : List UInt8) : List UInt8 := if sn k x then 40 :: (p ++ [41]) else p
def dW (c : UInt8) : List (List UInt8) → List UInt8
 | [] => []
 | [x] => x
 | x :: r => x ++ c :: dW c r
def fb (dec : Int → List UInt8) (k lo hi : Int) (ps : List (List UInt8)) : List UInt8 :=
 if k = 0 then [40, 41] else if k = 1 then (if lo = hi then dec lo else 91 :: (dec lo ++ 45 :: (dec hi ++ [93]))) else if k = 2 then [46] else if k = 3 then dW 32 ps else
 if k = 4 then (if ps.isEmpty then [33] else dW 124 ps) else if k = 5 then ps.headD [] ++ [42] else if k = 6 then ps.headD [] ++ [43] else ps.headD [] ++ [63]
mutual
def pat (dec : Int → List UInt8) : Rx → List UInt8
 | .mk k lo hi kids => fb dec k lo hi (cj dec k kids)
def cj (dec : Int → List UInt8) (k : Int) : List Rx → List (List UInt8)
 | [] => []
 | x :: r => ja k x (pat dec x) :: cj dec k r
end
abbrev PR := Nat → Option (Rx × Nat)
abbrev NR := Nat → Option (Int × Nat)
def chr (s : List UInt8) (n : Nat) (c : UInt8) : Bool := s[n]? == some c
section
variable (s : List UInt8) (num : NR)
def iM (alt : PR) : PR := fun n =>
 if chr s n 46 then some (.mk 2 0 0 [], n + 1) else
 if chr s n 33 then some (.mk 4 0 0 [], n + 1) else
 if chr s n 40 then (if chr s (n + 1) 41 then some (.mk 0 0 0 [], n + 2) else match alt (n + 1) with
  | some (x, m) => if chr s m 41 then some (x, m + 1) else none
  | none => none) else
 if chr s n 91 then match num (n + 1) with
  | some (a, m) => if chr s m 45 then (match num (m + 1) with
   | some (b, k) => if chr s k 93 then some (.mk 1 a b [], k + 1) else none
   | none => none) else none
  | none => none else
 match num n with
 | some (a, m) => some (.mk 1 a a [], m)
 | none => none
def gU (atom : PR) : PR := fun n => match atom n with
 | some (x, m) => if chr s m 42 then some (.mk 5 0 0 [x], m + 1) else if chr s m 43 then some (.mk 6 0 0 [x], m + 1) else if chr s m 63 then some (.mk 7 0 0 [x], m + 1) else some (x, m)
 | none => none
def fx (item : PR) (c : UInt8) : Nat → List Rx → Nat → Option (List Rx × Nat)
 | 0, _, _ => none
 | f + 1, acc, n => match item n with
  | some (x, m) => if chr s m c then fx item c f (acc ++ [x]) (m + 1) else some (acc ++ [x], m)
  | none => none
def gH (k : Int) : Option (List Rx × Nat) → Option (Rx × Nat)
 | some ([x], m) => some (x, m)
 | some (l, m) => some (.mk k 0 0 l, m)
 | none => none
def pG (item : PR) : PR := fun n => gH 3 (fx s item 32 (s.length + 1) [] n)
def ib : Nat → PR
 | 0 => fun _ => none
 | k + 1 => fun n => gH 4 (fx s (pG s (gU s (iM s num (ib k)))) 124 (s.length + 1) [] n)
end
def isD (c : UInt8) : Bool := decide (48 ≤ c.toNat ∧ c.toNat ≤ 57)
def Kj (t : List UInt8) : Prop := ∀ c, t.head? = some c → isD c = false
def stopI (t : List UInt8) : Prop := ∀ c, t.head? = some c → isD c = false ∧ c ≠ 42 ∧ c ≠ 43 ∧ c ≠ 63
def stopS (t : List UInt8) : Prop := ∀ c, t.head? = some c → isD c = false ∧ c ≠ 42 ∧ c ≠ 43 ∧ c ≠ 63 ∧ c ≠ 32
def stopA (t : List UInt8) : Prop := ∀ c, t.head? = some c → isD c = false ∧ c ≠ 42 ∧ c ≠ 43 ∧ c ≠ 63 ∧ c ≠ 32 ∧ c ≠ 124
theorem stopI.d {t} (h : stopI t) : Kj t := fun c e => (h c e).1
theorem stopS.i {t} (h : stopS t) : stopI t := fun c e => ⟨(h c e).1, (h c e).2.1, (h c e).2.2.1, (h c e).2.2.2.1⟩
theorem stopA.s {t} (h : stopA t) : stopS t := fun c e => ⟨(h c e).1, (h c e).2.1, (h c e).2.2.1, (h c e).2.2.2.1, (h c e).2.2.2.2.1⟩
def QP (s : List UInt8) (num : NR) (dec : Int → List UInt8) : Prop := ∀ (n : Nat) (a : Int) (t : List UInt8), 0 ≤ a → a ≤ 4294967295 → s.drop n = dec a ++ t → Kj t → num n = some (a, n + (dec a).length)
def QR (dec : Int → List UInt8) : Prop := ∀ a : Int, 0 ≤ a → a ≤ 4294967295 → ∃ c r, dec a = c :: r ∧ isD c = true
section
variable {s : List UInt8} {num : NR} {dec : Int → List UInt8} (hnum : QP s num dec) (hdec : QR dec)
include hnum hdec
end
theorem vL (c : UInt8) (p q : List UInt8) (qs : List (List UInt8)) : dW c (p :: q :: qs) = p ++ c :: dW c (q :: qs) := rfl
section
variable {s : List UInt8} {num : NR} {dec : Int → List UInt8} {k : Nat} {x : Rx}
end
theorem pR {dec : Int → List UInt8} {p : Int} : ∀ xs : List Rx, (cj dec p xs).length = xs.length
 | [] => by rw [cj]; rfl
 | x :: r => by rw [cj, List.length_cons, List.length_cons, pR r]
section
variable {s : List UInt8} {num : NR} {dec : Int → List UInt8} (hnum : QP s num dec) (hdec : QR dec)
include hnum hdec
end
section
variable {s : List UInt8} {num : NR} {dec : Int → List UInt8} (hnum : QP s num dec) (hdec : QR dec)
include hnum hdec
end
end Go.AM.IR
namespace Go.AM.IR
mutual
def Rx.enc : Rx → List AV
 | .mk k lo hi l => [.int .i64 k, .int .i64 lo, .int .i64 hi, .sl 4 (Rx.encL l)]
def Rx.encL : List Rx → List (List AV)
 | [] => []
 | x :: r => Rx.enc x :: Rx.encL r
end
theorem qL : ∀ l : List Rx, Rx.encL l = l.map Rx.enc
 | [] => by rw [Rx.encL]; rfl
 | x :: r => by rw [Rx.encL, qL r]; rfl
theorem bp (k lo hi : Int) (l : List Rx) : (Rx.mk k lo hi l).enc = [.int .i64 k, .int .i64 lo, .int .i64 hi, .sl 4 (l.map Rx.enc)] := by rw [Rx.enc, qL]
mutual
theorem da : ∀ x : Rx, aH x.enc = true
 | .mk k lo hi l => by rw [Rx.enc]; simp [aH, AV.pure, pH l]
theorem pH : ∀ l : List Rx, aG (Rx.encL l) = true
 | [] => by rw [Rx.encL]; rfl
 | x :: r => by rw [Rx.encL]; simp [aG, da x, pH r]
end
attribute [simp] da
@[simp] theorem auu (l : List Rx) : aG (l.map Rx.enc) = true := by rw [← qL]; exact pH l
def rx0 : Rx := .mk 0 0 0 []
def mC (c : UInt8) : Int := (c.toNat : Int) - 48
def rnL (s : List UInt8) (fr : Nat) : Nat → Int → Nat → Option (Int × Nat)
 | 0, _, _ => none
 | f + 1, a, n => match s[n]? with
  | some c => if isD c then (if 4294967295 < 10 * a + mC c then none else rnL s fr f (10 * a + mC c) (n + 1)) else if fr < n then some (a, n) else none
  | none => if fr < n then some (a, n) else none
def ik (s : List UInt8) : NR := fun n => rnL s n (s.length + 1) 0 n
def xC (s : List UInt8) : Option Rx := match ib s (ik s) 32 0 with
 | some (x, m) => if m = s.length ∧ (chk x 1 0).isSome = true ∧ pat aY x = s then some x else none
 | none => none
def atJ : Option Rx → Ret
 | none => ⟨.tup [.agg rx0.enc, .int .i64 2], []⟩
 | some x => ⟨.tup [.agg x.enc, .int .i64 0], []⟩
end Go.AM.IR
namespace Go.AM.IR
set_option linter.unusedVariables false
theorem acO {c : UInt8} (h : isD c = true) : 0 ≤ mC c ∧ mC c ≤ 9 := by
 unfold isD at h; have h := of_decide_eq_true h; unfold mC; omega
end Go.AM.IR
namespace Go.AM.IR
set_option linter.unusedVariables false
inductive Sml : Rx → Prop
 | mk {k lo hi : Int} {l : List Rx} (h : l.length < 2 ^ 40) (hk : ∀ x ∈ l, Sml x) : Sml (.mk k lo hi l)
theorem Sml.len {k lo hi : Int} {l : List Rx} (h : Sml (.mk k lo hi l)) : l.length < 2 ^ 40 := by cases h; assumption
theorem Sml.kid {k lo hi : Int} {l : List Rx} (h : Sml (.mk k lo hi l)) : ∀ x ∈ l, Sml x := by cases h; assumption
theorem Sml.leaf (k lo hi : Int) : Sml (.mk k lo hi []) := .mk (by simp) (by simp)
def Pos (s : List UInt8) (P : PR) : Prop := ∀ n x m, n ≤ s.length → P n = some (x, m) → n ≤ m ∧ m ≤ s.length ∧ Sml x
def QQ (s : List UInt8) (P : NR) : Prop := ∀ n a m, n ≤ s.length → P n = some (a, m) → n ≤ m ∧ m ≤ s.length
theorem bZ {s : List UInt8} {n : Nat} {c : UInt8} (h : chr s n c = true) : n < s.length := by
 unfold chr at h
 rcases Nat.lt_or_ge n s.length with q | q
 ·exact q
 ·rw [List.getElem?_eq_none q] at h; simp at h
theorem Cq {s : List UInt8} {num : NR} {alt : PR} (hn : QQ s num) (ha : Pos s alt) : Pos s (iM s num alt) := by
 intro n x m hl h
 unfold iM at h
 split at h
 ·rename_i c; have := bZ c; cases h; exact ⟨by omega, by omega, .leaf ..⟩
 split at h
 ·rename_i c; have := bZ c; cases h; exact ⟨by omega, by omega, .leaf ..⟩
 split at h
 ·rename_i c; have := bZ c
  split at h
  ·rename_i c; have := bZ c; cases h; exact ⟨by omega, by omega, .leaf ..⟩
  ·split at h
   ·rename_i y k hk
    have := ha _ _ _ (by omega) hk
    split at h
    ·rename_i c; have := bZ c; cases h; exact ⟨by omega, by omega, (by assumption : _ ∧ _ ∧ _).2.2⟩
    ·cases h
   ·cases h
 split at h
 ·rename_i c; have := bZ c
  split at h
  ·rename_i a k hk
   have := hn _ _ _ (by omega) hk
   split at h
   ·rename_i c; have := bZ c
    split at h
    ·rename_i b j hj
     have := hn _ _ _ (by omega) hj
     split at h
     ·rename_i c; have := bZ c; cases h; exact ⟨by omega, by omega, .leaf ..⟩
     ·cases h
    ·cases h
   ·cases h
  ·cases h
 ·split at h
  ·rename_i a k hk
   have := hn _ _ _ (by omega) hk
   cases h; exact ⟨by omega, by omega, .leaf ..⟩
  ·cases h
theorem jL {s : List UInt8} {atom : PR} (ha : Pos s atom) : Pos s (gU s atom) := by
 intro n x m hl h
 unfold gU at h
 split at h
 ·rename_i y k hk
  obtain ⟨h1, h2, h3⟩ := ha _ _ _ hl hk
  have hs : ∀ p : Int, Sml (.mk p 0 0 [y]) := fun p => .mk (by simp) (by simpa using h3)
  split at h
  ·rename_i c; have := bZ c; cases h; exact ⟨by omega, by omega, hs _⟩
  split at h
  ·rename_i c; have := bZ c; cases h; exact ⟨by omega, by omega, hs _⟩
  split at h
  ·rename_i c; have := bZ c; cases h; exact ⟨by omega, by omega, hs _⟩
  ·cases h; exact ⟨h1, h2, h3⟩
 ·cases h
theorem DL {s : List UInt8} {item : PR} {c : UInt8} (hi : Pos s item) : ∀ (f : Nat) (acc : List Rx) (n : Nat) (l : List Rx) (m : Nat), n ≤ s.length → (∀ x ∈ acc, Sml x) → fx s item c f acc n = some (l, m) → n ≤ m ∧ m ≤ s.length ∧ (∀ x ∈ l, Sml x) ∧ l.length ≤ acc.length + f
 | 0, _, _, _, _, _, _, h => by simp [fx] at h
 | f + 1, acc, n, l, m, hn, ha, h => by
  rw [fx] at h
  split at h
  ·rename_i y k hk
   obtain ⟨h1, h2, h3⟩ := hi _ _ _ hn hk
   have ha' : ∀ x ∈ acc ++ [y], Sml x := fun x hx => by
    rcases List.mem_append.1 hx with q | q
    ·exact ha x q
    ·simp only [List.mem_singleton] at q; rw [q]; exact h3
   split at h
   ·rename_i q
    have := bZ q
    obtain ⟨q1, q2, q3, q4⟩ := DL hi f (acc ++ [y]) (k + 1) l m (by omega) ha' h
    simp at q4
    exact ⟨by omega, q2, q3, by omega⟩
   ·cases h
    exact ⟨h1, h2, ha', by simp⟩
  ·cases h
theorem one_pos {s : List UInt8} (hs : s.length < 2 ^ 32) {item : PR} {c : UInt8} {k : Int} (hi : Pos s item) : Pos s (fun n => gH k (fx s item c (s.length + 1) [] n)) := by
 intro n x m hl h
 dsimp only at h
 cases hq : fx s item c (s.length + 1) [] n with
 | none => rw [hq] at h; cases h
 | some p =>
  obtain ⟨l, j⟩ := p
  obtain ⟨q1, q2, q3, q4⟩ := DL hi _ _ _ _ _ hl (by simp) hq
  rw [hq] at h
  have hl2 : Sml (.mk k 0 0 l) := .mk (by simp at q4; omega) q3
  unfold gH at h
  split at h
  ·rename_i y m' e
   obtain ⟨rfl, rfl⟩ := Prod.mk.inj (Option.some.inj e)
   cases h
   exact ⟨q1, q2, q3 x (by simp)⟩
  ·rename_i l' m' _ e
   obtain ⟨rfl, rfl⟩ := Prod.mk.inj (Option.some.inj e)
   cases h
   exact ⟨q1, q2, hl2⟩
  ·cases h
theorem s9 {s : List UInt8} (hs : s.length < 2 ^ 32) {item : PR} (hi : Pos s item) : Pos s (pG s item) := one_pos hs hi
theorem uW {s : List UInt8} (hs : s.length < 2 ^ 32) {num : NR} (hn : QQ s num) : ∀ k, Pos s (ib s num k)
 | 0 => fun n x m _ h => by simp [ib] at h
 | k + 1 => by
  rw [ib]
  exact one_pos hs (s9 hs (jL (Cq hn (uW hs hn k))))
theorem DQ {s : List UInt8} {fr : Nat} : ∀ (f : Nat) (a : Int) (n : Nat) (b : Int) (m : Nat), n ≤ s.length → rnL s fr f a n = some (b, m) → n ≤ m ∧ m ≤ s.length
 | 0, _, _, _, _, _, h => by simp [rnL] at h
 | f + 1, a, n, b, m, hn, h => by
  rw [rnL] at h
  split at h
  ·rename_i c hc
   have hlt : n < s.length := by
    rcases Nat.lt_or_ge n s.length with q | q
    ·exact q
    ·rw [List.getElem?_eq_none q] at hc; cases hc
   split at h
   ·split at h
    ·cases h
    ·have := DQ f _ (n + 1) b m (by omega) h; omega
   ·split at h
    ·cases h; omega
    ·cases h
  ·split at h
   ·cases h; omega
   ·cases h
theorem pJ (s : List UInt8) : QQ s (ik s) := fun n a m hn h => DQ _ _ _ _ _ hn h
end Go.AM.IR
set_option maxHeartbeats 4000000
set_option maxRecDepth 20000
namespace Go.AM.IR
def rpR (s : List UInt8) (v : AV) (m : Nat) : Ret := ⟨v, [(true, .cells [.str s, .int .i64 (m : Int)])]⟩
theorem aX (s : List UInt8) (hs : s.length < 2 ^ 40) (c : UInt8) (n : Nat) (hn : n ≤ s.length) : ax G 642 [.ref 0 0 0, .int .u8 (c.toNat : Int)] [.cells [.str s, .int .i64 (n : Int)]] (rpR s (.bool (chr s n c)) (if chr s n c then n + 1 else n)) := by
 by_cases h : n < s.length
 ·have hb : s[((n : Nat) : Int).toNat]? = some s[n] := by simp [h]
  have hch : chr s n c = (s[n] == c) := by unfold chr; simp [h]
  generalize s[n] = b at *
  by_cases hbc : b.toNat = c.toNat
  ·have e : b = c := UInt8.toNat_inj.1 hbc
   have hi : (b.toNat : Int) = (c.toNat : Int) := by rw [hbc]
   rw [hch, show (b == c) = true from by simp [e], if_pos rfl]
   refine aa (F := f642) rfl rfl (ah 300 _ _ _ _ ?_)
   repeat' (first | refine cg ?_ | (refine ab ?_ ?_ <;> intro h))
   (conv => whnf); first | refine bJ [(0, _, _)] [] [true] ?_ | refine bL [(0, _, _)] [] [true] ?_
   rfl
  ·have e : ¬ b = c := fun q => hbc (by rw [q])
   have hi : ¬ (b.toNat : Int) = (c.toNat : Int) := by omega
   rw [hch, show (b == c) = false from by simp [e], if_neg (by simp)]
   refine aa (F := f642) rfl rfl (ah 300 _ _ _ _ ?_)
   repeat' (first | refine cg ?_ | (refine ab ?_ ?_ <;> intro h))
   (conv => whnf); first | refine bJ [(0, _, _)] [] [true] ?_ | refine bL [(0, _, _)] [] [true] ?_
   rfl
 ·have hch : chr s n c = false := by unfold chr; rw [List.getElem?_eq_none (by omega)]; rfl
  rw [hch, if_neg (by simp)]
  refine aa (F := f642) rfl rfl (ah 300 _ _ _ _ ?_)
  repeat' (first | refine ae ?_ | (refine ab ?_ ?_ <;> intro h))
  (conv => whnf); first | refine bJ [(0, _, _)] [] [true] ?_ | refine bL [(0, _, _)] [] [true] ?_
  rfl
end Go.AM.IR
namespace Go.AM.IR
theorem QU {kv : AV → Prop} {b : UInt8} (h : kv (.int .u8 (mC b))) (hb : 48 ≤ b.toNat) : ∃ v, bj .sub (.int .u8 (b.toNat : Int)) (.int .u8 48) = some v ∧ kv v := by
 refine ⟨_, ?_, h⟩
 have hl := b.toNat_lt
 show some (AV.int .u8 (IntKind.wrap .u8 ((b.toNat : Int) - 48))) = _
 unfold mC
 rw [n6 (by omega) (by omega)]
def NumG (s : List UInt8) (n : Nat) (o : Option (Int × Nat)) : Prop := ∃ v b m, n ≤ m ∧ m ≤ s.length ∧ ax G 661 [.ref 0 0 0] [.cells [.str s, .int .i64 (n : Int)]] (rpR s (.tup [.int .i64 v, .bool b]) m) ∧ match o with
 | some (a, k) => b = true ∧ v = a ∧ m = k
 | none => b = false
theorem pm (s : List UInt8) (hs : s.length < 2 ^ 40) (fr : Nat) : ∀ (f : Nat) (a : Int) (n : Nat) (hf : s.length < f + n) (hn : n ≤ s.length) (h0 : 0 ≤ a) (h1 : a ≤ 4294967295) (hfr : fr ≤ n), ∃ v b m, n ≤ m ∧ m ≤ s.length ∧ (match rnL s fr f a n with
  | some (x, k) => b = true ∧ v = x ∧ m = k
  | none => b = false) ∧ ∀ (T : List (Nat × AV)) (H : aq) (c : Nat),
  Ev G ⟨qf, ⟨(0, .ref 0 0 0) :: (4, .int .i64 a) :: (5, .int .i64 (fr : Int)) :: T, (0, some (0, .cells [.str s, .int .i64 (n : Int)])) :: H, c⟩, [.t 2, .t 3], 1⟩ (rpR s (.tup [.int .i64 v, .bool b]) m)
 | 0, a, n, hf, hn, h0, h1, hfr => by omega
 | f + 1, a, n, hf, hn, h0, h1, hfr => by
  have stop : ∀ (hr : rnL s fr (f + 1) a n = if fr < n then some (a, n) else none) (go : ∀ (b : Bool), b = decide (fr < n) → ∀ (T : List (Nat × AV)) (H : aq) (c : Nat), Ev G ⟨qf, ⟨(0, .ref 0 0 0) :: (4, .int .i64 a) :: (5, .int .i64 (fr : Int)) :: T, (0, some (0, .cells [.str s, .int .i64 (n : Int)])) :: H, c⟩, [.t 2, .t 3], 1⟩ (rpR s (.tup [.int .i64 a, .bool b]) n)), ∃ v b m, n ≤ m ∧ m ≤ s.length ∧ (match rnL s fr (f + 1) a n with
  | some (x, k) => b = true ∧ v = x ∧ m = k
  | none => b = false) ∧ ∀ (T : List (Nat × AV)) (H : aq) (c : Nat),
  Ev G ⟨qf, ⟨(0, .ref 0 0 0) :: (4, .int .i64 a) :: (5, .int .i64 (fr : Int)) :: T, (0, some (0, .cells [.str s, .int .i64 (n : Int)])) :: H, c⟩, [.t 2, .t 3], 1⟩ (rpR s (.tup [.int .i64 v, .bool b]) m) := fun hr go => by
   rw [hr]
   by_cases q : fr < n
   ·rw [if_pos q]
    exact ⟨a, true, n, by omega, hn, ⟨rfl, rfl, rfl⟩, go true (by simp [q])⟩
   ·rw [if_neg q]
    exact ⟨a, false, n, by omega, hn, rfl, go false (by simp [q])⟩
  by_cases h : n < s.length
  ·have hb : s[((n : Nat) : Int).toNat]? = some s[n] := by simp [h]
   have hb2 : s[n]? = some s[n] := List.getElem?_eq_getElem h
   generalize s[n] = b at *
   have hbl := b.toNat_lt
   by_cases d1 : 48 ≤ b.toNat
   ·by_cases d2 : b.toNat ≤ 57
    ·have hd : isD b = true := by simp [isD, d1, d2]
     have hv := acO hd
     rw [rnL, hb2]
     simp only [hd, if_true]
     by_cases hg : 4294967295 < 10 * a + mC b
     ·rw [if_pos hg]
      refine ⟨0, false, n + 1, by omega, by omega, rfl, fun T H c => ?_⟩
      refine evl ?_
      repeat' ((conv => whnf); first | refine zIstr ?_ hb (by omega) | refine QU ?_ d1 | refine aP ?_ | (refine ab ?_ ?_ <;> intro h))
      (conv => whnf); first | refine bJ [(0, _, _)] [] [true] ?_ | refine bL [(0, _, _)] [] [true] ?_
      rfl
     ·rw [if_neg hg]
      obtain ⟨v, b', m, q1, q2, q3, q4⟩ := pm s hs fr f (10 * a + mC b) (n + 1) (by omega) (by omega) (by omega) (by omega) (by omega)
      refine ⟨v, b', m, by omega, q2, q3, fun T H c => ?_⟩
      refine evl ?_
      repeat' ((conv => whnf); first | refine zIstr ?_ hb (by omega) | refine QU ?_ d1 | refine aP ?_ | (refine ab ?_ ?_ <;> intro h))
      refine am [0, 4, 5] [0] ?_
      exact q4 _ _ _
    ·have hd : isD b = false := by simp [isD, d2]
     refine stop (by rw [rnL, hb2]; simp [hd]) fun e he T H c => ?_
     subst he
     refine evl ?_
     repeat' (first | refine cg ?_ | (refine ab ?_ ?_ <;> intro h))
     (conv => whnf); first | refine bJ [(0, _, _)] [] [true] ?_ | refine bL [(0, _, _)] [] [true] ?_
     simp [rpR]
     exact ⟨rfl, rfl⟩
   ·have hd : isD b = false := by simp [isD, d1]
    refine stop (by rw [rnL, hb2]; simp [hd]) fun e he T H c => ?_
    subst he
    refine evl ?_
    repeat' (first | refine cg ?_ | (refine ab ?_ ?_ <;> intro h))
    (conv => whnf); first | refine bJ [(0, _, _)] [] [true] ?_ | refine bL [(0, _, _)] [] [true] ?_
    simp [rpR]
    exact ⟨rfl, rfl⟩
  ·refine stop (by rw [rnL, List.getElem?_eq_none (by omega)]) fun e he T H c => ?_
   subst he
   refine evl ?_
   repeat' (first | refine ae ?_ | (refine ab ?_ ?_ <;> intro h))
   (conv => whnf); first | refine bJ [(0, _, _)] [] [true] ?_ | refine bL [(0, _, _)] [] [true] ?_
   simp [rpR]
   exact ⟨rfl, rfl⟩
theorem jH (s : List UInt8) (hs : s.length < 2 ^ 40) (n : Nat) (hn : n ≤ s.length) : NumG s n (ik s n) := by
 obtain ⟨v, b, m, q1, q2, q3, q4⟩ := pm s hs n (s.length + 1) 0 n (by omega) hn (by omega) (by omega) (by omega)
 refine ⟨v, b, m, q1, q2, ?_, q3⟩
 refine aa (F := f661) rfl rfl (ah 300 _ _ _ _ ?_)
 repeat' (first | refine ae ?_ | (refine ab ?_ ?_ <;> intro h))
 refine am [0, 4, 5] [0] ?_
 exact q4 _ _ _
end Go.AM.IR
namespace Go.AM.IR
def dF (f : Nat) (s : List UInt8) (lv : Int) (n : Nat) : Option (Rx × Nat) → Prop
 | some (x, m) => ax G f [.ref 0 0 0, .int .i64 lv] [.cells [.str s, .int .i64 (n : Int)]] (rpR s (.tup [.agg x.enc, .bool true]) m)
 | none => ∃ x m, m ≤ s.length ∧ ax G f [.ref 0 0 0, .int .i64 lv] [.cells [.str s, .int .i64 (n : Int)]] (rpR s (.tup [.agg (Rx.enc x), .bool false]) m)
theorem e0 (k lo hi : Int) : (Rx.mk k lo hi []).enc = [.int .i64 k, .int .i64 lo, .int .i64 hi, .sl 4 []] := bp k lo hi []
theorem Cr (s : List UInt8) (lv : Int) (hl : 32 < lv) (n : Nat) (hn : n ≤ s.length) : dF 656 s lv n none := by
 refine ⟨rx0, n, hn, ?_⟩
 refine aa (F := f656) rfl rfl (ah 300 _ _ _ _ ?_)
 repeat' (first | refine ae ?_ | (refine ab ?_ ?_ <;> intro h))
 refine dL [] [(68, some (_, .cells (rx0.enc)))] trivial ⟨⟨rfl, leA⟩, trivial⟩ ?_
 (conv => whnf); first | refine bJ [(0, _, _)] [] [true] ?_ | refine bL [(0, _, _)] [] [true] ?_
 refine db ?_
 rfl
theorem xy (s : List UInt8) (hs : s.length < 2 ^ 40) (alt : PR) (lv : Int) (hl : lv ≤ 32) (hl0 : 0 ≤ lv) (hp : Pos s alt) (hA : ∀ n, n ≤ s.length → dF 616 s (lv + 1) n (alt n)) (n : Nat) (hn : n ≤ s.length) : dF 656 s lv n (iM s (ik s) alt n) := by
 unfold iM
 by_cases h1c : chr s n 46 = true
 ·rw [if_pos h1c]
  have hlt := bZ h1c
  have h1 : ax G 642 [.ref 0 0 0, .int .u8 46] [.cells [.str s, .int .i64 ((n : Nat) : Int)]] (rpR s (.bool true) (n + 1)) := by
   have := aX s hs 46 (n) (by omega)
   rwa [h1c, if_pos rfl] at this
  show ax G 656 _ _ (rpR s (.tup [.agg (Rx.mk 2 0 0 []).enc, .bool true]) (n + 1))
  rw [e0]
  refine aa (F := f656) rfl rfl (ah 300 _ _ _ _ ?_)
  repeat' (first | refine ae ?_ | refine kX [(0, _, _)] [] ⟨rfl, trivial⟩ trivial (h1) ?_ | (refine ab ?_ ?_ <;> intro h))
  refine dL [] [(68, some (_, .cells ([.int .i64 2, .int .i64 0, .int .i64 0, .sl 4 []])))] trivial ⟨⟨rfl, leA⟩, trivial⟩ ?_
  (conv => whnf); first | refine bJ [(0, _, _)] [] [true] ?_ | refine bL [(0, _, _)] [] [true] ?_
  refine db ?_
  rfl
 rw [if_neg h1c]
 rw [Bool.not_eq_true] at h1c
 have h1 : ax G 642 [.ref 0 0 0, .int .u8 46] [.cells [.str s, .int .i64 ((n : Nat) : Int)]] (rpR s (.bool false) (n)) := by
  have := aX s hs 46 (n) (by omega)
  rwa [h1c, if_neg (by simp)] at this
 by_cases h2c : chr s n 33 = true
 ·rw [if_pos h2c]
  have hlt := bZ h2c
  have h2 : ax G 642 [.ref 0 0 0, .int .u8 33] [.cells [.str s, .int .i64 ((n : Nat) : Int)]] (rpR s (.bool true) (n + 1)) := by
   have := aX s hs 33 (n) (by omega)
   rwa [h2c, if_pos rfl] at this
  show ax G 656 _ _ (rpR s (.tup [.agg (Rx.mk 4 0 0 []).enc, .bool true]) (n + 1))
  rw [e0]
  refine aa (F := f656) rfl rfl (ah 300 _ _ _ _ ?_)
  repeat' (first | refine ae ?_ | refine kX [(0, _, _)] [] ⟨rfl, trivial⟩ trivial (h1) ?_ | refine kX [(0, _, _)] [] ⟨rfl, trivial⟩ trivial (h2) ?_ | (refine ab ?_ ?_ <;> intro h))
  refine dL [] [(68, some (_, .cells ([.int .i64 4, .int .i64 0, .int .i64 0, .sl 4 []])))] trivial ⟨⟨rfl, leA⟩, trivial⟩ ?_
  (conv => whnf); first | refine bJ [(0, _, _)] [] [true] ?_ | refine bL [(0, _, _)] [] [true] ?_
  refine db ?_
  rfl
 rw [if_neg h2c]
 rw [Bool.not_eq_true] at h2c
 have h2 : ax G 642 [.ref 0 0 0, .int .u8 33] [.cells [.str s, .int .i64 ((n : Nat) : Int)]] (rpR s (.bool false) (n)) := by
  have := aX s hs 33 (n) (by omega)
  rwa [h2c, if_neg (by simp)] at this
 by_cases h3c : chr s n 40 = true
 ·rw [if_pos h3c]
  have hlt := bZ h3c
  have h3 : ax G 642 [.ref 0 0 0, .int .u8 40] [.cells [.str s, .int .i64 ((n : Nat) : Int)]] (rpR s (.bool true) (n + 1)) := by
   have := aX s hs 40 (n) (by omega)
   rwa [h3c, if_pos rfl] at this
  by_cases h4c : chr s (n + 1) 41 = true
  ·rw [if_pos h4c]
   have hlt2 := bZ h4c
   have h4 : ax G 642 [.ref 0 0 0, .int .u8 41] [.cells [.str s, .int .i64 ((n + 1 : Nat) : Int)]] (rpR s (.bool true) (n + 1 + 1)) := by
    have := aX s hs 41 (n + 1) (by omega)
    rwa [h4c, if_pos rfl] at this
   show ax G 656 _ _ (rpR s (.tup [.agg (Rx.mk 0 0 0 []).enc, .bool true]) (n + 1 + 1))
   rw [e0]
   refine aa (F := f656) rfl rfl (ah 300 _ _ _ _ ?_)
   repeat' (first | refine ae ?_ | refine kX [(0, _, _)] [] ⟨rfl, trivial⟩ trivial (h1) ?_ | refine kX [(0, _, _)] [] ⟨rfl, trivial⟩ trivial (h2) ?_ | refine kX [(0, _, _)] [] ⟨rfl, trivial⟩ trivial (h3) ?_ | refine kX [(0, _, _)] [] ⟨rfl, trivial⟩ trivial (h4) ?_ | (refine ab ?_ ?_ <;> intro h))
   refine dL [] [(68, some (_, .cells ([.int .i64 0, .int .i64 0, .int .i64 0, .sl 4 []])))] trivial ⟨⟨rfl, leA⟩, trivial⟩ ?_
   (conv => whnf); first | refine bJ [(0, _, _)] [] [true] ?_ | refine bL [(0, _, _)] [] [true] ?_
   refine db ?_
   rfl
  rw [if_neg h4c]
  rw [Bool.not_eq_true] at h4c
  have h4 : ax G 642 [.ref 0 0 0, .int .u8 41] [.cells [.str s, .int .i64 ((n + 1 : Nat) : Int)]] (rpR s (.bool false) (n + 1)) := by
   have := aX s hs 41 (n + 1) (by omega)
   rwa [h4c, if_neg (by simp)] at this
  have hq := hA (n + 1) (by omega)
  cases ha : alt (n + 1) with
  | none =>
   rw [ha] at hq
   obtain ⟨x, m, hm, hq⟩ := hq
   refine ⟨x, m, hm, ?_⟩
   have hpx := da x
   obtain ⟨k, lo, hi, l⟩ := x
   rw [bp] at hq hpx ⊢
   refine aa (F := f656) rfl rfl (ah 300 _ _ _ _ ?_)
   repeat' (first | refine ae ?_ | refine kX [(0, _, _)] [] ⟨rfl, trivial⟩ trivial (h1) ?_ | refine kX [(0, _, _)] [] ⟨rfl, trivial⟩ trivial (h2) ?_ | refine kX [(0, _, _)] [] ⟨rfl, trivial⟩ trivial (h3) ?_ | refine kX [(0, _, _)] [] ⟨rfl, trivial⟩ trivial (h4) ?_ | refine kX [(0, _, _)] [] ⟨rfl, trivial⟩ trivial (hq) ?_ | (refine ab ?_ ?_ <;> intro h))
   (conv => whnf); first | refine bJ [(0, _, _)] [] [true] ?_ | refine bL [(0, _, _)] [] [true] ?_
   refine db ?_
   rfl
  | some p =>
   obtain ⟨x, m⟩ := p
   rw [ha] at hq
   obtain ⟨p1, p2, _⟩ := hp _ _ _ (by omega) ha
   dsimp only
   simp only [dF] at hq
   have hpx := da x
   obtain ⟨k, lo, hi, l⟩ := x
   rw [bp] at hq hpx
   by_cases h5c : chr s m 41 = true
   ·rw [if_pos h5c]
    have hlt3 := bZ h5c
    have h5 : ax G 642 [.ref 0 0 0, .int .u8 41] [.cells [.str s, .int .i64 ((m : Nat) : Int)]] (rpR s (.bool true) (m + 1)) := by
     have := aX s hs 41 (m) (by omega)
     rwa [h5c, if_pos rfl] at this
    show ax G 656 _ _ (rpR s (.tup [.agg (Rx.mk k lo hi l).enc, .bool true]) (m + 1))
    rw [bp]
    refine aa (F := f656) rfl rfl (ah 300 _ _ _ _ ?_)
    repeat' (first | refine ae ?_ | refine kX [(0, _, _)] [] ⟨rfl, trivial⟩ trivial (h1) ?_ | refine kX [(0, _, _)] [] ⟨rfl, trivial⟩ trivial (h2) ?_ | refine kX [(0, _, _)] [] ⟨rfl, trivial⟩ trivial (h3) ?_ | refine kX [(0, _, _)] [] ⟨rfl, trivial⟩ trivial (h4) ?_ | refine kX [(0, _, _)] [] ⟨rfl, trivial⟩ trivial (hq) ?_ | refine kX [(0, _, _)] [] ⟨rfl, trivial⟩ trivial (h5) ?_ | (refine ab ?_ ?_ <;> intro h))
    (conv => whnf); first | refine bJ [(0, _, _)] [] [true] ?_ | refine bL [(0, _, _)] [] [true] ?_
    refine db ?_
    rfl
   ·rw [if_neg h5c]
    rw [Bool.not_eq_true] at h5c
    have h5 : ax G 642 [.ref 0 0 0, .int .u8 41] [.cells [.str s, .int .i64 ((m : Nat) : Int)]] (rpR s (.bool false) (m)) := by
     have := aX s hs 41 (m) (by omega)
     rwa [h5c, if_neg (by simp)] at this
    refine ⟨.mk k lo hi l, m, p2, ?_⟩
    rw [bp]
    refine aa (F := f656) rfl rfl (ah 300 _ _ _ _ ?_)
    repeat' (first | refine ae ?_ | refine kX [(0, _, _)] [] ⟨rfl, trivial⟩ trivial (h1) ?_ | refine kX [(0, _, _)] [] ⟨rfl, trivial⟩ trivial (h2) ?_ | refine kX [(0, _, _)] [] ⟨rfl, trivial⟩ trivial (h3) ?_ | refine kX [(0, _, _)] [] ⟨rfl, trivial⟩ trivial (h4) ?_ | refine kX [(0, _, _)] [] ⟨rfl, trivial⟩ trivial (hq) ?_ | refine kX [(0, _, _)] [] ⟨rfl, trivial⟩ trivial (h5) ?_ | (refine ab ?_ ?_ <;> intro h))
    (conv => whnf); first | refine bJ [(0, _, _)] [] [true] ?_ | refine bL [(0, _, _)] [] [true] ?_
    refine db ?_
    rfl
 rw [if_neg h3c]
 rw [Bool.not_eq_true] at h3c
 have h3 : ax G 642 [.ref 0 0 0, .int .u8 40] [.cells [.str s, .int .i64 ((n : Nat) : Int)]] (rpR s (.bool false) (n)) := by
  have := aX s hs 40 (n) (by omega)
  rwa [h3c, if_neg (by simp)] at this
 by_cases h4c : chr s n 91 = true
 ·rw [if_pos h4c]
  have hlt := bZ h4c
  have h4 : ax G 642 [.ref 0 0 0, .int .u8 91] [.cells [.str s, .int .i64 ((n : Nat) : Int)]] (rpR s (.bool true) (n + 1)) := by
   have := aX s hs 91 (n) (by omega)
   rwa [h4c, if_pos rfl] at this
  obtain ⟨v, b, m, p1, p2, g1, r1⟩ := jH s hs (n + 1) (by omega)
  have hmj : (if chr s m 45 then m + 1 else m) ≤ s.length := by
   split
   ·rename_i c; have := bZ c; omega
   ·omega
  obtain ⟨v2, b2, m2, p3, p4, g2, r2⟩ := jH s hs (if chr s m 45 then m + 1 else m) hmj
  have h5 := aX s hs 45 m (by omega)
  have h6 := aX s hs 93 m2 (by omega)
  have h5 : ax G 642 [.ref 0 0 0, .int .u8 45] [.cells [.str s, .int .i64 (m : Int)]] (rpR s (.bool (chr s m 45)) (if chr s m 45 then m + 1 else m)) := h5
  have h6 : ax G 642 [.ref 0 0 0, .int .u8 93] [.cells [.str s, .int .i64 (m2 : Int)]] (rpR s (.bool (chr s m2 93)) (if chr s m2 93 then m2 + 1 else m2)) := h6
  -- the result fails
  have bad : (b = false ∨ chr s m 45 = false ∨ b2 = false) → dF 656 s lv n none := fun hb => by
   refine ⟨.mk 1 v v2 [], m2, p4, ?_⟩
   rw [e0]
   generalize hj : (if chr s m 45 then m + 1 else m) = j at *
   generalize chr s m 45 = d at *
   cases b
   ·refine aa (F := f656) rfl rfl (ah 300 _ _ _ _ ?_)
    repeat' (first | refine ae ?_ | refine kX [(0, _, _)] [] ⟨rfl, trivial⟩ trivial (h1) ?_ | refine kX [(0, _, _)] [] ⟨rfl, trivial⟩ trivial (h2) ?_ | refine kX [(0, _, _)] [] ⟨rfl, trivial⟩ trivial (h3) ?_ | refine kX [(0, _, _)] [] ⟨rfl, trivial⟩ trivial (h4) ?_ | refine kX [(0, _, _)] [] ⟨rfl, trivial⟩ trivial (g1) ?_ | refine kX [(0, _, _)] [] ⟨rfl, trivial⟩ trivial (h5) ?_ | refine kX [(0, _, _)] [] ⟨rfl, trivial⟩ trivial (g2) ?_ | (refine ab ?_ ?_ <;> intro h))
    refine dL [] [(68, some (_, .cells ([.int .i64 1, .int .i64 v, .int .i64 v2, .sl 4 []])))] trivial ⟨⟨rfl, leA⟩, trivial⟩ ?_
    (conv => whnf); first | refine bJ [(0, _, _)] [] [true] ?_ | refine bL [(0, _, _)] [] [true] ?_
    refine db ?_
    rfl
   ·cases d
    ·refine aa (F := f656) rfl rfl (ah 300 _ _ _ _ ?_)
     repeat' (first | refine ae ?_ | refine kX [(0, _, _)] [] ⟨rfl, trivial⟩ trivial (h1) ?_ | refine kX [(0, _, _)] [] ⟨rfl, trivial⟩ trivial (h2) ?_ | refine kX [(0, _, _)] [] ⟨rfl, trivial⟩ trivial (h3) ?_ | refine kX [(0, _, _)] [] ⟨rfl, trivial⟩ trivial (h4) ?_ | refine kX [(0, _, _)] [] ⟨rfl, trivial⟩ trivial (g1) ?_ | refine kX [(0, _, _)] [] ⟨rfl, trivial⟩ trivial (h5) ?_ | refine kX [(0, _, _)] [] ⟨rfl, trivial⟩ trivial (g2) ?_ | (refine ab ?_ ?_ <;> intro h))
     refine dL [] [(68, some (_, .cells ([.int .i64 1, .int .i64 v, .int .i64 v2, .sl 4 []])))] trivial ⟨⟨rfl, leA⟩, trivial⟩ ?_
     (conv => whnf); first | refine bJ [(0, _, _)] [] [true] ?_ | refine bL [(0, _, _)] [] [true] ?_
     refine db ?_
     rfl
    ·obtain rfl : b2 = false := by simpa using hb
     refine aa (F := f656) rfl rfl (ah 300 _ _ _ _ ?_)
     repeat' (first | refine ae ?_ | refine kX [(0, _, _)] [] ⟨rfl, trivial⟩ trivial (h1) ?_ | refine kX [(0, _, _)] [] ⟨rfl, trivial⟩ trivial (h2) ?_ | refine kX [(0, _, _)] [] ⟨rfl, trivial⟩ trivial (h3) ?_ | refine kX [(0, _, _)] [] ⟨rfl, trivial⟩ trivial (h4) ?_ | refine kX [(0, _, _)] [] ⟨rfl, trivial⟩ trivial (g1) ?_ | refine kX [(0, _, _)] [] ⟨rfl, trivial⟩ trivial (h5) ?_ | refine kX [(0, _, _)] [] ⟨rfl, trivial⟩ trivial (g2) ?_ | (refine ab ?_ ?_ <;> intro h))
     refine dL [] [(68, some (_, .cells ([.int .i64 1, .int .i64 v, .int .i64 v2, .sl 4 []])))] trivial ⟨⟨rfl, leA⟩, trivial⟩ ?_
     (conv => whnf); first | refine bJ [(0, _, _)] [] [true] ?_ | refine bL [(0, _, _)] [] [true] ?_
     refine db ?_
     rfl
  cases hr : ik s (n + 1) with
  | none =>
   rw [hr] at r1
   exact bad (.inl r1)
  | some q =>
   obtain ⟨a, k⟩ := q
   rw [hr] at r1
   obtain ⟨rfl, rfl, rfl⟩ := r1
   dsimp only
   by_cases h5c : chr s m 45 = true
   ·rw [if_pos h5c]
    have hj : (if chr s m 45 then m + 1 else m) = m + 1 := if_pos h5c
    cases hr2 : ik s (m + 1) with
    | none =>
     rw [hj, hr2] at r2
     exact bad (.inr (.inr r2))
    | some q =>
     obtain ⟨a2, k2⟩ := q
     rw [hj, hr2] at r2
     obtain ⟨rfl, rfl, rfl⟩ := r2
     dsimp only
     rw [hj] at h5 g2
     rw [h5c] at h5
     by_cases h6c : chr s m2 93 = true
     ·rw [if_pos h6c]
      have hj2 : (if chr s m2 93 then m2 + 1 else m2) = m2 + 1 := if_pos h6c
      rw [hj2, h6c] at h6
      show ax G 656 _ _ (rpR s (.tup [.agg (Rx.mk 1 v v2 []).enc, .bool true]) (m2 + 1))
      rw [e0]
      refine aa (F := f656) rfl rfl (ah 300 _ _ _ _ ?_)
      repeat' (first | refine ae ?_ | refine kX [(0, _, _)] [] ⟨rfl, trivial⟩ trivial (h1) ?_ | refine kX [(0, _, _)] [] ⟨rfl, trivial⟩ trivial (h2) ?_ | refine kX [(0, _, _)] [] ⟨rfl, trivial⟩ trivial (h3) ?_ | refine kX [(0, _, _)] [] ⟨rfl, trivial⟩ trivial (h4) ?_ | refine kX [(0, _, _)] [] ⟨rfl, trivial⟩ trivial (g1) ?_ | refine kX [(0, _, _)] [] ⟨rfl, trivial⟩ trivial (h5) ?_ | refine kX [(0, _, _)] [] ⟨rfl, trivial⟩ trivial (g2) ?_ | refine kX [(0, _, _)] [] ⟨rfl, trivial⟩ trivial (h6) ?_ | (refine ab ?_ ?_ <;> intro h))
      refine dL [] [(68, some (_, .cells ([.int .i64 1, .int .i64 v, .int .i64 v2, .sl 4 []])))] trivial ⟨⟨rfl, leA⟩, trivial⟩ ?_
      (conv => whnf); first | refine bJ [(0, _, _)] [] [true] ?_ | refine bL [(0, _, _)] [] [true] ?_
      refine db ?_
      rfl
     ·rw [if_neg h6c]
      have hj2 : (if chr s m2 93 then m2 + 1 else m2) = m2 := if_neg h6c
      rw [Bool.not_eq_true] at h6c
      rw [hj2, h6c] at h6
      refine ⟨.mk 1 v v2 [], m2, p4, ?_⟩
      rw [e0]
      refine aa (F := f656) rfl rfl (ah 300 _ _ _ _ ?_)
      repeat' (first | refine ae ?_ | refine kX [(0, _, _)] [] ⟨rfl, trivial⟩ trivial (h1) ?_ | refine kX [(0, _, _)] [] ⟨rfl, trivial⟩ trivial (h2) ?_ | refine kX [(0, _, _)] [] ⟨rfl, trivial⟩ trivial (h3) ?_ | refine kX [(0, _, _)] [] ⟨rfl, trivial⟩ trivial (h4) ?_ | refine kX [(0, _, _)] [] ⟨rfl, trivial⟩ trivial (g1) ?_ | refine kX [(0, _, _)] [] ⟨rfl, trivial⟩ trivial (h5) ?_ | refine kX [(0, _, _)] [] ⟨rfl, trivial⟩ trivial (g2) ?_ | refine kX [(0, _, _)] [] ⟨rfl, trivial⟩ trivial (h6) ?_ | (refine ab ?_ ?_ <;> intro h))
      refine dL [] [(68, some (_, .cells ([.int .i64 1, .int .i64 v, .int .i64 v2, .sl 4 []])))] trivial ⟨⟨rfl, leA⟩, trivial⟩ ?_
      (conv => whnf); first | refine bJ [(0, _, _)] [] [true] ?_ | refine bL [(0, _, _)] [] [true] ?_
      refine db ?_
      rfl
   ·rw [if_neg h5c]
    rw [Bool.not_eq_true] at h5c
    exact bad (.inr (.inl h5c))
 rw [if_neg h4c]
 rw [Bool.not_eq_true] at h4c
 have h4 : ax G 642 [.ref 0 0 0, .int .u8 91] [.cells [.str s, .int .i64 ((n : Nat) : Int)]] (rpR s (.bool false) (n)) := by
  have := aX s hs 91 (n) (by omega)
  rwa [h4c, if_neg (by simp)] at this
 obtain ⟨v, b, m, p1, p2, g1, r1⟩ := jH s hs n hn
 cases hr : ik s n with
 | none =>
  rw [hr] at r1
  obtain rfl : b = false := r1
  refine ⟨.mk 1 v v [], m, p2, ?_⟩
  rw [e0]
  refine aa (F := f656) rfl rfl (ah 300 _ _ _ _ ?_)
  repeat' (first | refine ae ?_ | refine kX [(0, _, _)] [] ⟨rfl, trivial⟩ trivial (h1) ?_ | refine kX [(0, _, _)] [] ⟨rfl, trivial⟩ trivial (h2) ?_ | refine kX [(0, _, _)] [] ⟨rfl, trivial⟩ trivial (h3) ?_ | refine kX [(0, _, _)] [] ⟨rfl, trivial⟩ trivial (h4) ?_ | refine kX [(0, _, _)] [] ⟨rfl, trivial⟩ trivial (g1) ?_ | (refine ab ?_ ?_ <;> intro h))
  refine dL [] [(68, some (_, .cells ([.int .i64 1, .int .i64 v, .int .i64 v, .sl 4 []])))] trivial ⟨⟨rfl, leA⟩, trivial⟩ ?_
  (conv => whnf); first | refine bJ [(0, _, _)] [] [true] ?_ | refine bL [(0, _, _)] [] [true] ?_
  refine db ?_
  rfl
 | some q =>
  obtain ⟨a, k⟩ := q
  rw [hr] at r1
  obtain ⟨rfl, rfl, rfl⟩ := r1
  show ax G 656 _ _ (rpR s (.tup [.agg (Rx.mk 1 v v []).enc, .bool true]) m)
  rw [e0]
  refine aa (F := f656) rfl rfl (ah 300 _ _ _ _ ?_)
  repeat' (first | refine ae ?_ | refine kX [(0, _, _)] [] ⟨rfl, trivial⟩ trivial (h1) ?_ | refine kX [(0, _, _)] [] ⟨rfl, trivial⟩ trivial (h2) ?_ | refine kX [(0, _, _)] [] ⟨rfl, trivial⟩ trivial (h3) ?_ | refine kX [(0, _, _)] [] ⟨rfl, trivial⟩ trivial (h4) ?_ | refine kX [(0, _, _)] [] ⟨rfl, trivial⟩ trivial (g1) ?_ | (refine ab ?_ ?_ <;> intro h))
  refine dL [] [(68, some (_, .cells ([.int .i64 1, .int .i64 v, .int .i64 v, .sl 4 []])))] trivial ⟨⟨rfl, leA⟩, trivial⟩ ?_
  (conv => whnf); first | refine bJ [(0, _, _)] [] [true] ?_ | refine bL [(0, _, _)] [] [true] ?_
  refine db ?_
  rfl
end Go.AM.IR
namespace Go.AM.IR
theorem mG (s : List UInt8) (hs : s.length < 2 ^ 40) (atom : PR) (lv : Int) (hp : Pos s atom) (hA : ∀ n, n ≤ s.length → dF 656 s lv n (atom n)) (n : Nat) (hn : n ≤ s.length) : dF 651 s lv n (gU s atom n) := by
 unfold gU
 have hq := hA n hn
 cases ha : atom n with
 | none =>
  rw [ha] at hq
  obtain ⟨x, m, hm, hq⟩ := hq
  refine ⟨x, m, hm, ?_⟩
  have hpx := da x
  obtain ⟨k, lo, hi, l⟩ := x
  rw [bp] at hq hpx ⊢
  refine aa (F := f651) rfl rfl (ah 300 _ _ _ _ ?_)
  repeat' (first | refine ae ?_ | refine kX [(0, _, _)] [] ⟨rfl, trivial⟩ trivial (hq) ?_ | (refine ab ?_ ?_ <;> intro h))
  (conv => whnf); first | refine bJ [(0, _, _)] [] [true] ?_ | refine bL [(0, _, _)] [] [true] ?_
  refine db ?_
  rfl
 | some p =>
  obtain ⟨x, m⟩ := p
  rw [ha] at hq
  obtain ⟨p1, p2, _⟩ := hp _ _ _ hn ha
  dsimp only
  simp only [dF] at hq
  have hpx := da x
  have hex : ∀ k : Int, (Rx.mk k 0 0 [x]).enc = [.int .i64 k, .int .i64 0, .int .i64 0, .sl 4 [x.enc]] := fun k => bp k 0 0 [x]
  obtain ⟨k, lo, hi, l⟩ := x
  have hen := bp k lo hi l
  rw [hen] at hq hpx hex
  by_cases h1c : chr s m 42 = true
  ·rw [if_pos h1c]
   have hlt := bZ h1c
   have h1 : ax G 642 [.ref 0 0 0, .int .u8 42] [.cells [.str s, .int .i64 ((m : Nat) : Int)]] (rpR s (.bool true) (m + 1)) := by
    have := aX s hs 42 (m) (by omega)
    rwa [h1c, if_pos rfl] at this
   show ax G 651 _ _ (rpR s (.tup [.agg (Rx.mk 5 0 0 [.mk k lo hi l]).enc, .bool true]) (m + 1))
   rw [hex]
   refine aa (F := f651) rfl rfl (ah 300 _ _ _ _ ?_)
   repeat' (first | refine ae ?_ | refine kX [(0, _, _)] [] ⟨rfl, trivial⟩ trivial (hq) ?_ | refine kX [(0, _, _)] [] ⟨rfl, trivial⟩ trivial (h1) ?_ | (refine ab ?_ ?_ <;> intro h))
   refine lg [(97, _, _)] [5, 4] [0, 68] ⟨rfl, frP, trivial⟩ ?_; repeat ((conv => whnf); first | refine frA ?_ | intro T H)
   (conv => whnf); first | refine bJ [(0, _, _)] [] [true] ?_ | refine bL [(0, _, _)] [] [true] ?_
   refine db ?_
   rfl
  rw [if_neg h1c]
  rw [Bool.not_eq_true] at h1c
  have h1 : ax G 642 [.ref 0 0 0, .int .u8 42] [.cells [.str s, .int .i64 ((m : Nat) : Int)]] (rpR s (.bool false) (m)) := by
   have := aX s hs 42 (m) (by omega)
   rwa [h1c, if_neg (by simp)] at this
  by_cases h2c : chr s m 43 = true
  ·rw [if_pos h2c]
   have hlt := bZ h2c
   have h2 : ax G 642 [.ref 0 0 0, .int .u8 43] [.cells [.str s, .int .i64 ((m : Nat) : Int)]] (rpR s (.bool true) (m + 1)) := by
    have := aX s hs 43 (m) (by omega)
    rwa [h2c, if_pos rfl] at this
   show ax G 651 _ _ (rpR s (.tup [.agg (Rx.mk 6 0 0 [.mk k lo hi l]).enc, .bool true]) (m + 1))
   rw [hex]
   refine aa (F := f651) rfl rfl (ah 300 _ _ _ _ ?_)
   repeat' (first | refine ae ?_ | refine kX [(0, _, _)] [] ⟨rfl, trivial⟩ trivial (hq) ?_ | refine kX [(0, _, _)] [] ⟨rfl, trivial⟩ trivial (h1) ?_ | refine kX [(0, _, _)] [] ⟨rfl, trivial⟩ trivial (h2) ?_ | (refine ab ?_ ?_ <;> intro h))
   refine lg [(97, _, _)] [5, 4] [0, 68] ⟨rfl, frP, trivial⟩ ?_; repeat ((conv => whnf); first | refine frA ?_ | intro T H)
   (conv => whnf); first | refine bJ [(0, _, _)] [] [true] ?_ | refine bL [(0, _, _)] [] [true] ?_
   refine db ?_
   rfl
  rw [if_neg h2c]
  rw [Bool.not_eq_true] at h2c
  have h2 : ax G 642 [.ref 0 0 0, .int .u8 43] [.cells [.str s, .int .i64 ((m : Nat) : Int)]] (rpR s (.bool false) (m)) := by
   have := aX s hs 43 (m) (by omega)
   rwa [h2c, if_neg (by simp)] at this
  by_cases h3c : chr s m 63 = true
  ·rw [if_pos h3c]
   have hlt := bZ h3c
   have h3 : ax G 642 [.ref 0 0 0, .int .u8 63] [.cells [.str s, .int .i64 ((m : Nat) : Int)]] (rpR s (.bool true) (m + 1)) := by
    have := aX s hs 63 (m) (by omega)
    rwa [h3c, if_pos rfl] at this
   show ax G 651 _ _ (rpR s (.tup [.agg (Rx.mk 7 0 0 [.mk k lo hi l]).enc, .bool true]) (m + 1))
   rw [hex]
   refine aa (F := f651) rfl rfl (ah 300 _ _ _ _ ?_)
   repeat' (first | refine ae ?_ | refine kX [(0, _, _)] [] ⟨rfl, trivial⟩ trivial (hq) ?_ | refine kX [(0, _, _)] [] ⟨rfl, trivial⟩ trivial (h1) ?_ | refine kX [(0, _, _)] [] ⟨rfl, trivial⟩ trivial (h2) ?_ | refine kX [(0, _, _)] [] ⟨rfl, trivial⟩ trivial (h3) ?_ | (refine ab ?_ ?_ <;> intro h))
   refine lg [(97, _, _)] [5, 4] [0, 68] ⟨rfl, frP, trivial⟩ ?_; repeat ((conv => whnf); first | refine frA ?_ | intro T H)
   (conv => whnf); first | refine bJ [(0, _, _)] [] [true] ?_ | refine bL [(0, _, _)] [] [true] ?_
   refine db ?_
   rfl
  rw [if_neg h3c]
  rw [Bool.not_eq_true] at h3c
  have h3 : ax G 642 [.ref 0 0 0, .int .u8 63] [.cells [.str s, .int .i64 ((m : Nat) : Int)]] (rpR s (.bool false) (m)) := by
   have := aX s hs 63 (m) (by omega)
   rwa [h3c, if_neg (by simp)] at this
  show ax G 651 _ _ (rpR s (.tup [.agg (Rx.mk k lo hi l).enc, .bool true]) m)
  rw [hen]
  refine aa (F := f651) rfl rfl (ah 300 _ _ _ _ ?_)
  repeat' (first | refine ae ?_ | refine kX [(0, _, _)] [] ⟨rfl, trivial⟩ trivial (hq) ?_ | refine kX [(0, _, _)] [] ⟨rfl, trivial⟩ trivial (h1) ?_ | refine kX [(0, _, _)] [] ⟨rfl, trivial⟩ trivial (h2) ?_ | refine kX [(0, _, _)] [] ⟨rfl, trivial⟩ trivial (h3) ?_ | (refine ab ?_ ?_ <;> intro h))
  (conv => whnf); first | refine bJ [(0, _, _)] [] [true] ?_ | refine bL [(0, _, _)] [] [true] ?_
  refine db ?_
  rfl
end Go.AM.IR
namespace Go.AM.IR
def KF (s : List UInt8) : Option (Rx × Nat) → Ret → Prop
 | some (x, m), t => t = rpR s (.tup [.agg x.enc, .bool true]) m
 | none, t => ∃ x m, m ≤ s.length ∧ t = rpR s (.tup [.agg (Rx.enc x), .bool false]) m
theorem DX {f : Nat} {s : List UInt8} {lv : Int} {n : Nat} {o : Option (Rx × Nat)} {t : Ret} (h : KF s o t) (g : ax G f [.ref 0 0 0, .int .i64 lv] [.cells [.str s, .int .i64 (n : Int)]] t) : dF f s lv n o := by
 cases o with
 | none => obtain ⟨x, m, hm, rfl⟩ := h; exact ⟨x, m, hm, g⟩
 | some p => obtain ⟨x, m⟩ := p; obtain rfl : t = _ := h; exact g
theorem jm : rx0.enc = [.int .i64 0, .int .i64 0, .int .i64 0, .sl 4 []] := e0 0 0 0
theorem rk (s : List UInt8) (hs : s.length < 2 ^ 32) (item : PR) (lv : Int) (hp : Pos s item) (hA : ∀ n, n ≤ s.length → dF 651 s lv n (item n)) : ∀ (f : Nat) (acc : List Rx) (n : Nat) (hf : s.length < f + n) (hn : n ≤ s.length) (hac : acc.length + f ≤ s.length + 1), ∃ t, KF s (gH 3 (fx s item 32 f acc n)) t ∧ ∀ (T : List (Nat × AV)) (H : aq) (c g g4 : Nat) (es : List (List AV)) (k : Nat) (hes : es = acc.map Rx.enc) (hk : k = acc.length), Ev G ⟨Qe, ⟨(4, .ref 68 g4 0) :: (0, .ref 0 0 0) :: (6, .vs 200 g k) :: (1, .int .i64 lv) :: T, (0, some (0, .cells [.str s, .int .i64 (n : Int)])) :: (68, some (g4, .cells [.int .i64 0, .int .i64 0, .int .i64 0, .con (.slice none 0 0)])) :: (200, some (g, .vec 4 es)) :: H, c⟩, [.cell 4 (some 4), .t 5], 1⟩ t
 | 0, acc, n, hf, hn, hac => by omega
 | f + 1, acc, n, hf, hn, hac => by
  have hq := hA n hn
  rw [fx]
  have hl : (acc.map Rx.enc).length = acc.length := by simp
  cases ha : item n with
  | none =>
   rw [ha] at hq
   obtain ⟨x, m, hm, hq⟩ := hq
   refine ⟨_, ⟨rx0, m, hm, rfl⟩, fun T H c g g4 es k hes hk => ?_⟩
   subst hes hk
   have hpx := da x
   generalize hxe : x.enc = xe at *
   obtain ⟨k, lo, hi, l⟩ := x
   rw [bp] at hxe
   subst hxe
   rw [jm]
   refine evl ?_
   repeat' (first | refine ae ?_ | refine kX [(0, _, _)] [] ⟨rfl, trivial⟩ trivial (hq) ?_ | (refine ab ?_ ?_ <;> intro h))
   refine dL [] [(68, some (_, .cells ([.int .i64 0, .int .i64 0, .int .i64 0, .sl 4 []])))] trivial ⟨⟨rfl, leA⟩, trivial⟩ ?_
   (conv => whnf); first | refine bJ [(0, _, _)] [] [true] ?_ | refine bL [(0, _, _)] [] [true] ?_
   refine db ?_
   rfl
  | some p =>
   obtain ⟨x, m⟩ := p
   rw [ha] at hq
   obtain ⟨p1, p2, _⟩ := hp _ _ _ hn ha
   simp only [dF] at hq
   dsimp only
   have hpx := da x
   have hax : (acc ++ [x]).map Rx.enc = acc.map Rx.enc ++ [x.enc] := by simp
   by_cases hc : chr s m 32 = true
   ·rw [if_pos hc]
    have hlt := bZ hc
    have h1 : ax G 642 [.ref 0 0 0, .int .u8 32] [.cells [.str s, .int .i64 ((m : Nat) : Int)]] (rpR s (.bool true) (m + 1)) := by
     have := aX s (by omega) 32 m (by omega)
     rwa [hc, if_pos rfl] at this
    obtain ⟨t, h2, h3⟩ := rk s hs item lv hp hA f (acc ++ [x]) (m + 1) (by omega) (by omega) (by simp; omega)
    refine ⟨t, h2, fun T H c g g4 es k hes hk => ?_⟩
    subst hes hk
    rw [hax] at h3
    generalize hxe : x.enc = xe at *
    obtain ⟨k, lo, hi, l⟩ := x
    rw [bp] at hxe
    subst hxe
    refine evl ?_
    repeat' (first | refine ae ?_ | refine kX [(0, _, _)] [] ⟨rfl, trivial⟩ trivial (hq) ?_ | refine kX [(0, _, _)] [] ⟨rfl, trivial⟩ trivial (h1) ?_ | (refine ab ?_ ?_ <;> intro h))
    refine am [4, 0, 6, 1] [0, 68, 200] ?_
    exact h3 _ _ _ _ _ _ _ rfl (by simp)
   ·rw [if_neg hc]
    rw [Bool.not_eq_true] at hc
    have h1 : ax G 642 [.ref 0 0 0, .int .u8 32] [.cells [.str s, .int .i64 ((m : Nat) : Int)]] (rpR s (.bool false) m) := by
     have := aX s (by omega) 32 m (by omega)
     rwa [hc, if_neg (by simp)] at this
    cases acc with
    | nil =>
     refine ⟨rpR s (.tup [.agg x.enc, .bool true]) m, rfl, fun T H c g g4 es k hes hk => ?_⟩
     obtain rfl : es = [] := hes
     obtain rfl : k = 0 := hk
     generalize hxe : x.enc = xe at *
     obtain ⟨k, lo, hi, l⟩ := x
     rw [bp] at hxe
     subst hxe
     refine evl ?_
     repeat' (first | refine ae ?_ | refine kX [(0, _, _)] [] ⟨rfl, trivial⟩ trivial (hq) ?_ | refine kX [(0, _, _)] [] ⟨rfl, trivial⟩ trivial (h1) ?_ | refine And.intro (show Int.toNat 0 < 0 + 1 from Nat.one_pos) ?_ | (refine ab ?_ ?_ <;> intro h))
     (conv => whnf); first | refine bJ [(0, _, _)] [] [true] ?_ | refine bL [(0, _, _)] [] [true] ?_
     refine db ?_
     rfl
    | cons y r =>
     refine ⟨rpR s (.tup [.agg (Rx.mk 3 0 0 (y :: r ++ [x])).enc, .bool true]) m, ?_, fun T H c g g4 es k hes hk => ?_⟩
     ·cases r with
      | nil => rfl
      | cons z q => rfl
     subst hes hk
     rw [bp, hax]
     have hl2 : (y :: r).length = r.length + 1 := rfl
     generalize hxe : x.enc = xe at *
     obtain ⟨k, lo, hi, l⟩ := x
     rw [bp] at hxe
     subst hxe
     refine evl ?_
     repeat' (first | refine ae ?_ | refine kX [(0, _, _)] [] ⟨rfl, trivial⟩ trivial (hq) ?_ | refine kX [(0, _, _)] [] ⟨rfl, trivial⟩ trivial (h1) ?_ | (refine ab ?_ ?_ <;> intro h))
     refine lg [(200, _, _)] [5, 4] [0, 68] ⟨rfl, frP, trivial⟩ ?_; repeat ((conv => whnf); first | refine frA ?_ | intro T H)
     (conv => whnf); first | refine bJ [(0, _, _)] [] [true] ?_ | refine bL [(0, _, _)] [] [true] ?_
     refine db ?_
     rfl
theorem oY (s : List UInt8) (hs : s.length < 2 ^ 32) (item : PR) (lv : Int) (hp : Pos s item) (hA : ∀ n, n ≤ s.length → dF 651 s lv n (item n)) (n : Nat) (hn : n ≤ s.length) : dF 641 s lv n (gH 3 (fx s item 32 (s.length + 1) [] n)) := by
 obtain ⟨t, h1, h2⟩ := rk s hs item lv hp hA (s.length + 1) [] n (by omega) hn (by simp)
 refine DX h1 ?_
 refine aa (F := f641) rfl rfl (ah 300 _ _ _ _ ?_)
 repeat' (first | refine ae ?_ | (refine ab ?_ ?_ <;> intro h))
 refine lf 200 4 [(6, .vs 200 _ 0)] [] ⟨LeP.nilV _ _ _, trivial⟩ trivial ?_
 refine am [4, 0, 6, 1] [0, 68, 200] ?_
 exact h2 _ _ _ _ _ _ _ rfl rfl
theorem rl (s : List UInt8) (hs : s.length < 2 ^ 32) (item : PR) (lv : Int) (hp : Pos s item) (hA : ∀ n, n ≤ s.length → dF 641 s lv n (item n)) : ∀ (f : Nat) (acc : List Rx) (n : Nat) (hf : s.length < f + n) (hn : n ≤ s.length) (hac : acc.length + f ≤ s.length + 1), ∃ t, KF s (gH 4 (fx s item 124 f acc n)) t ∧ ∀ (T : List (Nat × AV)) (H : aq) (c g g4 : Nat) (es : List (List AV)) (k : Nat) (hes : es = acc.map Rx.enc) (hk : k = acc.length), Ev G ⟨Qi, ⟨(4, .ref 68 g4 0) :: (0, .ref 0 0 0) :: (6, .vs 200 g k) :: (1, .int .i64 lv) :: T, (0, some (0, .cells [.str s, .int .i64 (n : Int)])) :: (68, some (g4, .cells [.int .i64 0, .int .i64 0, .int .i64 0, .con (.slice none 0 0)])) :: (200, some (g, .vec 4 es)) :: H, c⟩, [.cell 4 (some 4), .t 5], 1⟩ t
 | 0, acc, n, hf, hn, hac => by omega
 | f + 1, acc, n, hf, hn, hac => by
  have hq := hA n hn
  rw [fx]
  have hl : (acc.map Rx.enc).length = acc.length := by simp
  cases ha : item n with
  | none =>
   rw [ha] at hq
   obtain ⟨x, m, hm, hq⟩ := hq
   refine ⟨_, ⟨rx0, m, hm, rfl⟩, fun T H c g g4 es k hes hk => ?_⟩
   subst hes hk
   have hpx := da x
   generalize hxe : x.enc = xe at *
   obtain ⟨k, lo, hi, l⟩ := x
   rw [bp] at hxe
   subst hxe
   rw [jm]
   refine evl ?_
   repeat' (first | refine ae ?_ | refine kX [(0, _, _)] [] ⟨rfl, trivial⟩ trivial (hq) ?_ | (refine ab ?_ ?_ <;> intro h))
   refine dL [] [(68, some (_, .cells ([.int .i64 0, .int .i64 0, .int .i64 0, .sl 4 []])))] trivial ⟨⟨rfl, leA⟩, trivial⟩ ?_
   (conv => whnf); first | refine bJ [(0, _, _)] [] [true] ?_ | refine bL [(0, _, _)] [] [true] ?_
   refine db ?_
   rfl
  | some p =>
   obtain ⟨x, m⟩ := p
   rw [ha] at hq
   obtain ⟨p1, p2, _⟩ := hp _ _ _ hn ha
   simp only [dF] at hq
   dsimp only
   have hpx := da x
   have hax : (acc ++ [x]).map Rx.enc = acc.map Rx.enc ++ [x.enc] := by simp
   by_cases hc : chr s m 124 = true
   ·rw [if_pos hc]
    have hlt := bZ hc
    have h1 : ax G 642 [.ref 0 0 0, .int .u8 124] [.cells [.str s, .int .i64 ((m : Nat) : Int)]] (rpR s (.bool true) (m + 1)) := by
     have := aX s (by omega) 124 m (by omega)
     rwa [hc, if_pos rfl] at this
    obtain ⟨t, h2, h3⟩ := rl s hs item lv hp hA f (acc ++ [x]) (m + 1) (by omega) (by omega) (by simp; omega)
    refine ⟨t, h2, fun T H c g g4 es k hes hk => ?_⟩
    subst hes hk
    rw [hax] at h3
    generalize hxe : x.enc = xe at *
    obtain ⟨k, lo, hi, l⟩ := x
    rw [bp] at hxe
    subst hxe
    refine evl ?_
    repeat' (first | refine ae ?_ | refine kX [(0, _, _)] [] ⟨rfl, trivial⟩ trivial (hq) ?_ | refine kX [(0, _, _)] [] ⟨rfl, trivial⟩ trivial (h1) ?_ | (refine ab ?_ ?_ <;> intro h))
    refine am [4, 0, 6, 1] [0, 68, 200] ?_
    exact h3 _ _ _ _ _ _ _ rfl (by simp)
   ·rw [if_neg hc]
    rw [Bool.not_eq_true] at hc
    have h1 : ax G 642 [.ref 0 0 0, .int .u8 124] [.cells [.str s, .int .i64 ((m : Nat) : Int)]] (rpR s (.bool false) m) := by
     have := aX s (by omega) 124 m (by omega)
     rwa [hc, if_neg (by simp)] at this
    cases acc with
    | nil =>
     refine ⟨rpR s (.tup [.agg x.enc, .bool true]) m, rfl, fun T H c g g4 es k hes hk => ?_⟩
     obtain rfl : es = [] := hes
     obtain rfl : k = 0 := hk
     generalize hxe : x.enc = xe at *
     obtain ⟨k, lo, hi, l⟩ := x
     rw [bp] at hxe
     subst hxe
     refine evl ?_
     repeat' (first | refine ae ?_ | refine kX [(0, _, _)] [] ⟨rfl, trivial⟩ trivial (hq) ?_ | refine kX [(0, _, _)] [] ⟨rfl, trivial⟩ trivial (h1) ?_ | refine And.intro (show Int.toNat 0 < 0 + 1 from Nat.one_pos) ?_ | (refine ab ?_ ?_ <;> intro h))
     (conv => whnf); first | refine bJ [(0, _, _)] [] [true] ?_ | refine bL [(0, _, _)] [] [true] ?_
     refine db ?_
     rfl
    | cons y r =>
     refine ⟨rpR s (.tup [.agg (Rx.mk 4 0 0 (y :: r ++ [x])).enc, .bool true]) m, ?_, fun T H c g g4 es k hes hk => ?_⟩
     ·cases r with
      | nil => rfl
      | cons z q => rfl
     subst hes hk
     rw [bp, hax]
     have hl2 : (y :: r).length = r.length + 1 := rfl
     generalize hxe : x.enc = xe at *
     obtain ⟨k, lo, hi, l⟩ := x
     rw [bp] at hxe
     subst hxe
     refine evl ?_
     repeat' (first | refine ae ?_ | refine kX [(0, _, _)] [] ⟨rfl, trivial⟩ trivial (hq) ?_ | refine kX [(0, _, _)] [] ⟨rfl, trivial⟩ trivial (h1) ?_ | (refine ab ?_ ?_ <;> intro h))
     refine lg [(200, _, _)] [5, 4] [0, 68] ⟨rfl, frP, trivial⟩ ?_; repeat ((conv => whnf); first | refine frA ?_ | intro T H)
     (conv => whnf); first | refine bJ [(0, _, _)] [] [true] ?_ | refine bL [(0, _, _)] [] [true] ?_
     refine db ?_
     rfl
theorem oZ (s : List UInt8) (hs : s.length < 2 ^ 32) (item : PR) (lv : Int) (hp : Pos s item) (hA : ∀ n, n ≤ s.length → dF 641 s lv n (item n)) (n : Nat) (hn : n ≤ s.length) : dF 616 s lv n (gH 4 (fx s item 124 (s.length + 1) [] n)) := by
 obtain ⟨t, h1, h2⟩ := rl s hs item lv hp hA (s.length + 1) [] n (by omega) hn (by simp)
 refine DX h1 ?_
 refine aa (F := f616) rfl rfl (ah 300 _ _ _ _ ?_)
 repeat' (first | refine ae ?_ | (refine ab ?_ ?_ <;> intro h))
 refine lf 200 4 [(6, .vs 200 _ 0)] [] ⟨LeP.nilV _ _ _, trivial⟩ trivial ?_
 refine am [4, 0, 6, 1] [0, 68, 200] ?_
 exact h2 _ _ _ _ _ _ _ rfl rfl
theorem nV (s : List UInt8) (hs : s.length < 2 ^ 32) : ∀ (k : Nat) (lv : Int) (hk : lv + k = 33) (h0 : 0 ≤ lv) (n : Nat) (hn : n ≤ s.length), dF 616 s lv n (ib s (ik s) k n)
 | 0, lv, hk, h0, n, hn => by
  have h1 : ∀ n, n ≤ s.length → dF 656 s lv n ((fun _ => none : PR) n) := fun n hn => Cr s lv (by omega) n hn
  have p1 : Pos s (fun _ => none : PR) := fun n x m _ h => by cases h
  have h2 := mG s (by omega) (fun _ => none) lv p1 h1
  have h3 : ∀ n, n ≤ s.length → dF 641 s lv n (pG s (gU s (fun _ => none)) n) := fun n hn => oY s hs _ lv (jL p1) h2 n hn
  have h4 := oZ s hs _ lv (s9 hs (jL p1)) h3 n hn
  have e : gH 4 (fx s (pG s (gU s (fun _ => none))) 124 (s.length + 1) [] n) = none := by simp [fx, pG, gU, gH]
  rw [e] at h4
  exact h4
 | k + 1, lv, hk, h0, n, hn => by
  have pa := uW hs (pJ s) k
  have h1 : ∀ n, n ≤ s.length → dF 656 s lv n (iM s (ik s) (ib s (ik s) k) n) := fun n hn => xy s (by omega) _ lv (by omega) h0 pa (fun n hn => nV s hs k (lv + 1) (by omega) (by omega) n hn) n hn
  have p1 := Cq (pJ s) pa
  have h2 := mG s (by omega) _ lv p1 h1
  have h3 : ∀ n, n ≤ s.length → dF 641 s lv n (pG s (gU s (iM s (ik s) (ib s (ik s) k))) n) := fun n hn => oY s hs _ lv (jL p1) h2 n hn
  rw [ib]
  exact oZ s hs _ lv (s9 hs (jL p1)) h3 n hn
end Go.AM.IR
namespace Go.AM.IR
theorem zm (k lo hi : Int) (l : List Rx) (hl : l.length < 2 ^ 40) : ∃ e : Int, ax G 652 [.agg [.int .i64 k, .int .i64 lo, .int .i64 hi, .sl 4 (l.map Rx.enc)]] [] ⟨.int .i64 e, []⟩ ∧ (e = 0 ↔ bg k lo hi l.length = true) := by
 have m1 : (l.map Rx.enc).length = l.length := by simp
 obtain ⟨N, hN⟩ : ∃ N, N = l.length := ⟨_, rfl⟩
 rw [← hN] at m1 hl ⊢
 by_cases k1 : k = 1
 ·subst k1
  by_cases a : lo < 0
  ·refine ⟨5, ?_, by simp [bg]; omega⟩
   refine aa (F := f652) rfl rfl (ah 300 _ _ _ _ ?_)
   repeat' (first | refine ae ?_ | (refine ab ?_ ?_ <;> intro h))
   refine ag ?_; rfl
  by_cases b : lo > hi
  ·refine ⟨5, ?_, by simp [bg]; omega⟩
   refine aa (F := f652) rfl rfl (ah 300 _ _ _ _ ?_)
   repeat' (first | refine ae ?_ | (refine ab ?_ ?_ <;> intro h))
   refine ag ?_; rfl
  by_cases c : hi > 4294967295
  ·refine ⟨5, ?_, by simp [bg]; omega⟩
   refine aa (F := f652) rfl rfl (ah 300 _ _ _ _ ?_)
   repeat' (first | refine ae ?_ | (refine ab ?_ ?_ <;> intro h))
   refine ag ?_; rfl
  by_cases d : (N : Int) > 0
  ·refine ⟨1, ?_, by simp [bg]; omega⟩
   refine aa (F := f652) rfl rfl (ah 300 _ _ _ _ ?_)
   repeat' (first | refine ae ?_ | (refine ab ?_ ?_ <;> intro h))
   refine ag ?_; rfl
  ·refine ⟨0, ?_, by simp [bg]; omega⟩
   refine aa (F := f652) rfl rfl (ah 300 _ _ _ _ ?_)
   repeat' (first | refine ae ?_ | (refine ab ?_ ?_ <;> intro h))
   refine ag ?_; rfl
 by_cases k0 : k = 0
 ·subst k0
  by_cases d : (N : Int) > 0
  ·refine ⟨1, ?_, by simp [bg]; omega⟩
   refine aa (F := f652) rfl rfl (ah 300 _ _ _ _ ?_)
   repeat' (first | refine ae ?_ | (refine ab ?_ ?_ <;> intro h))
   refine ag ?_; rfl
  by_cases a : lo = 0
  ·by_cases b : hi = 0
   ·refine ⟨0, ?_, by simp [bg, a, b]; omega⟩
    refine aa (F := f652) rfl rfl (ah 300 _ _ _ _ ?_)
    repeat' (first | refine ae ?_ | (refine ab ?_ ?_ <;> intro h))
    refine ag ?_; rfl
   ·refine ⟨1, ?_, by simp [bg, a, b]⟩
    refine aa (F := f652) rfl rfl (ah 300 _ _ _ _ ?_)
    repeat' (first | refine ae ?_ | (refine ab ?_ ?_ <;> intro h))
    refine ag ?_; rfl
  ·refine ⟨1, ?_, by simp [bg, a]⟩
   refine aa (F := f652) rfl rfl (ah 300 _ _ _ _ ?_)
   repeat' (first | refine ae ?_ | (refine ab ?_ ?_ <;> intro h))
   refine ag ?_; rfl
 by_cases k2 : k = 2
 ·subst k2
  by_cases d : (N : Int) > 0
  ·refine ⟨1, ?_, by simp [bg]; omega⟩
   refine aa (F := f652) rfl rfl (ah 300 _ _ _ _ ?_)
   repeat' (first | refine ae ?_ | (refine ab ?_ ?_ <;> intro h))
   refine ag ?_; rfl
  by_cases a : lo = 0
  ·by_cases b : hi = 0
   ·refine ⟨0, ?_, by simp [bg, a, b]; omega⟩
    refine aa (F := f652) rfl rfl (ah 300 _ _ _ _ ?_)
    repeat' (first | refine ae ?_ | (refine ab ?_ ?_ <;> intro h))
    refine ag ?_; rfl
   ·refine ⟨1, ?_, by simp [bg, a, b]⟩
    refine aa (F := f652) rfl rfl (ah 300 _ _ _ _ ?_)
    repeat' (first | refine ae ?_ | (refine ab ?_ ?_ <;> intro h))
    refine ag ?_; rfl
  ·refine ⟨1, ?_, by simp [bg, a]⟩
   refine aa (F := f652) rfl rfl (ah 300 _ _ _ _ ?_)
   repeat' (first | refine ae ?_ | (refine ab ?_ ?_ <;> intro h))
   refine ag ?_; rfl
 by_cases k3 : k = 3
 ·subst k3
  by_cases d : (N : Int) < 2
  ·refine ⟨1, ?_, by simp [bg]; omega⟩
   refine aa (F := f652) rfl rfl (ah 300 _ _ _ _ ?_)
   repeat' (first | refine ae ?_ | (refine ab ?_ ?_ <;> intro h))
   refine ag ?_; rfl
  by_cases a : lo = 0
  ·by_cases b : hi = 0
   ·refine ⟨0, ?_, by simp [bg, a, b]; omega⟩
    refine aa (F := f652) rfl rfl (ah 300 _ _ _ _ ?_)
    repeat' (first | refine ae ?_ | (refine ab ?_ ?_ <;> intro h))
    refine ag ?_; rfl
   ·refine ⟨1, ?_, by simp [bg, a, b]⟩
    refine aa (F := f652) rfl rfl (ah 300 _ _ _ _ ?_)
    repeat' (first | refine ae ?_ | (refine ab ?_ ?_ <;> intro h))
    refine ag ?_; rfl
  ·refine ⟨1, ?_, by simp [bg, a]⟩
   refine aa (F := f652) rfl rfl (ah 300 _ _ _ _ ?_)
   repeat' (first | refine ae ?_ | (refine ab ?_ ?_ <;> intro h))
   refine ag ?_; rfl
 by_cases k4 : k = 4
 ·subst k4
  by_cases d : (N : Int) = 1
  ·refine ⟨1, ?_, by simp [bg]; omega⟩
   refine aa (F := f652) rfl rfl (ah 300 _ _ _ _ ?_)
   repeat' (first | refine ae ?_ | (refine ab ?_ ?_ <;> intro h))
   refine ag ?_; rfl
  by_cases a : lo = 0
  ·by_cases b : hi = 0
   ·refine ⟨0, ?_, by simp [bg, a, b]; omega⟩
    refine aa (F := f652) rfl rfl (ah 300 _ _ _ _ ?_)
    repeat' (first | refine ae ?_ | (refine ab ?_ ?_ <;> intro h))
    refine ag ?_; rfl
   ·refine ⟨1, ?_, by simp [bg, a, b]⟩
    refine aa (F := f652) rfl rfl (ah 300 _ _ _ _ ?_)
    repeat' (first | refine ae ?_ | (refine ab ?_ ?_ <;> intro h))
    refine ag ?_; rfl
  ·refine ⟨1, ?_, by simp [bg, a]⟩
   refine aa (F := f652) rfl rfl (ah 300 _ _ _ _ ?_)
   repeat' (first | refine ae ?_ | (refine ab ?_ ?_ <;> intro h))
   refine ag ?_; rfl
 by_cases k5 : k = 5
 ·subst k5
  by_cases d : ¬ (N : Int) = 1
  ·refine ⟨1, ?_, by simp [bg]; omega⟩
   refine aa (F := f652) rfl rfl (ah 300 _ _ _ _ ?_)
   repeat' (first | refine ae ?_ | (refine ab ?_ ?_ <;> intro h))
   refine ag ?_; rfl
  by_cases a : lo = 0
  ·by_cases b : hi = 0
   ·refine ⟨0, ?_, by simp [bg, a, b]; omega⟩
    refine aa (F := f652) rfl rfl (ah 300 _ _ _ _ ?_)
    repeat' (first | refine ae ?_ | (refine ab ?_ ?_ <;> intro h))
    refine ag ?_; rfl
   ·refine ⟨1, ?_, by simp [bg, a, b]⟩
    refine aa (F := f652) rfl rfl (ah 300 _ _ _ _ ?_)
    repeat' (first | refine ae ?_ | (refine ab ?_ ?_ <;> intro h))
    refine ag ?_; rfl
  ·refine ⟨1, ?_, by simp [bg, a]⟩
   refine aa (F := f652) rfl rfl (ah 300 _ _ _ _ ?_)
   repeat' (first | refine ae ?_ | (refine ab ?_ ?_ <;> intro h))
   refine ag ?_; rfl
 by_cases k6 : k = 6
 ·subst k6
  by_cases d : ¬ (N : Int) = 1
  ·refine ⟨1, ?_, by simp [bg]; omega⟩
   refine aa (F := f652) rfl rfl (ah 300 _ _ _ _ ?_)
   repeat' (first | refine ae ?_ | (refine ab ?_ ?_ <;> intro h))
   refine ag ?_; rfl
  by_cases a : lo = 0
  ·by_cases b : hi = 0
   ·refine ⟨0, ?_, by simp [bg, a, b]; omega⟩
    refine aa (F := f652) rfl rfl (ah 300 _ _ _ _ ?_)
    repeat' (first | refine ae ?_ | (refine ab ?_ ?_ <;> intro h))
    refine ag ?_; rfl
   ·refine ⟨1, ?_, by simp [bg, a, b]⟩
    refine aa (F := f652) rfl rfl (ah 300 _ _ _ _ ?_)
    repeat' (first | refine ae ?_ | (refine ab ?_ ?_ <;> intro h))
    refine ag ?_; rfl
  ·refine ⟨1, ?_, by simp [bg, a]⟩
   refine aa (F := f652) rfl rfl (ah 300 _ _ _ _ ?_)
   repeat' (first | refine ae ?_ | (refine ab ?_ ?_ <;> intro h))
   refine ag ?_; rfl
 by_cases k7 : k = 7
 ·subst k7
  by_cases d : ¬ (N : Int) = 1
  ·refine ⟨1, ?_, by simp [bg]; omega⟩
   refine aa (F := f652) rfl rfl (ah 300 _ _ _ _ ?_)
   repeat' (first | refine ae ?_ | (refine ab ?_ ?_ <;> intro h))
   refine ag ?_; rfl
  by_cases a : lo = 0
  ·by_cases b : hi = 0
   ·refine ⟨0, ?_, by simp [bg, a, b]; omega⟩
    refine aa (F := f652) rfl rfl (ah 300 _ _ _ _ ?_)
    repeat' (first | refine ae ?_ | (refine ab ?_ ?_ <;> intro h))
    refine ag ?_; rfl
   ·refine ⟨1, ?_, by simp [bg, a, b]⟩
    refine aa (F := f652) rfl rfl (ah 300 _ _ _ _ ?_)
    repeat' (first | refine ae ?_ | (refine ab ?_ ?_ <;> intro h))
    refine ag ?_; rfl
  ·refine ⟨1, ?_, by simp [bg, a]⟩
   refine aa (F := f652) rfl rfl (ah 300 _ _ _ _ ?_)
   repeat' (first | refine ae ?_ | (refine ab ?_ ?_ <;> intro h))
   refine ag ?_; rfl
 refine ⟨15, ?_, by simp [bg, k0, k1, k2, k3, k4]; omega⟩
 refine aa (F := f652) rfl rfl (ah 300 _ _ _ _ ?_)
 repeat' (first | refine ae ?_ | (refine ab ?_ ?_ <;> intro h))
 refine ag ?_; rfl
def ChkG (o : Option Nat) (n e : Int) : Prop := match o with
 | some c => n = c ∧ e = 0
 | none => e ≠ 0
end Go.AM.IR
namespace Go.AM.IR
mutual
theorem BR : ∀ {x : Rx} {lv c c' : Nat}, chk x lv c = some c' → c' ≤ 64
 | .mk k lo hi l, lv, c, c', h => by
  rw [chk] at h
  split at h
  ·cases h
  ·split at h
   ·cases h
   ·split at h
    ·exact JS (by omega) h
    ·cases h
theorem JS : ∀ {l : List Rx} {lv c c' : Nat}, c ≤ 64 → iw l lv c = some c' → c' ≤ 64
 | [], _, _, _, hc, h => by rw [iw] at h; cases h; exact hc
 | x :: r, lv, c, c', hc, h => by
  rw [iw] at h
  split at h
  ·rename_i c1 h1
   exact JS (BR h1) h
  ·cases h
end
def sM (x : Rx) (lv : Nat) : Prop := ∀ c : Nat, c ≤ 64 → ∃ n e : Int, ChkG (chk x lv c) n e ∧ ax G 643 [.agg x.enc, .int .i64 (lv : Int), .int .i64 (c : Int)] [] ⟨.tup [.int .i64 n, .int .i64 e], []⟩
theorem pw (l : List Rx) (hl : l.length < 2 ^ 40) (lv : Nat) (hlv : lv ≤ 16) (hk : ∀ y ∈ l, sM y (lv + 1)) : ∀ (rest done : List Rx) (c : Nat) (n : Int) (e : l = done ++ rest) (hn : n = done.length) (hc : c ≤ 64), ∃ N E : Int, ChkG (iw rest (lv + 1) c) N E ∧ ∀ (T : List (Nat × AV)) (H : aq) (ct : Nat),
  Ev G ⟨Mt, ⟨(30, .int .i64 n) :: (2, .int .i64 (c : Int)) :: (1, .int .i64 (lv : Int)) :: (28, .sl 4 (l.map Rx.enc)) :: (29, .int .i64 l.length) :: T, H, ct⟩, [.t 6, .t 7], 0⟩ ⟨.tup [.int .i64 N, .int .i64 E], []⟩
 | [], done, c, n, e, hn, hc => by
  have hd : l.length = done.length := by simp [e]
  refine ⟨c, 0, by rw [iw]; exact ⟨rfl, rfl⟩, fun T H ct => ?_⟩
  refine evl ?_
  repeat' (first | refine ae ?_ | (refine ab ?_ ?_ <;> intro h))
  refine ag ?_; rfl
 | x :: r, done, c, n, e, hn, hc => by
  have hd : l.length = done.length + (r.length + 1) := by simp [e]
  have hll : (l.map Rx.enc).length = l.length := by simp
  have hx : (l.map Rx.enc)[n.toNat]? = some x.enc := by simp [e, hn]
  obtain ⟨n1, e1, h1, g1⟩ := hk x (by simp [e]) c hc
  have g1 : ax G 643 [.agg x.enc, .int .i64 ((lv : Int) + 1), .int .i64 (c : Int)] [] ⟨.tup [.int .i64 n1, .int .i64 e1], []⟩ := g1
  have hpx := da x
  rw [iw]
  cases hq : chk x (lv + 1) c with
  | none =>
   rw [hq] at h1
   have h1 : ¬ e1 = 0 := h1
   refine ⟨n1, e1, h1, fun T H ct => ?_⟩
   generalize hxe : x.enc = xe at *
   obtain ⟨k, lo, hi, q⟩ := x
   rw [bp] at hxe
   subst hxe
   refine evl ?_
   repeat' (first | refine ae ?_ | (refine ab ?_ ?_ <;> intro h))
   refine ag ?_; rfl
  | some c1 =>
   rw [hq] at h1
   obtain ⟨rfl, rfl⟩ := h1
   obtain ⟨N, E, h2, h3⟩ := pw l hl lv hlv hk r (done ++ [x]) c1 (n + 1) (by simp [e]) (by simp [hn]) (BR hq)
   refine ⟨N, E, h2, fun T H ct => ?_⟩
   generalize hxe : x.enc = xe at *
   obtain ⟨k, lo, hi, q⟩ := x
   rw [bp] at hxe
   subst hxe
   refine evl ?_
   repeat' (first | refine ae ?_ | (refine ab ?_ ?_ <;> intro h))
   refine am [30, 2, 1, 28, 29] [] ?_
   exact h3 _ _ _
theorem acR (k lo hi : Int) (l : List Rx) (hs : l.length < 2 ^ 40) (lv : Nat) (hlv : lv ≤ 17) (hk : lv ≤ 16 → ∀ y ∈ l, sM y (lv + 1)) : sM (.mk k lo hi l) lv := by
 intro c hc
 have m1 : (l.map Rx.enc).length = l.length := by simp
 obtain ⟨e0, g0, h0⟩ := zm k lo hi l hs
 rw [chk, bp]
 by_cases a : 16 < lv
 ·rw [if_pos a]
  have a' : (lv : Int) > 16 := by omega
  refine ⟨c, 24, (show (24 : Int) ≠ 0 by decide), ?_⟩
  refine aa (F := f643) rfl rfl (ah 300 _ _ _ _ ?_)
  repeat' (first | refine ae ?_ | (refine ab ?_ ?_ <;> intro h))
  refine ag ?_; rfl
 rw [if_neg a]
 by_cases b : 64 ≤ c
 ·rw [if_pos b]
  have b' : (c : Int) ≥ 64 := by omega
  refine ⟨c, 4, (show (4 : Int) ≠ 0 by decide), ?_⟩
  refine aa (F := f643) rfl rfl (ah 300 _ _ _ _ ?_)
  repeat' (first | refine ae ?_ | (refine ab ?_ ?_ <;> intro h))
  refine ag ?_; rfl
 rw [if_neg b]
 by_cases d : bg k lo hi l.length = true
 ·rw [if_pos d]
  obtain rfl : e0 = 0 := h0.2 d
  obtain ⟨N, E, h2, h3⟩ := pw l hs lv (by omega) (hk (by omega)) l [] (c + 1) 0 rfl rfl (by omega)
  refine ⟨N, E, h2, ?_⟩
  refine aa (F := f643) rfl rfl (ah 300 _ _ _ _ ?_)
  repeat' (first | refine ae ?_ | (refine ab ?_ ?_ <;> intro h))
  refine am [30, 2, 1, 28, 29] [] ?_
  rw [m1]
  exact h3 _ _ _
 ·rw [if_neg d]
  have d' : ¬ e0 = 0 := fun q => d (h0.1 q)
  refine ⟨c, e0, d', ?_⟩
  refine aa (F := f643) rfl rfl (ah 300 _ _ _ _ ?_)
  repeat' (first | refine ae ?_ | (refine ab ?_ ?_ <;> intro h))
  refine ag ?_; rfl
mutual
theorem JQ : ∀ (x : Rx), Sml x → ∀ lv : Nat, lv ≤ 17 → sM x lv
 | .mk k lo hi l, hs, lv, hlv => acR k lo hi l hs.len lv hlv fun h => BT l hs.kid (lv + 1) (by omega)
theorem BT : ∀ (l : List Rx), (∀ x ∈ l, Sml x) → ∀ lv : Nat, lv ≤ 17 → ∀ y ∈ l, sM y lv
 | [], _, _, _ => fun y hy => by simp at hy
 | x :: r, hs, lv, hlv => fun y hy => by
  have h1 := JQ x (hs x (by simp)) lv hlv
  rcases List.mem_cons.1 hy with q | q
  ·rw [q]; exact h1
  ·exact BT r (fun z hz => hs z (by simp [hz])) lv hlv y q
end
theorem uQ (x : Rx) (hs : Sml x) : ∃ e : Int, ax G 617 [.agg x.enc] [] ⟨.int .i64 e, []⟩ ∧ (e = 0 ↔ (chk x 1 0).isSome = true) := by
 obtain ⟨n, e, h1, g1⟩ := JQ x hs 1 (by omega) 0 (by omega)
 have g1 : ax G 643 [.agg x.enc, .int .i64 1, .int .i64 0] [] ⟨.tup [.int .i64 n, .int .i64 e], []⟩ := g1
 refine ⟨e, ?_, ?_⟩
 ·generalize hxe : x.enc = xe at *
  obtain ⟨k, lo, hi, q⟩ := x
  rw [bp] at hxe
  subst hxe
  refine aa (F := f617) rfl rfl (ah 300 _ _ _ _ ?_)
  repeat' (first | refine ae ?_ | (refine ab ?_ ?_ <;> intro h))
  refine ag ?_; rfl
 ·cases hq : chk x 1 0 with
  | none => rw [hq] at h1; simp; exact h1
  | some c => rw [hq] at h1; simp; exact h1.2
end Go.AM.IR
namespace Go.AM.IR
section
variable {kv : AV → Prop} {k : Eff → Prop} {x : Opd} {g key : Nat} {hg : Nat → Option (Nat × Blk)} {n d : Nat}
theorem uY {v : Int} (h0 : 0 ≤ v) (h1 : v < 18446744073709551616) : IntKind.wrap .u64 v = v := by
 simp [IntKind.wrap, IntKind.bits, IntKind.signed]; omega
theorem OB (hn : n < 18446744073709551616) (h : kv (.int .u64 ((n % 10 : Nat) : Int))) : ∃ v, bj .rem (.int .u64 (n : Int)) (.int .u64 10) = some v ∧ kv v := by
 refine ⟨_, ?_, h⟩
 simp only [bj]
 simp only [ne_eq, not_true_eq_false, if_false, reduceIte]
 rw [if_neg (by decide)]
 have e : (n : Int).tmod 10 = ((n % 10 : Nat) : Int) := by rw [Int.tmod_eq_emod_of_nonneg (by omega)]; omega
 rw [e]
theorem zQuo (hn : n < 18446744073709551616) (h : kv (.int .u64 ((n / 10 : Nat) : Int))) : ∃ v, bj .quo (.int .u64 (n : Int)) (.int .u64 10) = some v ∧ kv v := by
 refine ⟨_, ?_, h⟩
 simp only [bj]
 simp only [ne_eq, not_true_eq_false, if_false, reduceIte]
 rw [if_neg (by decide)]
 have e : (n : Int).tdiv 10 = ((n / 10 : Nat) : Int) := by rw [Int.tdiv_eq_ediv_of_nonneg (by omega)]; omega
 rw [e, uY (by omega) (by omega)]
theorem J5 (hd : d < 10) (h : kv (.int .u64 ((48 + d : Nat) : Int))) : ∃ v, bj .add (.int .u64 48) (.int .u64 (d : Int)) = some v ∧ kv v := by
 refine ⟨_, ?_, h⟩
 show some (AV.int .u64 (IntKind.wrap .u64 (48 + (d : Int)))) = _
 rw [uY (by omega) (by omega)]; simp
theorem OD (hd : d < 10) (h : k { res := .int .u8 ((UInt8.ofNat (48 + d)).toNat : Int) }) : ∃ e, aE (.conv .u8 x) g key [.int .u64 ((48 + d : Nat) : Int)] hg = some e ∧ k e := by
 refine ⟨_, ?_, h⟩
 have e : (UInt8.ofNat (48 + d)).toNat = 48 + d := by rw [UInt8.toNat_ofNat']; omega
 show some ({ res := AV.int .u8 (IntKind.wrap .u8 ((48 + d : Nat) : Int)) } : Eff) = _
 rw [e, n6 (by omega) (by omega)]
end
theorem su {f n : Nat} (h : n < 10) : dQ f n = [UInt8.ofNat (48 + n)] := by
 cases f <;> simp [dQ, h]
theorem BH : ∀ (f n : Nat), (dQ f n).length ≤ f + 1
 | 0, n => by simp [dQ]
 | f + 1, n => by
  have := BH f (n / 10)
  simp only [dQ]
  split
  ·simp
  ·simp; omega
theorem BC : ∀ (f n : Nat), f < 2 ^ 40 → n < 10 ^ (f + 1) → n < 18446744073709551616 → ax G 344 [.int .u64 (n : Int)] [] ⟨.str (dQ f n), []⟩ := by
 intro f
 induction f with
 | zero =>
  intro n _ h h2
  have hn : n < 10 := by simpa using h
  rw [su hn]
  have hd : n % 10 < 10 := by omega
  have hlt : (n : Int) < 10 := by omega
  have e : UInt8.ofNat (48 + n) = UInt8.ofNat (48 + n % 10) := by rw [Nat.mod_eq_of_lt hn]
  rw [e]
  refine aa (F := f344) rfl rfl (ah 300 _ _ _ _ ?_)
  repeat' ((conv => whnf); first | refine OB h2 ?_ | refine J5 hd ?_ | refine OD hd ?_ | refine zBv (l := [UInt8.ofNat (48 + n % 10)]) rfl rfl ?_ | refine aP ?_ | (refine ab ?_ ?_ <;> intro h))
  refine ag ?_; rfl
 | succ f ih =>
  intro n hf h h2
  have hd : n % 10 < 10 := by omega
  by_cases hn : n < 10
  ·rw [su hn]
   have hlt : (n : Int) < 10 := by omega
   have e : UInt8.ofNat (48 + n) = UInt8.ofNat (48 + n % 10) := by rw [Nat.mod_eq_of_lt hn]
   rw [e]
   refine aa (F := f344) rfl rfl (ah 300 _ _ _ _ ?_)
   repeat' ((conv => whnf); first | refine OB h2 ?_ | refine J5 hd ?_ | refine OD hd ?_ | refine zBv (l := [UInt8.ofNat (48 + n % 10)]) rfl rfl ?_ | refine aP ?_ | (refine ab ?_ ?_ <;> intro h))
   refine ag ?_; rfl
  ·have hlt : ¬ (n : Int) < 10 := by omega
   have h1 := ih (n / 10) (by omega) (by rw [Nat.pow_succ] at h; omega) (by omega)
   have e : dQ (f + 1) n = dQ f (n / 10) ++ [UInt8.ofNat (48 + n % 10)] := by simp [dQ, hn]
   rw [e]
   have hwl := BH f (n / 10)
   generalize dQ f (n / 10) = w at *
   have hul : [UInt8.ofNat (48 + n % 10)].length = 1 := rfl
   refine aa (F := f344) rfl rfl (ah 300 _ _ _ _ ?_)
   repeat' ((conv => whnf); first | refine OB h2 ?_ | refine J5 hd ?_ | refine OD hd ?_ | refine zBv (l := [UInt8.ofNat (48 + n % 10)]) rfl rfl ?_ | refine zQuo h2 ?_ | refine jB ?_ | refine aP ?_ | (refine ab ?_ ?_ <;> intro h))
   refine ag ?_; rfl
theorem mL (a : Int) (h0 : 0 ≤ a) (h1 : a ≤ 4294967295) : ax G 338 [.int .i64 a] [] ⟨.str (aY a), []⟩ := by
 have h := BC 19 a.toNat (by omega) (by omega) (by omega)
 have e : ((a.toNat : Nat) : Int) = a := by omega
 rw [e] at h
 have e2 : aY a = dQ 19 a.toNat := by unfold aY; rw [if_neg (by omega)]
 rw [e2]
 generalize dQ 19 a.toNat = w at *
 refine aa (F := f338) rfl rfl (ah 300 _ _ _ _ ?_)
 repeat' (first | refine ae ?_ | (refine ab ?_ ?_ <;> intro h))
 refine ag ?_; rfl
end Go.AM.IR
namespace Go.AM.IR
set_option linter.unusedVariables false
theorem wy : ∀ (f m n : Nat), n < 10 ^ (m + 1) → (dQ f n).length ≤ m + 1
 | 0, m, n, h => by simp [dQ]
 | f + 1, m, n, h => by
  simp only [dQ]
  split
  ·simp
  ·rename_i hn
   cases m with
   | zero => simp at h; omega
   | succ m =>
    have := wy f m (n / 10) (by rw [Nat.pow_succ] at h; omega)
    simp; omega
theorem ma {a : Int} (h0 : 0 ≤ a) (h1 : a ≤ 4294967295) : (aY a).length ≤ 10 := by
 unfold aY
 rw [if_neg (by omega)]
 exact wy 19 9 a.toNat (by omega)
def du : List (List UInt8) → Nat
 | [] => 0
 | p :: r => p.length + 1 + du r
theorem ny {c : UInt8} : ∀ ps : List (List UInt8), (dW c ps).length ≤ du ps
 | [] => by simp [dW]
 | [p] => by simp [dW, du]
 | p :: q :: qs => by
  have := ny (c := c) (q :: qs)
  rw [vL, du]; simp; omega
theorem P9 (p : Int) (x : Rx) (l : List UInt8) : (ja p x l).length ≤ l.length + 2 := by
 unfold ja
 split
 ·simp
 ·omega
mutual
theorem RE : ∀ (x : Rx) {lv c c' : Nat}, chk x lv c = some c' → (pat aY x).length + 3 + 32 * c ≤ 32 * c'
 | .mk k lo hi l, lv, c, c', h => by
  rw [chk] at h
  split at h
  ·cases h
  ·split at h
   ·cases h
   ·split at h
    ·rename_i hn
     have h1 := nd k l h
     rw [pat]
     generalize hps : cj aY k l = ps at *
     have h2 := ny (c := 32) ps
     have h3 := ny (c := 124) ps
     have h4 : (ps.headD []).length ≤ du ps := by cases ps <;> simp [du]; omega
     unfold bg at hn
     unfold fb
     split
     ·simp; omega
     split
     ·rename_i h0 hk1
      rw [if_pos hk1] at hn
      have hn := of_decide_eq_true hn
      have i1 := ma (a := lo) hn.1 (by omega)
      have i2 := ma (a := hi) (by omega) hn.2.2.1
      split
      ·omega
      ·simp; omega
     split
     ·simp; omega
     split
     ·omega
     split
     ·split
      ·simp; omega
      ·omega
     split
     ·simp at h4 ⊢; omega
     split
     ·simp at h4 ⊢; omega
     ·simp at h4 ⊢; omega
    ·cases h
theorem nd (k : Int) : ∀ (l : List Rx) {lv c c' : Nat}, iw l lv c = some c' → du (cj aY k l) + 32 * c ≤ 32 * c'
 | [], lv, c, c', h => by rw [iw] at h; cases h; rw [cj]; simp [du]
 | x :: r, lv, c, c', h => by
  rw [iw] at h
  split at h
  ·rename_i c1 h1
   have h2 := RE x h1
   have h3 := nd k r h
   have h4 := P9 k x (pat aY x)
   rw [cj, du]
   omega
  ·cases h
end
end Go.AM.IR
namespace Go.AM.IR
theorem Qy (k k2 lo hi : Int) (l : List Rx) : sn k (.mk k2 lo hi l) = if k2 = 3 then decide (k ≠ 4) else if k2 = 4 then !l.isEmpty else decide (5 ≤ k2 ∧ k2 ≤ 7) && decide (5 ≤ k ∧ k ≤ 7) := rfl
theorem xh (k lo hi k2 lo2 hi2 : Int) (l l2 : List Rx) (hl : l2.length < 2 ^ 40) : ax G 644 [.agg [.int .i64 k, .int .i64 lo, .int .i64 hi, .sl 4 (l.map Rx.enc)], .agg [.int .i64 k2, .int .i64 lo2, .int .i64 hi2, .sl 4 (l2.map Rx.enc)]] [] ⟨.bool (sn k (.mk k2 lo2 hi2 l2)), []⟩ := by
 have m1 : (l2.map Rx.enc).length = l2.length := by simp
 have hrep : ∀ b : Bool, b = decide (5 ≤ k ∧ k ≤ 7) → True := fun _ _ => trivial
 rw [Qy]
 by_cases a3 : k2 = 3
 ·rw [if_pos a3]
  subst a3
  by_cases e : k = 4
  ·subst e
   refine aa (F := f644) rfl rfl (ah 300 _ _ _ _ ?_)
   repeat' (first | refine ae ?_ | (refine ab ?_ ?_ <;> intro h))
   refine ag ?_; rfl
  ·rw [decide_eq_true e]
   by_cases e5 : k = 5
   ·subst e5
    refine aa (F := f644) rfl rfl (ah 300 _ _ _ _ ?_)
    repeat' (first | refine ae ?_ | (refine ab ?_ ?_ <;> intro h))
    refine ag ?_; rfl
   by_cases e6 : k = 6
   ·subst e6
    refine aa (F := f644) rfl rfl (ah 300 _ _ _ _ ?_)
    repeat' (first | refine ae ?_ | (refine ab ?_ ?_ <;> intro h))
    refine ag ?_; rfl
   refine aa (F := f644) rfl rfl (ah 300 _ _ _ _ ?_)
   repeat' (first | refine ae ?_ | (refine ab ?_ ?_ <;> intro h))
   refine ag ?_
   simp [e]
 rw [if_neg a3]
 by_cases a4 : k2 = 4
 ·rw [if_pos a4]
  subst a4
  have hem : (!l2.isEmpty) = decide ((l2.length : Int) > 0) := by cases l2 <;> simp
  rw [hem]
  by_cases e5 : k = 5
  ·subst e5
   refine aa (F := f644) rfl rfl (ah 300 _ _ _ _ ?_)
   repeat' (first | refine ae ?_ | (refine ab ?_ ?_ <;> intro h))
   refine ag ?_
   rw [m1]
  by_cases e6 : k = 6
  ·subst e6
   refine aa (F := f644) rfl rfl (ah 300 _ _ _ _ ?_)
   repeat' (first | refine ae ?_ | (refine ab ?_ ?_ <;> intro h))
   refine ag ?_
   rw [m1]
  refine aa (F := f644) rfl rfl (ah 300 _ _ _ _ ?_)
  repeat' (first | refine ae ?_ | (refine ab ?_ ?_ <;> intro h))
  refine ag ?_
  rw [m1]
 rw [if_neg a4]
 have run : ∀ d : Bool, d = decide (5 ≤ k ∧ k ≤ 7) → ∀ e : Bool, e = decide (5 ≤ k2 ∧ k2 ≤ 7) → ax G 644 [.agg [.int .i64 k, .int .i64 lo, .int .i64 hi, .sl 4 (l.map Rx.enc)], .agg [.int .i64 k2, .int .i64 lo2, .int .i64 hi2, .sl 4 (l2.map Rx.enc)]] [] ⟨.bool (e && d), []⟩ := fun d hd e he => by
  by_cases b5 : k2 = 5
  ·subst b5
   obtain rfl : e = true := by rw [he]; decide
   by_cases e5 : k = 5
   ·subst e5
    obtain rfl : d = true := by rw [hd]; decide
    refine aa (F := f644) rfl rfl (ah 300 _ _ _ _ ?_)
    repeat' (first | refine ae ?_ | (refine ab ?_ ?_ <;> intro h))
    refine ag ?_; rfl
   by_cases e6 : k = 6
   ·subst e6
    obtain rfl : d = true := by rw [hd]; decide
    refine aa (F := f644) rfl rfl (ah 300 _ _ _ _ ?_)
    repeat' (first | refine ae ?_ | (refine ab ?_ ?_ <;> intro h))
    refine ag ?_; rfl
   obtain rfl : d = decide (k = 7) := by rw [hd, Bool.eq_iff_iff]; simp only [decide_eq_true_eq]; omega
   refine aa (F := f644) rfl rfl (ah 300 _ _ _ _ ?_)
   repeat' (first | refine ae ?_ | (refine ab ?_ ?_ <;> intro h))
   refine ag ?_
   simp
   rw [Bool.eq_iff_iff]
   simp
  by_cases b6 : k2 = 6
  ·subst b6
   obtain rfl : e = true := by rw [he]; decide
   by_cases e5 : k = 5
   ·subst e5
    obtain rfl : d = true := by rw [hd]; decide
    refine aa (F := f644) rfl rfl (ah 300 _ _ _ _ ?_)
    repeat' (first | refine ae ?_ | (refine ab ?_ ?_ <;> intro h))
    refine ag ?_; rfl
   by_cases e6 : k = 6
   ·subst e6
    obtain rfl : d = true := by rw [hd]; decide
    refine aa (F := f644) rfl rfl (ah 300 _ _ _ _ ?_)
    repeat' (first | refine ae ?_ | (refine ab ?_ ?_ <;> intro h))
    refine ag ?_; rfl
   obtain rfl : d = decide (k = 7) := by rw [hd, Bool.eq_iff_iff]; simp only [decide_eq_true_eq]; omega
   refine aa (F := f644) rfl rfl (ah 300 _ _ _ _ ?_)
   repeat' (first | refine ae ?_ | (refine ab ?_ ?_ <;> intro h))
   refine ag ?_
   simp
   rw [Bool.eq_iff_iff]
   simp
  by_cases b7 : k2 = 7
  ·subst b7
   obtain rfl : e = true := by rw [he]; decide
   by_cases e5 : k = 5
   ·subst e5
    obtain rfl : d = true := by rw [hd]; decide
    refine aa (F := f644) rfl rfl (ah 300 _ _ _ _ ?_)
    repeat' (first | refine ae ?_ | (refine ab ?_ ?_ <;> intro h))
    refine ag ?_; rfl
   by_cases e6 : k = 6
   ·subst e6
    obtain rfl : d = true := by rw [hd]; decide
    refine aa (F := f644) rfl rfl (ah 300 _ _ _ _ ?_)
    repeat' (first | refine ae ?_ | (refine ab ?_ ?_ <;> intro h))
    refine ag ?_; rfl
   obtain rfl : d = decide (k = 7) := by rw [hd, Bool.eq_iff_iff]; simp only [decide_eq_true_eq]; omega
   refine aa (F := f644) rfl rfl (ah 300 _ _ _ _ ?_)
   repeat' (first | refine ae ?_ | (refine ab ?_ ?_ <;> intro h))
   refine ag ?_
   simp
   rw [Bool.eq_iff_iff]
   simp
  obtain rfl : e = false := by rw [he]; simp; omega
  by_cases e5 : k = 5
  ·subst e5
   refine aa (F := f644) rfl rfl (ah 300 _ _ _ _ ?_)
   repeat' (first | refine ae ?_ | (refine ab ?_ ?_ <;> intro h))
   refine ag ?_; rfl
  by_cases e6 : k = 6
  ·subst e6
   refine aa (F := f644) rfl rfl (ah 300 _ _ _ _ ?_)
   repeat' (first | refine ae ?_ | (refine ab ?_ ?_ <;> intro h))
   refine ag ?_; rfl
  refine aa (F := f644) rfl rfl (ah 300 _ _ _ _ ?_)
  repeat' (first | refine ae ?_ | (refine ab ?_ ?_ <;> intro h))
  refine ag ?_; rfl
 exact run _ rfl _ rfl
def jc (w : List UInt8) : List AV := [.str w]
@[simp] theorem O9 : ∀ l : List (List UInt8), aG (l.map jc) = true
 | [] => rfl
 | x :: r => by simp only [List.map_cons, aG, O9 r]; rfl
def jr (c : UInt8) : List (List UInt8) → List UInt8
 | [] => []
 | x :: r => c :: (x ++ jr c r)
theorem zh (c : UInt8) : ∀ (x : List UInt8) (r : List (List UInt8)), dW c (x :: r) = x ++ jr c r
 | x, [] => by simp [dW, jr]
 | x, y :: r => by rw [vL, zh c y r, jr]
theorem jK (l : List (List UInt8)) (hl : l.length < 2 ^ 40) (c : UInt8) : ∀ (rest done : List (List UInt8)) (acc R : List UInt8) (T : List (Nat × AV)) (H : aq) (ct : Nat) (n : Int) (e : l = done ++ rest) (hn : n = done.length) (hb : acc.length + du rest < 2 ^ 40) (hR : R = if done = [] then dW c rest else acc ++ jr c rest) (hd0 : done = [] → acc = []),
  Ev G ⟨Qd, ⟨(10, .int .i64 n) :: (1, .str [c]) :: (5, .str acc) :: (8, .sl 1 (l.map jc)) :: (9, .int .i64 l.length) :: T, H, ct⟩, [.t 4], 0⟩ ⟨.str R, []⟩
 | [], done, acc, R, T, H, ct, n, e, hn, hb, hR, hd0 => by
  have hd : l.length = done.length := by simp [e]
  obtain rfl : R = acc := by
   rw [hR]
   by_cases h : done = []
   ·rw [if_pos h, hd0 h]; rfl
   ·rw [if_neg h]; simp [jr]
  refine evl ?_
  repeat' (first | refine ae ?_ | (refine ab ?_ ?_ <;> intro h))
  refine ag ?_; rfl
 | x :: r, done, acc, R, T, H, ct, n, e, hn, hb, hR, hd0 => by
  have hd : l.length = done.length + (r.length + 1) := by simp [e]
  have hll : (l.map jc).length = l.length := by simp
  have hx : (l.map jc)[n.toNat]? = some [.str x] := by simp [e, hn, jc]
  have h1 : [c].length = 1 := rfl
  rw [du] at hb
  by_cases h : done = []
  ·have h0 := hd0 h
   subst h h0
   obtain rfl : n = 0 := hn
   rw [if_pos rfl, zh] at hR
   have hz : ([] : List UInt8).length = 0 := rfl
   refine evl ?_
   repeat' ((conv => whnf); first | refine jB ?_ | refine aP ?_ | (refine ab ?_ ?_ <;> intro h))
   refine am [10, 1, 5, 8, 9] [] ?_
   exact jK l hl c r [x] x R _ _ _ 1 (by simpa using e) rfl (by simp at hb; omega) (by rw [if_neg (by simp)]; exact hR) (by simp)
  ·rw [if_neg h, jr] at hR
   have hp : (0 : Int) < n := by
    have : done.length ≠ 0 := fun q => h (List.eq_nil_of_length_eq_zero q)
    omega
   have h2 : (acc ++ [c]).length = acc.length + 1 := by simp
   refine evl ?_
   repeat' ((conv => whnf); first | refine jB ?_ | refine aP ?_ | (refine ab ?_ ?_ <;> intro h))
   refine am [10, 1, 5, 8, 9] [] ?_
   exact jK l hl c r (done ++ [x]) (acc ++ [c] ++ x) R _ _ _ (n + 1) (by simp [e]) (by simp [hn]) (by simp; omega) (by rw [if_neg (by simp), hR]; simp) (by simp)
theorem mF (l : List (List UInt8)) (hl : l.length < 2 ^ 40) (hb : du l < 2 ^ 40) (c : UInt8) : ax G 645 [.sl 1 (l.map jc), .str [c]] [] ⟨.str (dW c l), []⟩ := by
 have hll : (l.map jc).length = l.length := by simp
 refine aa (F := f645) rfl rfl (ah 300 _ _ _ _ ?_)
 repeat' (first | refine ae ?_ | (refine ab ?_ ?_ <;> intro h))
 refine am [10, 1, 5, 8, 9] [] ?_
 rw [hll]
 exact jK l hl c l [] [] _ _ _ _ 0 rfl rfl (by simpa using hb) (by rw [if_pos rfl]) (fun _ => rfl)
end Go.AM.IR
namespace Go.AM.IR
theorem yf : ∀ (a b : List (List UInt8)), du (a ++ b) = du a + du b
 | [], b => by simp [du]
 | x :: r, b => by rw [List.cons_append, du, du, yf r b]; omega
theorem pT (dec : Int → List UInt8) (k : Int) : ∀ (a b : List Rx), cj dec k (a ++ b) = cj dec k a ++ cj dec k b
 | [], b => by rw [cj]; rfl
 | x :: r, b => by rw [List.cons_append, cj, cj, pT dec k r b]; rfl
def nY (x : Rx) : Prop := ax G 618 [.agg x.enc] [] ⟨.str (pat aY x), []⟩
theorem Df (k lo hi : Int) (l : List Rx) (hn : bg k lo hi l.length = true) (hl : l.length < 2 ^ 40) (hb : du (cj aY k l) < 2 ^ 30) (g gp : Nat) (T : List (Nat × AV)) (H : aq) (ct : Nat) (ps : List (List UInt8)) (hps : ps = cj aY k l) :
  Ev G ⟨kf, ⟨(10, .int .i64 l.length) :: (3, .vs 200 g ps.length) :: (1, .ref 65 gp 0) :: (8, .sl 4 (l.map Rx.enc)) :: (9, .int .i64 l.length) :: T, (200, some (g, .vec 1 (ps.map jc))) :: (65, some (gp, .cells [.int .i64 k, .int .i64 lo, .int .i64 hi, .sl 4 (l.map Rx.enc)])) :: H, ct⟩, [.t 2], 0⟩ ⟨.str (fb aY k lo hi ps), []⟩ := by
 have hpl : ps.length = l.length := by rw [hps]; exact pR l
 have m1 : (ps.map jc).length = ps.length := by simp
 rw [← hps] at hb
 unfold bg at hn
 by_cases k1 : k = 1
 ·rw [if_pos k1] at hn
  obtain ⟨q1, q2, q3, q4⟩ := of_decide_eq_true hn
  subst k1
  have d1 := mL lo q1 (by omega)
  have d2 := mL hi (by omega) q3
  have i1 := ma (a := lo) q1 (by omega)
  have i2 := ma (a := hi) (by omega) q3
  by_cases e : lo = hi
  ·rw [show fb aY 1 lo hi ps = aY lo from by unfold fb; rw [if_neg (by omega), if_pos rfl, if_pos e]]
   generalize aY lo = w1 at *
   refine evl ?_
   repeat' (first | refine ae ?_ | (refine ab ?_ ?_ <;> intro h))
   refine ag ?_; rfl
  ·rw [show fb aY 1 lo hi ps = 91 :: (aY lo ++ 45 :: (aY hi ++ [93])) from by unfold fb; rw [if_neg (by omega), if_pos rfl, if_neg e]]
   generalize aY lo = w1 at *
   generalize aY hi = w2 at *
   have z1 : ([91] : List UInt8).length = 1 := rfl
   have z2 : ([45] : List UInt8).length = 1 := rfl
   have z3 : ([93] : List UInt8).length = 1 := rfl
   refine evl ?_
   repeat' ((conv => whnf); first | refine jB ?_ | refine aP ?_ | (refine ab ?_ ?_ <;> intro h))
   refine ag ?_
   simp
 rw [if_neg k1, Bool.and_eq_true] at hn
 obtain ⟨hz, hn⟩ := hn
 obtain ⟨rfl, rfl⟩ := of_decide_eq_true hz
 by_cases k0 : k = 0
 ·subst k0
  refine evl ?_
  repeat' (first | refine ae ?_ | (refine ab ?_ ?_ <;> intro h))
  refine ag ?_; rfl
 by_cases k2 : k = 2
 ·subst k2
  refine evl ?_
  repeat' (first | refine ae ?_ | (refine ab ?_ ?_ <;> intro h))
  refine ag ?_; rfl
 rw [if_neg (by omega)] at hn
 by_cases k3 : k = 3
 ·subst k3
  have hj := mF ps (by omega) (by omega) 32
  rw [show fb aY 3 0 0 ps = dW 32 ps from rfl]
  generalize dW 32 ps = w at *
  refine evl ?_
  repeat' (first | refine ae ?_ | refine kZ [(200, _, _)] ⟨rfl, pz trivial⟩ (hj) ?_ | (refine ab ?_ ?_ <;> intro h))
  refine ag ?_; rfl
 rw [if_neg k3] at hn
 by_cases k4 : k = 4
 ·subst k4
  by_cases hz : ps = []
  ·subst hz
   rw [show fb aY 4 0 0 [] = [33] from rfl]
   have z0 : ([] : List (List UInt8)).length = 0 := rfl
   refine evl ?_
   repeat' (first | refine ae ?_ | (refine ab ?_ ?_ <;> intro h))
   refine ag ?_; rfl
  ·have hpz : ps.length ≠ 0 := fun q => hz (List.eq_nil_of_length_eq_zero q)
   have hj := mF ps (by omega) (by omega) 124
   rw [show fb aY 4 0 0 ps = dW 124 ps from by unfold fb; rw [if_neg (by omega), if_neg (by omega), if_neg (by omega), if_neg (by omega), if_pos rfl, if_neg (by cases ps <;> simp_all)]]
   generalize dW 124 ps = w at *
   refine evl ?_
   repeat' (first | refine ae ?_ | refine kZ [(200, _, _)] ⟨rfl, pz trivial⟩ (hj) ?_ | (refine ab ?_ ?_ <;> intro h))
   refine ag ?_; rfl
 rw [if_neg k4] at hn
 by_cases k5 : 5 ≤ k ∧ k ≤ 7
 ·rw [if_pos k5] at hn
  have hn := of_decide_eq_true hn
  obtain ⟨p, rfl⟩ : ∃ p, ps = [p] := by
   match ps, hpl with
   | [p], _ => exact ⟨p, rfl⟩
   | [], h => simp at h; omega
   | a :: b :: r, h => simp at h; omega
  simp only [du] at hb
  have hx : ([p].map jc)[(0 : Int).toNat]? = some [.str p] := rfl
  have z1 : ([p] : List (List UInt8)).length = 1 := rfl
  have z2 : ([42] : List UInt8).length = 1 := rfl
  have z3 : ([43] : List UInt8).length = 1 := rfl
  have z4 : ([63] : List UInt8).length = 1 := rfl
  rcases (by omega : k = 5 ∨ k = 6 ∨ k = 7) with rfl | rfl | rfl
  ·rw [show fb aY 5 0 0 [p] = p ++ [42] from rfl]
   refine evl ?_
   repeat' ((conv => whnf); first | refine jB ?_ | refine aP ?_ | (refine ab ?_ ?_ <;> intro h))
   refine ag ?_; rfl
  ·rw [show fb aY 6 0 0 [p] = p ++ [43] from rfl]
   refine evl ?_
   repeat' ((conv => whnf); first | refine jB ?_ | refine aP ?_ | (refine ab ?_ ?_ <;> intro h))
   refine ag ?_; rfl
  ·rw [show fb aY 7 0 0 [p] = p ++ [63] from rfl]
   refine evl ?_
   repeat' ((conv => whnf); first | refine jB ?_ | refine aP ?_ | (refine ab ?_ ?_ <;> intro h))
   refine ag ?_; rfl
 ·rw [if_neg k5] at hn; cases hn
end Go.AM.IR
namespace Go.AM.IR
theorem ph (k lo hi : Int) (l : List Rx) (hn : bg k lo hi l.length = true) (hl : l.length < 2 ^ 40) (hb : du (cj aY k l) < 2 ^ 30) (hk : ∀ y ∈ l, nY y ∧ Sml y) (gp : Nat) : ∀ (rest done : List Rx) (T : List (Nat × AV)) (H : aq) (ct g m : Nat) (es : List (List AV)) (n : Int) (e : l = done ++ rest) (hnn : n = done.length) (hm : m = (cj aY k done).length) (hes : es = (cj aY k done).map jc),
  Ev G ⟨kf, ⟨(10, .int .i64 n) :: (3, .vs 200 g m) :: (1, .ref 65 gp 0) :: (8, .sl 4 (l.map Rx.enc)) :: (9, .int .i64 l.length) :: T, (200, some (g, .vec 1 es)) :: (65, some (gp, .cells [.int .i64 k, .int .i64 lo, .int .i64 hi, .sl 4 (l.map Rx.enc)])) :: H, ct⟩, [.t 2], 0⟩ ⟨.str (fb aY k lo hi (cj aY k l)), []⟩
 | [], done, T, H, ct, g, m, es, n, e, hnn, hm, hes => by
  obtain rfl : l = done := by simpa using e
  subst hm hes hnn
  exact Df k lo hi l hn hl hb g gp T H ct _ rfl
 | x :: r, done, T, H, ct, g, m, es, n, e, hnn, hm, hes => by
  have hd : l.length = done.length + (r.length + 1) := by simp [e]
  have hll : (l.map Rx.enc).length = l.length := by simp
  have hx : (l.map Rx.enc)[n.toNat]? = some x.enc := by simp [e, hnn]
  obtain ⟨hp, hs⟩ := hk x (by simp [e])
  have hpx := da x
  have hpl : (cj aY k done).length = done.length := pR done
  have hpa : cj aY k (done ++ [x]) = cj aY k done ++ [ja k x (pat aY x)] := by rw [pT, cj, cj]
  have hbx : (pat aY x).length + 2 < 2 ^ 31 := by
   have h1 : cj aY k l = cj aY k done ++ (ja k x (pat aY x) :: cj aY k r) := by rw [e, pT, cj]
   rw [h1, yf, du] at hb
   have : (pat aY x).length ≤ (ja k x (pat aY x)).length := by unfold ja; split <;> simp; omega
   omega
  have ih := fun T H ct g => ph k lo hi l hn hl hb hk gp r (done ++ [x]) T H ct g (m + 1) (es ++ [jc (ja k x (pat aY x))]) (n + 1) (by simp [e]) (by simp [hnn]) (by rw [hpa, hm]; simp) (by rw [hpa, hes]; simp)
  have hmm : m = done.length := by rw [hm, hpl]
  have hel : es.length = m := by rw [hes, hm]; simp
  have hmn : (m : Int) = n := by omega
  have hpe : aG es = true := by rw [hes]; simp
  unfold nY at hp
  have hen : ∀ k2 lo2 hi2 l2, x = .mk k2 lo2 hi2 l2 → ax G 644 [.agg [.int .i64 k, .int .i64 lo, .int .i64 hi, .sl 4 (l.map Rx.enc)], .agg [.int .i64 k2, .int .i64 lo2, .int .i64 hi2, .sl 4 (l2.map Rx.enc)]] [] ⟨.bool (sn k x), []⟩ := fun k2 lo2 hi2 l2 hxx => by
   subst hxx
   exact xh k lo hi k2 lo2 hi2 l l2 hs.len
  have z1 : ([40] : List UInt8).length = 1 := rfl
  have z2 : ([41] : List UInt8).length = 1 := rfl
  cases hc : sn k x with
  | true =>
   have hin : ja k x (pat aY x) = 40 :: (pat aY x ++ [41]) := by unfold ja; rw [if_pos hc]
   rw [hin] at ih
   rw [hc] at hen
   have ih : ∀ T H ct g, Ev G ⟨kf, ⟨(10, .int .i64 (n + 1)) :: (3, .vs 200 g (m + 1)) :: (1, .ref 65 gp 0) :: (8, .sl 4 (l.map Rx.enc)) :: (9, .int .i64 l.length) :: T, (200, some (g, .vec 1 (es ++ [[.str ([40] ++ pat aY x ++ [41])]]))) :: (65, some (gp, .cells [.int .i64 k, .int .i64 lo, .int .i64 hi, .sl 4 (l.map Rx.enc)])) :: H, ct⟩, [.t 2], 0⟩ ⟨.str (fb aY k lo hi (cj aY k l)), []⟩ := ih
   generalize pat aY x = w at *
   generalize hxe : x.enc = xe at *
   obtain ⟨k2, lo2, hi2, l2⟩ := x
   rw [bp] at hxe
   subst hxe
   have hen := hen k2 lo2 hi2 l2 rfl
   have hwl : ([40] ++ w).length = w.length + 1 := by simp
   refine evl ?_
   repeat' ((conv => whnf); first | refine jB ?_ | refine kV hp ?_ hpx | refine aP ?_ | (refine ab ?_ ?_ <;> intro h))
   refine am [10, 3, 1, 8, 9] [200, 65] ?_
   exact ih _ _ _ _
  | false =>
   have hin : ja k x (pat aY x) = pat aY x := by unfold ja; rw [if_neg (by rw [hc]; simp)]
   rw [hin] at ih
   rw [hc] at hen
   have ih : ∀ T H ct g, Ev G ⟨kf, ⟨(10, .int .i64 (n + 1)) :: (3, .vs 200 g (m + 1)) :: (1, .ref 65 gp 0) :: (8, .sl 4 (l.map Rx.enc)) :: (9, .int .i64 l.length) :: T, (200, some (g, .vec 1 (es ++ [[.str (pat aY x)]]))) :: (65, some (gp, .cells [.int .i64 k, .int .i64 lo, .int .i64 hi, .sl 4 (l.map Rx.enc)])) :: H, ct⟩, [.t 2], 0⟩ ⟨.str (fb aY k lo hi (cj aY k l)), []⟩ := ih
   generalize pat aY x = w at *
   generalize hxe : x.enc = xe at *
   obtain ⟨k2, lo2, hi2, l2⟩ := x
   rw [bp] at hxe
   subst hxe
   have hen := hen k2 lo2 hi2 l2 rfl
   refine evl ?_
   repeat' ((conv => whnf); first | refine jB ?_ | refine kV hp ?_ hpx | refine aP ?_ | (refine ab ?_ ?_ <;> intro h))
   refine am [10, 3, 1, 8, 9] [200, 65] ?_
   exact ih _ _ _ _
theorem RC (k lo hi : Int) (l : List Rx) (hn : bg k lo hi l.length = true) (hl : l.length < 2 ^ 40) (hb : du (cj aY k l) < 2 ^ 30) (hk : ∀ y ∈ l, nY y ∧ Sml y) : nY (.mk k lo hi l) := by
 have hll : (l.map Rx.enc).length = l.length := by simp
 unfold nY
 rw [bp, pat]
 refine aa (F := f618) rfl rfl (ah 300 _ _ _ _ ?_)
 repeat' (first | refine ae ?_ | (refine ab ?_ ?_ <;> intro h))
 refine lf 200 1 [(3, .vs 200 _ 0)] [] ⟨LeP.nilV _ _ _, trivial⟩ trivial ?_
 refine am [10, 3, 1, 8, 9] [200, 65] ?_
 rw [hll]
 exact ph k lo hi l hn hl hb hk _ l [] _ _ _ _ _ _ 0 rfl rfl rfl rfl
mutual
theorem DV : ∀ (x : Rx) {lv c c' : Nat}, Sml x → chk x lv c = some c' → nY x
 | .mk k lo hi l, lv, c, c', hs, h => by
  have hc' := BR h
  rw [chk] at h
  split at h
  ·cases h
  ·split at h
   ·cases h
   ·split at h
    ·rename_i hn
     have h1 := nd k l h
     have h2 := yF l hs.kid h
     exact RC k lo hi l hn hs.len (by omega) h2
    ·cases h
theorem yF : ∀ (l : List Rx) {lv c c' : Nat}, (∀ x ∈ l, Sml x) → iw l lv c = some c' → ∀ y ∈ l, nY y ∧ Sml y
 | [], _, _, _, _, _ => fun y hy => by simp at hy
 | x :: r, lv, c, c', hs, h => fun y hy => by
  rw [iw] at h
  split at h
  ·rename_i c1 h1
   have h2 := DV x (hs x (by simp)) h1
   rcases List.mem_cons.1 hy with q | q
   ·rw [q]; exact ⟨h2, hs x (by simp)⟩
   ·exact yF r (fun z hz => hs z (by simp [hz])) h y q
  ·cases h
end
end Go.AM.IR
namespace Go.AM.IR
theorem tr (s : List UInt8) (hs : s.length < 2 ^ 32) : ax G 571 [.str s] [] (atJ (xC s)) := by
 have hq := nV s hs 32 1 (by omega) (by omega) 0 (by omega)
 unfold xC
 cases ha : ib s (ik s) 32 0 with
 | none =>
  rw [ha] at hq
  obtain ⟨x, m, hm, hq⟩ := hq
  have hq : ax G 616 [.ref 0 0 0, .int .i64 1] [.cells [.str s, .int .i64 0]] (rpR s (.tup [.agg x.enc, .bool false]) m) := hq
  have hpx := da x
  show ax G 571 _ _ ⟨.tup [.agg rx0.enc, .int .i64 2], []⟩
  rw [jm]
  obtain ⟨k, lo, hi, l⟩ := x
  rw [bp] at hq hpx
  refine aa (F := f571) rfl rfl (ah 300 _ _ _ _ ?_)
  repeat' (first | refine ae ?_ | refine kX [(73, _, _)] [] ⟨rfl, trivial⟩ trivial (hq) ?_ | (refine ab ?_ ?_ <;> intro h))
  refine dL [] [(66, some (_, .cells ([.int .i64 0, .int .i64 0, .int .i64 0, .sl 4 []])))] trivial ⟨⟨rfl, leA⟩, trivial⟩ ?_
  refine ag ?_; (conv => whnf); refine Go.AM.finC ?_; rfl
 | some p =>
  obtain ⟨x, m⟩ := p
  rw [ha] at hq
  obtain ⟨_, p2, hsm⟩ := uW hs (pJ s) 32 _ _ _ (by omega) ha
  have hq : ax G 616 [.ref 0 0 0, .int .i64 1] [.cells [.str s, .int .i64 0]] (rpR s (.tup [.agg x.enc, .bool true]) m) := hq
  obtain ⟨e, hc, he⟩ := uQ x hsm
  have hpx := da x
  dsimp only
  by_cases h1 : m = s.length
  ·subst h1
   by_cases h2 : (chk x 1 0).isSome = true
   ·obtain rfl : e = 0 := he.2 h2
    obtain ⟨c', hc'⟩ := Option.isSome_iff_exists.1 h2
    have hp := DV x hsm hc'
    unfold nY at hp
    by_cases h3 : pat aY x = s
    ·rw [if_pos ⟨rfl, h2, h3⟩]
     show ax G 571 _ _ ⟨.tup [.agg x.enc, .int .i64 0], []⟩
     generalize pat aY x = w at *
     generalize hxe : x.enc = xe at *
     obtain ⟨k, lo, hi, l⟩ := x
     rw [bp] at hxe
     subst hxe
     refine aa (F := f571) rfl rfl (ah 300 _ _ _ _ ?_)
     repeat' ((conv => whnf); first | refine kV hc ?_ hpx | refine kV hp ?_ hpx | refine jA h3 ?_ | refine aP ?_ | refine kX [(73, _, _)] [] ⟨rfl, trivial⟩ trivial (hq) ?_ | (refine ab ?_ ?_ <;> intro h))
     refine ag ?_; (conv => whnf); refine Go.AM.finC ?_; rfl
    ·rw [if_neg (fun q => h3 q.2.2)]
     show ax G 571 _ _ ⟨.tup [.agg rx0.enc, .int .i64 2], []⟩
     rw [jm]
     generalize pat aY x = w at *
     have hne : (w == s) = false := by simpa using h3
     have zne : ∀ {kv : AV → Prop}, kv (.bool true) → ∃ v, bj .neq (.str w) (.str s) = some v ∧ kv v := fun h => ⟨.bool true, by show some (AV.bool (!(w == s))) = _; rw [hne]; rfl, h⟩
     generalize hxe : x.enc = xe at *
     obtain ⟨k, lo, hi, l⟩ := x
     rw [bp] at hxe
     subst hxe
     refine aa (F := f571) rfl rfl (ah 300 _ _ _ _ ?_)
     repeat' ((conv => whnf); first | refine kV hc ?_ hpx | refine kV hp ?_ hpx | refine zne ?_ | refine aP ?_ | refine kX [(73, _, _)] [] ⟨rfl, trivial⟩ trivial (hq) ?_ | (refine ab ?_ ?_ <;> intro h))
     refine dL [] [(66, some (_, .cells ([.int .i64 0, .int .i64 0, .int .i64 0, .sl 4 []])))] trivial ⟨⟨rfl, leA⟩, trivial⟩ ?_
     refine ag ?_; (conv => whnf); refine Go.AM.finC ?_; rfl
   ·rw [if_neg (fun q => h2 q.2.1)]
    have he' : ¬ e = 0 := fun q => h2 (he.1 q)
    show ax G 571 _ _ ⟨.tup [.agg rx0.enc, .int .i64 2], []⟩
    rw [jm]
    generalize hxe : x.enc = xe at *
    obtain ⟨k, lo, hi, l⟩ := x
    rw [bp] at hxe
    subst hxe
    refine aa (F := f571) rfl rfl (ah 300 _ _ _ _ ?_)
    repeat' ((conv => whnf); first | refine kV hc ?_ hpx | refine aP ?_ | refine kX [(73, _, _)] [] ⟨rfl, trivial⟩ trivial (hq) ?_ | (refine ab ?_ ?_ <;> intro h))
    refine dL [] [(66, some (_, .cells ([.int .i64 0, .int .i64 0, .int .i64 0, .sl 4 []])))] trivial ⟨⟨rfl, leA⟩, trivial⟩ ?_
    refine ag ?_; (conv => whnf); refine Go.AM.finC ?_; rfl
  ·rw [if_neg (fun q => h1 q.1)]
   have hlt : m < s.length := by omega
   show ax G 571 _ _ ⟨.tup [.agg rx0.enc, .int .i64 2], []⟩
   rw [jm]
   generalize hxe : x.enc = xe at *
   obtain ⟨k, lo, hi, l⟩ := x
   rw [bp] at hxe
   subst hxe
   refine aa (F := f571) rfl rfl (ah 300 _ _ _ _ ?_)
   repeat' (first | refine ae ?_ | refine kX [(73, _, _)] [] ⟨rfl, trivial⟩ trivial (hq) ?_ | (refine ab ?_ ?_ <;> intro h))
   refine dL [] [(66, some (_, .cells ([.int .i64 0, .int .i64 0, .int .i64 0, .sl 4 []])))] trivial ⟨⟨rfl, leA⟩, trivial⟩ ?_
   refine ag ?_; (conv => whnf); refine Go.AM.finC ?_; rfl
end Go.AM.IR
