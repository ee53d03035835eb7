/- What the functions of this program give, on the abstract machine. -/
import Derived.Test.YtomphmeopjpejaaGreatDoorDataA
set_option linter.unusedVariables false
set_option linter.unusedSimpArgs false
set_option maxHeartbeats 4000000
set_option maxRecDepth 20000
namespace Go.AM.IR
def rpR (s : List UInt8) (v : AV) (m : Nat) : Ret := ⟨v, [(true, .cells [.str s, .int .i64 (m : Int)])]⟩
theorem a8 (s : List UInt8) (hs : s.length < 2 ^ 40) (c : UInt8) (n : Nat) (hn : n ≤ s.length) : am G 642 [.ref 0 0 0, .int .u8 (c.toNat : Int)] [.cells [.str s, .int .i64 (n : Int)]] (rpR s (.bool (chr s n c)) (if chr s n c then n + 1 else n)) := by
 by_cases h : n < s.length
 ·have hb : s[((n : Nat) : Int).toNat]? = some s[n] := by simp [h]
  have hch : chr s n c = (s[n] == c) := by unfold chr; simp [h]
  generalize s[n] = b at *
  by_cases hbc : b.toNat = c.toNat
  ·have e : b = c := UInt8.toNat_inj.1 hbc
   have hi : (b.toNat : Int) = (c.toNat : Int) := by rw [hbc]
   rw [hch, show (b == c) = true from by simp [e], if_pos rfl]
   refine aa (F := f642) rfl rfl (ag 300 _ _ _ _ ?_)
   repeat' (first | refine du ?_ | (refine ab ?_ ?_ <;> intro h))
   (conv => whnf); first | refine aP [(0, _, _)] [] [true] ?_ | refine aQ [(0, _, _)] [] [true] ?_
   rfl
  ·have e : ¬ b = c := fun q => hbc (by rw [q])
   have hi : ¬ (b.toNat : Int) = (c.toNat : Int) := by omega
   rw [hch, show (b == c) = false from by simp [e], if_neg (by simp)]
   refine aa (F := f642) rfl rfl (ag 300 _ _ _ _ ?_)
   repeat' (first | refine du ?_ | (refine ab ?_ ?_ <;> intro h))
   (conv => whnf); first | refine aP [(0, _, _)] [] [true] ?_ | refine aQ [(0, _, _)] [] [true] ?_
   rfl
 ·have hch : chr s n c = false := by unfold chr; rw [List.getElem?_eq_none (by omega)]; rfl
  rw [hch, if_neg (by simp)]
  refine aa (F := f642) rfl rfl (ag 300 _ _ _ _ ?_)
  repeat' (first | refine ae ?_ | (refine ab ?_ ?_ <;> intro h))
  (conv => whnf); first | refine aP [(0, _, _)] [] [true] ?_ | refine aQ [(0, _, _)] [] [true] ?_
  rfl
end Go.AM.IR
namespace Go.AM.IR
theorem uE {kv : AV → Prop} {b : UInt8} (h : kv (.int .u8 (dA b))) (hb : 48 ≤ b.toNat) : ∃ v, bj .sub (.int .u8 (b.toNat : Int)) (.int .u8 48) = some v ∧ kv v := by
 refine ⟨_, ?_, h⟩
 have hl := b.toNat_lt
 show some (AV.int .u8 (IntKind.wrap .u8 ((b.toNat : Int) - 48))) = _
 unfold dA
 rw [m0 (by omega) (by omega)]
def NumG (s : List UInt8) (n : Nat) (o : Option (Int × Nat)) : Prop := ∃ v b m, n ≤ m ∧ m ≤ s.length ∧ am G 661 [.ref 0 0 0] [.cells [.str s, .int .i64 (n : Int)]] (rpR s (.tup [.int .i64 v, .bool b]) m) ∧ match o with
 | some (a, k) => b = true ∧ v = a ∧ m = k
 | none => b = false
theorem nV (s : List UInt8) (hs : s.length < 2 ^ 40) (fr : Nat) : ∀ (f : Nat) (a : Int) (n : Nat) (hf : s.length < f + n) (hn : n ≤ s.length) (h0 : 0 ≤ a) (h1 : a ≤ 4294967295) (hfr : fr ≤ n), ∃ v b m, n ≤ m ∧ m ≤ s.length ∧ (match rnL s fr f a n with
  | some (x, k) => b = true ∧ v = x ∧ m = k
  | none => b = false) ∧ ∀ (T : List (Nat × AV)) (H : ay) (c : Nat),
  Ev G ⟨oA, ⟨(0, .ref 0 0 0) :: (4, .int .i64 a) :: (5, .int .i64 (fr : Int)) :: T, (0, some (0, .cells [.str s, .int .i64 (n : Int)])) :: H, c⟩, [.t 2, .t 3], 1⟩ (rpR s (.tup [.int .i64 v, .bool b]) m)
 | 0, a, n, hf, hn, h0, h1, hfr => by omega
 | f + 1, a, n, hf, hn, h0, h1, hfr => by
  have stop : ∀ (hr : rnL s fr (f + 1) a n = if fr < n then some (a, n) else none) (go : ∀ (b : Bool), b = decide (fr < n) → ∀ (T : List (Nat × AV)) (H : ay) (c : Nat), Ev G ⟨oA, ⟨(0, .ref 0 0 0) :: (4, .int .i64 a) :: (5, .int .i64 (fr : Int)) :: T, (0, some (0, .cells [.str s, .int .i64 (n : Int)])) :: H, c⟩, [.t 2, .t 3], 1⟩ (rpR s (.tup [.int .i64 a, .bool b]) n)), ∃ v b m, n ≤ m ∧ m ≤ s.length ∧ (match rnL s fr (f + 1) a n with
  | some (x, k) => b = true ∧ v = x ∧ m = k
  | none => b = false) ∧ ∀ (T : List (Nat × AV)) (H : ay) (c : Nat),
  Ev G ⟨oA, ⟨(0, .ref 0 0 0) :: (4, .int .i64 a) :: (5, .int .i64 (fr : Int)) :: T, (0, some (0, .cells [.str s, .int .i64 (n : Int)])) :: H, c⟩, [.t 2, .t 3], 1⟩ (rpR s (.tup [.int .i64 v, .bool b]) m) := fun hr go => by
   rw [hr]
   by_cases q : fr < n
   ·rw [if_pos q]
    exact ⟨a, true, n, by omega, hn, ⟨rfl, rfl, rfl⟩, go true (by simp [q])⟩
   ·rw [if_neg q]
    exact ⟨a, false, n, by omega, hn, rfl, go false (by simp [q])⟩
  by_cases h : n < s.length
  ·have hb : s[((n : Nat) : Int).toNat]? = some s[n] := by simp [h]
   have hb2 : s[n]? = some s[n] := List.getElem?_eq_getElem h
   generalize s[n] = b at *
   have hbl := b.toNat_lt
   by_cases d1 : 48 ≤ b.toNat
   ·by_cases d2 : b.toNat ≤ 57
    ·have hd : isD b = true := by simp [isD, d1, d2]
     have hv := nx hd
     rw [rnL, hb2]
     simp only [hd, if_true]
     by_cases hg : 4294967295 < 10 * a + dA b
     ·rw [if_pos hg]
      refine ⟨0, false, n + 1, by omega, by omega, rfl, fun T H c => ?_⟩
      refine evl ?_
      repeat' ((conv => whnf); first | refine zIstr ?_ hb (by omega) | refine uE ?_ d1 | refine a7 ?_ | (refine ab ?_ ?_ <;> intro h))
      (conv => whnf); first | refine aP [(0, _, _)] [] [true] ?_ | refine aQ [(0, _, _)] [] [true] ?_
      rfl
     ·rw [if_neg hg]
      obtain ⟨v, b', m, q1, q2, q3, q4⟩ := nV s hs fr f (10 * a + dA b) (n + 1) (by omega) (by omega) (by omega) (by omega) (by omega)
      refine ⟨v, b', m, by omega, q2, q3, fun T H c => ?_⟩
      refine evl ?_
      repeat' ((conv => whnf); first | refine zIstr ?_ hb (by omega) | refine uE ?_ d1 | refine a7 ?_ | (refine ab ?_ ?_ <;> intro h))
      refine aA [0, 4, 5] [0] ?_
      exact q4 _ _ _
    ·have hd : isD b = false := by simp [isD, d2]
     refine stop (by rw [rnL, hb2]; simp [hd]) fun e he T H c => ?_
     subst he
     refine evl ?_
     repeat' (first | refine du ?_ | (refine ab ?_ ?_ <;> intro h))
     (conv => whnf); first | refine aP [(0, _, _)] [] [true] ?_ | refine aQ [(0, _, _)] [] [true] ?_
     simp [rpR]
     exact ⟨rfl, rfl⟩
   ·have hd : isD b = false := by simp [isD, d1]
    refine stop (by rw [rnL, hb2]; simp [hd]) fun e he T H c => ?_
    subst he
    refine evl ?_
    repeat' (first | refine du ?_ | (refine ab ?_ ?_ <;> intro h))
    (conv => whnf); first | refine aP [(0, _, _)] [] [true] ?_ | refine aQ [(0, _, _)] [] [true] ?_
    simp [rpR]
    exact ⟨rfl, rfl⟩
  ·refine stop (by rw [rnL, List.getElem?_eq_none (by omega)]) fun e he T H c => ?_
   subst he
   refine evl ?_
   repeat' (first | refine ae ?_ | (refine ab ?_ ?_ <;> intro h))
   (conv => whnf); first | refine aP [(0, _, _)] [] [true] ?_ | refine aQ [(0, _, _)] [] [true] ?_
   simp [rpR]
   exact ⟨rfl, rfl⟩
theorem ju (s : List UInt8) (hs : s.length < 2 ^ 40) (n : Nat) (hn : n ≤ s.length) : NumG s n (eO s n) := by
 obtain ⟨v, b, m, q1, q2, q3, q4⟩ := nV s hs n (s.length + 1) 0 n (by omega) hn (by omega) (by omega) (by omega)
 refine ⟨v, b, m, q1, q2, ?_, q3⟩
 refine aa (F := f661) rfl rfl (ag 300 _ _ _ _ ?_)
 repeat' (first | refine ae ?_ | (refine ab ?_ ?_ <;> intro h))
 refine aA [0, 4, 5] [0] ?_
 exact q4 _ _ _
end Go.AM.IR
namespace Go.AM.IR
set_option linter.unusedVariables false
inductive Sml : Rx → Prop
 | mk {k lo hi : Int} {l : List Rx} (h : l.length < 2 ^ 40) (hk : ∀ x ∈ l, Sml x) : Sml (.mk k lo hi l)
theorem Sml.len {k lo hi : Int} {l : List Rx} (h : Sml (.mk k lo hi l)) : l.length < 2 ^ 40 := by cases h; assumption
theorem Sml.kid {k lo hi : Int} {l : List Rx} (h : Sml (.mk k lo hi l)) : ∀ x ∈ l, Sml x := by cases h; assumption
theorem Sml.leaf (k lo hi : Int) : Sml (.mk k lo hi []) := .mk (by simp) (by simp)
def Pos (s : List UInt8) (P : PR) : Prop := ∀ n x m, n ≤ s.length → P n = some (x, m) → n ≤ m ∧ m ≤ s.length ∧ Sml x
def Fe (s : List UInt8) (P : NR) : Prop := ∀ n a m, n ≤ s.length → P n = some (a, m) → n ≤ m ∧ m ≤ s.length
theorem bU {s : List UInt8} {n : Nat} {c : UInt8} (h : chr s n c = true) : n < s.length := by
 unfold chr at h
 rcases Nat.lt_or_ge n s.length with q | q
 ·exact q
 ·rw [List.getElem?_eq_none q] at h; simp at h
theorem oZ {s : List UInt8} {num : NR} {alt : PR} (hn : Fe s num) (ha : Pos s alt) : Pos s (bJ s num alt) := by
 intro n x m hl h
 unfold bJ at h
 split at h
 ·rename_i c; have := bU c; cases h; exact ⟨by omega, by omega, .leaf ..⟩
 split at h
 ·rename_i c; have := bU c; cases h; exact ⟨by omega, by omega, .leaf ..⟩
 split at h
 ·rename_i c; have := bU c
  split at h
  ·rename_i c; have := bU c; cases h; exact ⟨by omega, by omega, .leaf ..⟩
  ·split at h
   ·rename_i y k hk
    have := ha _ _ _ (by omega) hk
    split at h
    ·rename_i c; have := bU c; cases h; exact ⟨by omega, by omega, (by assumption : _ ∧ _ ∧ _).2.2⟩
    ·cases h
   ·cases h
 split at h
 ·rename_i c; have := bU c
  split at h
  ·rename_i a k hk
   have := hn _ _ _ (by omega) hk
   split at h
   ·rename_i c; have := bU c
    split at h
    ·rename_i b j hj
     have := hn _ _ _ (by omega) hj
     split at h
     ·rename_i c; have := bU c; cases h; exact ⟨by omega, by omega, .leaf ..⟩
     ·cases h
    ·cases h
   ·cases h
  ·cases h
 ·split at h
  ·rename_i a k hk
   have := hn _ _ _ (by omega) hk
   cases h; exact ⟨by omega, by omega, .leaf ..⟩
  ·cases h
theorem gV {s : List UInt8} {atom : PR} (ha : Pos s atom) : Pos s (cz s atom) := by
 intro n x m hl h
 unfold cz at h
 split at h
 ·rename_i y k hk
  obtain ⟨h1, h2, h3⟩ := ha _ _ _ hl hk
  have hs : ∀ p : Int, Sml (.mk p 0 0 [y]) := fun p => .mk (by simp) (by simpa using h3)
  split at h
  ·rename_i c; have := bU c; cases h; exact ⟨by omega, by omega, hs _⟩
  split at h
  ·rename_i c; have := bU c; cases h; exact ⟨by omega, by omega, hs _⟩
  split at h
  ·rename_i c; have := bU c; cases h; exact ⟨by omega, by omega, hs _⟩
  ·cases h; exact ⟨h1, h2, h3⟩
 ·cases h
theorem zh {s : List UInt8} {item : PR} {c : UInt8} (hi : Pos s item) : ∀ (f : Nat) (acc : List Rx) (n : Nat) (l : List Rx) (m : Nat), n ≤ s.length → (∀ x ∈ acc, Sml x) → cJ s item c f acc n = some (l, m) → n ≤ m ∧ m ≤ s.length ∧ (∀ x ∈ l, Sml x) ∧ l.length ≤ acc.length + f
 | 0, _, _, _, _, _, _, h => by simp [cJ] at h
 | f + 1, acc, n, l, m, hn, ha, h => by
  rw [cJ] at h
  split at h
  ·rename_i y k hk
   obtain ⟨h1, h2, h3⟩ := hi _ _ _ hn hk
   have ha' : ∀ x ∈ acc ++ [y], Sml x := fun x hx => by
    rcases List.mem_append.1 hx with q | q
    ·exact ha x q
    ·simp only [List.mem_singleton] at q; rw [q]; exact h3
   split at h
   ·rename_i q
    have := bU q
    obtain ⟨q1, q2, q3, q4⟩ := zh hi f (acc ++ [y]) (k + 1) l m (by omega) ha' h
    simp at q4
    exact ⟨by omega, q2, q3, by omega⟩
   ·cases h
    exact ⟨h1, h2, ha', by simp⟩
  ·cases h
theorem one_pos {s : List UInt8} (hs : s.length < 2 ^ 32) {item : PR} {c : UInt8} {k : Int} (hi : Pos s item) : Pos s (fun n => dP k (cJ s item c (s.length + 1) [] n)) := by
 intro n x m hl h
 dsimp only at h
 cases hq : cJ s item c (s.length + 1) [] n with
 | none => rw [hq] at h; cases h
 | some p =>
  obtain ⟨l, j⟩ := p
  obtain ⟨q1, q2, q3, q4⟩ := zh hi _ _ _ _ _ hl (by simp) hq
  rw [hq] at h
  have hl2 : Sml (.mk k 0 0 l) := .mk (by simp at q4; omega) q3
  unfold dP at h
  split at h
  ·rename_i y m' e
   obtain ⟨rfl, rfl⟩ := Prod.mk.inj (Option.some.inj e)
   cases h
   exact ⟨q1, q2, q3 x (by simp)⟩
  ·rename_i l' m' _ e
   obtain ⟨rfl, rfl⟩ := Prod.mk.inj (Option.some.inj e)
   cases h
   exact ⟨q1, q2, hl2⟩
  ·cases h
theorem m8 {s : List UInt8} (hs : s.length < 2 ^ 32) {item : PR} (hi : Pos s item) : Pos s (fP s item) := one_pos hs hi
theorem kO {s : List UInt8} (hs : s.length < 2 ^ 32) {num : NR} (hn : Fe s num) : ∀ k, Pos s (bL s num k)
 | 0 => fun n x m _ h => by simp [bL] at h
 | k + 1 => by
  rw [bL]
  exact one_pos hs (m8 hs (gV (oZ hn (kO hs hn k))))
theorem zm {s : List UInt8} {fr : Nat} : ∀ (f : Nat) (a : Int) (n : Nat) (b : Int) (m : Nat), n ≤ s.length → rnL s fr f a n = some (b, m) → n ≤ m ∧ m ≤ s.length
 | 0, _, _, _, _, _, h => by simp [rnL] at h
 | f + 1, a, n, b, m, hn, h => by
  rw [rnL] at h
  split at h
  ·rename_i c hc
   have hlt : n < s.length := by
    rcases Nat.lt_or_ge n s.length with q | q
    ·exact q
    ·rw [List.getElem?_eq_none q] at hc; cases hc
   split at h
   ·split at h
    ·cases h
    ·have := zm f _ (n + 1) b m (by omega) h; omega
   ·split at h
    ·cases h; omega
    ·cases h
  ·split at h
   ·cases h; omega
   ·cases h
theorem od (s : List UInt8) : Fe s (eO s) := fun n a m hn h => zm _ _ _ _ _ hn h
theorem gM (s : List UInt8) : Fe s (dy s) := fun n a m hn h => by
 unfold dy at h
 dsimp only at h
 split at h
 ·cases h
 split at h
 ·cases h
 split at h
 ·cases h
 cases h
 have h1 : ((s.drop n).takeWhile isD).length ≤ (s.drop n).length := (List.takeWhile_sublist _).length_le
 simp at h1
 omega
end Go.AM.IR
