/- What the functions of this program give, on the abstract machine. -/
import Derived.Test.YtomphmeopjpejaaGreatDoorDataA
import Derived.Test.YtomphmeopjpejaaGreatDoorDataB
import Derived.Test.YtomphmeopjpejaaGreatDoorMachineC
set_option linter.unusedVariables false
set_option linter.unusedSimpArgs false
set_option maxHeartbeats 4000000
set_option maxRecDepth 20000
namespace Go.AM.IR
def pnR (s : List UInt8) (m : Nat) : Ret := ⟨pnV (.ifc 129 (.agg [])), [(true, .cells [.str s, .int .i64 (m : Int)])]⟩
def pk (s : List UInt8) (n : Nat) : UInt8 := s[n]?.getD 0
theorem dw {s : List UInt8} {n : Nat} {c : UInt8} (hc : c ≠ 0) : chr s n c = decide (pk s n = c) := by
 unfold chr pk
 cases h : s[n]? with
 | none => simp [Ne.symm hc]
 | some b => simp only [Option.getD_some]; by_cases e : b = c <;> simp [e]
theorem dv (s : List UInt8) (hs : s.length < 2 ^ 40) (n : Nat) (hn : n ≤ s.length) : am G0 625 [.ref 0 0 0] [.cells [.str s, .int .i64 (n : Int)]] (rpR s (.int .u8 ((pk s n).toNat : Int)) n) := by
 by_cases h : n < s.length
 ·have hb : s[((n : Nat) : Int).toNat]? = some s[n] := by simp [h]
  have hp : pk s n = s[n] := by simp [pk, h]
  rw [hp]
  generalize s[n] = b at *
  have hbl := b.toNat_lt
  refine aa (F := f625) rfl rfl (ag 300 _ _ _ _ ?_)
  repeat' (first | refine du ?_ | (refine ab ?_ ?_ <;> intro h))
  (conv => whnf); first | refine aP [(0, _, _)] [] [true] ?_ | refine aQ [(0, _, _)] [] [true] ?_
  rfl
 ·have hp : pk s n = 0 := by simp [pk, List.getElem?_eq_none (show s.length ≤ n by omega)]
  rw [hp]
  refine aa (F := f625) rfl rfl (ag 300 _ _ _ _ ?_)
  repeat' (first | refine ae ?_ | (refine ab ?_ ?_ <;> intro h))
  (conv => whnf); first | refine aP [(0, _, _)] [] [true] ?_ | refine aQ [(0, _, _)] [] [true] ?_
  rfl
theorem jD (s : List UInt8) (hs : s.length < 2 ^ 40) (n : Nat) (hn : n ≤ s.length) (c : UInt8) (hc : c ≠ 0) : am G0 658 [.ref 0 0 0, .int .u8 (c.toNat : Int)] [.cells [.str s, .int .i64 (n : Int)]] (if chr s n c then rpR s (.tup []) (n + 1) else pnR s n) := by
 have h1 := dv s hs n hn
 rw [dw hc]
 generalize pk s n = b at *
 by_cases e : b = c
 ·subst e
  rw [decide_eq_true rfl, if_pos rfl]
  have z : ∀ {kv : AV → Prop}, kv (.bool false) → ∃ v, bj .neq (.int .u8 (b.toNat : Int)) (.int .u8 (b.toNat : Int)) = some v ∧ kv v := fun h => ⟨.bool false, by simp [bj], h⟩
  refine aa (F := f658) rfl rfl (ag 300 _ _ _ _ ?_)
  repeat' ((conv => whnf); first | refine z ?_ | refine a7 ?_ | refine kX [(0, _, _)] [] ⟨rfl, trivial⟩ trivial (h1) ?_ | (refine ab ?_ ?_ <;> intro h))
  (conv => whnf); first | refine aP [(0, _, _)] [] [true] ?_ | refine aQ [(0, _, _)] [] [true] ?_
  rfl
 ·have e2 : ¬ (b.toNat : Int) = (c.toNat : Int) := fun q => e (UInt8.toNat_inj.1 (by omega))
  rw [decide_eq_false e, if_neg (by simp)]
  have z : ∀ {kv : AV → Prop}, kv (.bool true) → ∃ v, bj .neq (.int .u8 (b.toNat : Int)) (.int .u8 (c.toNat : Int)) = some v ∧ kv v := fun h => ⟨.bool true, by simp [bj, e2], h⟩
  refine aa (F := f658) rfl rfl (ag 300 _ _ _ _ ?_)
  repeat' ((conv => whnf); first | refine z ?_ | refine a7 ?_ | refine kX [(0, _, _)] [] ⟨rfl, trivial⟩ trivial (h1) ?_ | (refine ab ?_ ?_ <;> intro h))
  refine gY ?_
  rfl
end Go.AM.IR
namespace Go.AM.IR
def h9 (t : List UInt8) : Bool := !t.isEmpty && !(decide (1 < t.length) && (t.head? == some 48))
theorem W5 {s done rest : List UInt8} {x : UInt8} {n : Int} (e : s = done ++ x :: rest) (hn : n = done.length) : s[n.toNat]? = some x := by
 rw [e, hn]; simp
theorem km (s : List UInt8) (hs : s.length < 2 ^ 40) (hd : ∀ c ∈ s, isD c = true) : ∀ (rest done : List UInt8) (T : List (Nat × AV)) (H : ay) (c : Nat) (n : Int) (e : s = done ++ rest) (hn : n = done.length),
  Ev G0 ⟨J6, ⟨(18, .int .i64 n) :: (0, .str s) :: (17, .int .i64 s.length) :: T, H, c⟩, [.t 2], 0⟩ ⟨.bool true, []⟩
 | [], done, T, H, c, n, e, hn => by
  have hl : s.length = done.length := by simp [e]
  refine evl ?_
  repeat' (first | refine ae ?_ | (refine ab ?_ ?_ <;> intro h))
  refine ah ?_; rfl
 | x :: rest, done, T, H, c, n, e, hn => by
  have hl : s.length = done.length + (rest.length + 1) := by simp [e]
  have hb := W5 e hn
  have hx : 48 ≤ x.toNat ∧ x.toNat ≤ 57 := by
   have := hd x (by simp [e])
   simpa [isD] using this
  have ih := fun T H c => km s hs hd rest (done ++ [x]) T H c (n + 1) (by simp [e]) (by simp [hn])
  refine evl ?_
  repeat' (first | refine du ?_ | (refine ab ?_ ?_ <;> intro h))
  refine aA [18, 0, 17] [] ?_
  exact ih _ _ _
theorem xx (s : List UInt8) (hs : s.length < 2 ^ 40) (hd : ∀ c ∈ s, isD c = true) : am G0 347 [.str s] [] ⟨.bool (h9 s), []⟩ := by
 cases s with
 | nil =>
  have z : ∀ {kv : AV → Prop}, kv (.bool true) → ∃ v, bj .eql (.str []) (.str []) = some v ∧ kv v := fun h => ⟨_, rfl, h⟩
  refine aa (F := f347) rfl rfl (ag 300 _ _ _ _ ?_)
  repeat' ((conv => whnf); first | refine z ?_ | refine a7 ?_ | (refine ab ?_ ?_ <;> intro h))
  refine ah ?_; rfl
 | cons b r =>
  have z : ∀ {kv : AV → Prop}, kv (.bool false) → ∃ v, bj .eql (.str (b :: r)) (.str []) = some v ∧ kv v := fun h => ⟨_, rfl, h⟩
  have hb : (b :: r)[(0 : Int).toNat]? = some b := rfl
  have hl : (b :: r).length = r.length + 1 := rfl
  cases r with
  | nil =>
   rw [show h9 [b] = true from by simp [h9]]
   refine aa (F := f347) rfl rfl (ag 300 _ _ _ _ ?_)
   repeat' ((conv => whnf); first | refine z ?_ | refine a7 ?_ | (refine ab ?_ ?_ <;> intro h))
   refine aA [18, 0, 17] [] ?_
   exact km [b] hs hd [b] [] _ _ _ 0 rfl rfl
  | cons d q =>
   have hl2 : (b :: d :: q).length = q.length + 2 := rfl
   by_cases hz : b = 48
   ·subst hz
    rw [show h9 (48 :: d :: q) = false from by simp [h9]]
    refine aa (F := f347) rfl rfl (ag 300 _ _ _ _ ?_)
    repeat' ((conv => whnf); first | refine z ?_ | refine zIstr (b := 48) ?_ hb (by omega) | refine a7 ?_ | (refine ab ?_ ?_ <;> intro h))
    refine ah ?_; rfl
   ·have hz2 : ¬ (b.toNat : Int) = 48 := by
     intro e; apply hz; apply UInt8.toNat_inj.1
     show b.toNat = 48
     omega
    rw [show h9 (b :: d :: q) = true from by simp [h9, hz]]
    refine aa (F := f347) rfl rfl (ag 300 _ _ _ _ ?_)
    repeat' ((conv => whnf); first | refine z ?_ | refine zIstr (b := b) ?_ hb (by omega) | refine a7 ?_ | (refine ab ?_ ?_ <;> intro h))
    refine aA [18, 0, 17] [] ?_
    exact km (b :: d :: q) hs hd (b :: d :: q) [] _ _ _ 0 rfl rfl
def nuR (v e : Int) : Ret := ⟨.tup [.int .i64 v, .int .i64 e], []⟩
theorem qe (s : List UInt8) (hs : s.length < 2 ^ 40) (hd : ∀ c ∈ s, isD c = true) : ∀ (rest done : List UInt8) (a : Int) (T : List (Nat × AV)) (H : ay) (c : Nat) (n : Int) (e : s = done ++ rest) (hn : n = done.length) (h0 : 0 ≤ a) (ha : a ≤ 9223372036854775807),
  Ev G0 ⟨G9, ⟨(14, .int .i64 n) :: (6, .int .i64 a) :: (0, .str s) :: (1, .int .i64 4294967295) :: (13, .int .i64 s.length) :: T, H, c⟩, [.t 4, .t 5], 0⟩ (if 4294967295 < cm a rest then nuR 0 5 else nuR (cm a rest) 0)
 | [], done, a, T, H, c, n, e, hn, h0, ha => by
  have hl : s.length = done.length := by simp [e]
  have hv : cm a [] = a := rfl
  rw [hv]
  by_cases hm : 4294967295 < a
  ·rw [if_pos hm]
   refine evl ?_
   repeat' (first | refine ae ?_ | (refine ab ?_ ?_ <;> intro h))
   refine ah ?_; rfl
  ·rw [if_neg hm]
   refine evl ?_
   repeat' (first | refine ae ?_ | (refine ab ?_ ?_ <;> intro h))
   refine ah ?_; rfl
 | x :: rest, done, a, T, H, c, n, e, hn, h0, ha => by
  have hl : s.length = done.length + (rest.length + 1) := by simp [e]
  have hb := W5 e hn
  have hdx := hd x (by simp [e])
  have hx : 48 ≤ x.toNat ∧ x.toNat ≤ 57 := by simpa [isD] using hdx
  have hv := nx hdx
  have h3 : cm a (x :: rest) = cm (10 * a + dA x) rest := rfl
  have h4 := rc rest (10 * a + dA x) (by omega) (fun y hy => hd y (by simp [e, hy]))
  rw [h3]
  by_cases ho : a > (9223372036854775807 - dA x) / 10
  ·rw [if_pos (by omega)]
   refine evl ?_
   repeat' ((conv => whnf); first | refine zIstr ?_ hb (by omega) | refine uE ?_ hx.1 | refine a7 ?_ | (refine ab ?_ ?_ <;> intro h))
   refine ah ?_; rfl
  ·have ih := fun T H c => qe s hs hd rest (done ++ [x]) (10 * a + dA x) T H c (n + 1) (by simp [e]) (by simp [hn]) (by omega) (by omega)
   refine evl ?_
   repeat' ((conv => whnf); first | refine zIstr ?_ hb (by omega) | refine uE ?_ hx.1 | refine a7 ?_ | (refine ab ?_ ?_ <;> intro h))
   refine aA [14, 6, 0, 1, 13] [] ?_
   exact ih _ _ _
theorem yt (s : List UInt8) (hs : s.length < 2 ^ 40) (hd : ∀ c ∈ s, isD c = true) : am G0 346 [.str s, .int .i64 4294967295] [] (if h9 s = true then (if 4294967295 < cm 0 s then nuR 0 5 else nuR (cm 0 s) 0) else nuR 0 2) := by
 have hc := xx s hs hd
 cases hq : h9 s
 ·rw [hq] at hc
  rw [if_neg (by simp)]
  refine aa (F := f346) rfl rfl (ag 300 _ _ _ _ ?_)
  repeat' (first | refine ae ?_ | (refine ab ?_ ?_ <;> intro h))
  refine ah ?_; rfl
 ·rw [hq] at hc
  rw [if_pos rfl]
  refine aa (F := f346) rfl rfl (ag 300 _ _ _ _ ?_)
  repeat' (first | refine ae ?_ | (refine ab ?_ ?_ <;> intro h))
  refine aA [14, 6, 0, 1, 13] [] ?_
  exact qe s hs hd s [] 0 _ _ _ 0 rfl rfl (by omega) (by omega)
def rF (s : List UInt8) (n : Nat) : Nat := n + ((s.drop n).takeWhile isD).length
def vI (s : List UInt8) (n : Nat) : Option (Int × Nat) → Ret
 | some (a, m) => rpR s (.int .i64 a) m
 | none => pnR s (rF s n)
theorem WD {s : List UInt8} {n : Nat} : isD (pk s n) = true → n < s.length := by
 intro h
 rcases Nat.lt_or_ge n s.length with q | q
 ·exact q
 ·rw [pk, List.getElem?_eq_none q] at h; simp [isD] at h
theorem nW (s : List UInt8) (hs : s.length < 2 ^ 40) (fr : Nat) : ∀ (f n : Nat) (done : List UInt8) (T : List (Nat × AV)) (H : ay) (c : Nat) (hf : n + f = s.length) (hd : ∀ c ∈ done, isD c = true) (e : s.drop fr = done ++ s.drop n) (hn : n = fr + done.length),
  Ev G0 ⟨JM, ⟨(0, .ref 0 0 0) :: (3, .int .i64 (fr : Int)) :: T, (0, some (0, .cells [.str s, .int .i64 (n : Int)])) :: H, c⟩, [.t 2], 1⟩ (vI s fr (dy s fr))
 | f, n, done, T, H, c, hf, hd, e, hn => by
  have h1 := dv s hs n (by omega)
  by_cases hD : isD (pk s n) = true
  ·have hlt := WD hD
   have hp : pk s n = s[n] := by simp [pk, hlt]
   have e2 : s.drop n = s[n] :: s.drop (n + 1) := List.drop_eq_getElem_cons hlt
   rw [← hp] at e2
   have hD' := hD
   obtain ⟨f', rfl⟩ : ∃ f', f = f' + 1 := ⟨f - 1, by omega⟩
   have ih := fun T H c => nW s hs fr f' (n + 1) (done ++ [pk s n]) T H c (by omega) (fun c hc => by
    rcases List.mem_append.1 hc with hc | hc
    ·exact hd c hc
    ·rw [List.mem_singleton.1 hc]; exact hD) (by rw [e, e2]; simp) (by simp; omega)
   generalize pk s n = b at *
   have hb : 48 ≤ b.toNat ∧ b.toNat ≤ 57 := by simpa [isD] using hD'
   have hbl := b.toNat_lt
   refine evl ?_
   repeat' (first | refine ae ?_ | refine kX [(0, _, _)] [] ⟨rfl, trivial⟩ trivial (h1) ?_ | (refine ab ?_ ?_ <;> intro h))
   refine aA [0, 3] [0] ?_
   exact ih _ _ _
  ·have ht : (s.drop fr).takeWhile isD = done := by
    rw [e]
    refine mb hd (fun c hc => ?_)
    have : pk s n = c := by
     have : s[n]? = some c := by rw [← hc, List.head?_drop]
     simp [pk, this]
    rw [← this]; simpa using hD
   have hm : rF s fr = n := by rw [rF, ht, hn]
   have hle : fr ≤ n := by omega
   have hsl : List.take (n - fr) (List.drop fr s) = done := by
    rw [e, hn]; simp
   have h2 : am G0 346 [.str (List.take (((n : Nat) : Int).toNat - ((fr : Nat) : Int).toNat) (List.drop ((fr : Nat) : Int).toNat s)), .int .i64 4294967295] [] (if h9 done = true then (if 4294967295 < cm 0 done then nuR 0 5 else nuR (cm 0 done) 0) else nuR 0 2) := by
    have q : List.take (((n : Nat) : Int).toNat - ((fr : Nat) : Int).toNat) (List.drop ((fr : Nat) : Int).toNat s) = done := by simpa using hsl
    rw [q]; exact yt done (by rw [← hsl]; simp; omega) hd
   have hb : ¬ (48 ≤ (pk s n).toNat ∧ (pk s n).toNat ≤ 57) := by simpa [isD] using hD
   have hbl := (pk s n).toNat_lt
   have hpn : dy s fr = if h9 done = true ∧ cm 0 done ≤ 4294967295 then some (cm 0 done, n) else none := by
    unfold dy
    rw [ht]
    dsimp only
    unfold h9
    by_cases a1 : done = []
    ·simp [a1]
    by_cases a2 : 1 < done.length ∧ done.head? = some 48
    ·simp [a1, a2]
    ·have hn' : fr + done.length = n := hn.symm
     simp only [if_neg a1, if_neg a2, hn']
     have a3 : (!done.isEmpty && !(decide (1 < done.length) && (done.head? == some 48))) = true := by
      rw [Bool.and_eq_true]
      refine ⟨by simpa using a1, ?_⟩
      simp only [Bool.not_eq_true', Bool.and_eq_false_iff, decide_eq_false_iff_not, beq_eq_false_iff_ne]
      rcases Decidable.em (1 < done.length) with q | q
      ·exact .inr fun w => a2 ⟨q, w⟩
      ·exact .inl q
     simp only [a3]
     by_cases a4 : 4294967295 < cm 0 done
     ·rw [if_pos a4, if_neg (by omega)]
     ·rw [if_neg a4, if_pos ⟨trivial, by omega⟩]
   rw [hpn]
   by_cases k1 : h9 done = true
   ·rw [if_pos k1] at h2
    by_cases k2 : 4294967295 < cm 0 done
    ·rw [if_pos k2] at h2
     rw [if_neg (by omega), vI, hm]
     unfold nuR at h2
     refine evl ?_
     repeat' (first | refine ae ?_ | refine kX [(0, _, _)] [] ⟨rfl, trivial⟩ trivial (h1) ?_ | (refine ab ?_ ?_ <;> intro h))
     all_goals try (exfalso; omega)
     all_goals (refine gY ?_; rfl)
    ·rw [if_neg k2] at h2
     rw [if_pos ⟨k1, by omega⟩, vI]
     generalize cm 0 done = V at *
     unfold nuR at h2
     refine evl ?_
     repeat' (first | refine ae ?_ | refine kX [(0, _, _)] [] ⟨rfl, trivial⟩ trivial (h1) ?_ | (refine ab ?_ ?_ <;> intro h))
     all_goals try (exfalso; omega)
     all_goals
      (conv => whnf); first | refine aP [(0, _, _)] [] [true] ?_ | refine aQ [(0, _, _)] [] [true] ?_
      rfl
   ·rw [if_neg k1] at h2
    rw [if_neg (fun q => k1 q.1), vI, hm]
    unfold nuR at h2
    refine evl ?_
    repeat' (first | refine ae ?_ | refine kX [(0, _, _)] [] ⟨rfl, trivial⟩ trivial (h1) ?_ | (refine ab ?_ ?_ <;> intro h))
    all_goals try (exfalso; omega)
    all_goals (refine gY ?_; rfl)
theorem jv (s : List UInt8) (hs : s.length < 2 ^ 40) (n : Nat) (hn : n ≤ s.length) : am G0 657 [.ref 0 0 0] [.cells [.str s, .int .i64 (n : Int)]] (vI s n (dy s n)) := by
 refine aa (F := f657) rfl rfl (ag 300 _ _ _ _ ?_)
 repeat' (first | refine ae ?_ | (refine ab ?_ ?_ <;> intro h))
 refine aA [0, 3] [0] ?_
 exact nW s hs n (s.length - n) n [] _ _ _ (by omega) (fun c h => by cases h) (by simp) (by simp)
end Go.AM.IR
