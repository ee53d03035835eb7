/- What the functions of this program give, on the abstract machine. -/
import Derived.Test.YtcieamgbfameoaaGreatDoorDataF
set_option linter.unusedVariables false
set_option linter.unusedSimpArgs false
set_option maxHeartbeats 20000000
set_option maxRecDepth 20000
namespace Go.AM.IR
theorem B5 (b : List UInt8) (wide : Bool) (t : Ret) (l0 : List UInt8) (hl0 : l0.length < 2 ^ 40) (g1 g2 g3 : Nat) : ∀ (l d : List UInt8) (T : List (Nat × AV)) (H : aq) (c : Nat) (n : Int), d ++ l = l0 → n = d.length →
  (l.any (fun c => c != 255) = false → ∀ (T : List (Nat × AV)) (H : aq) (c : Nat), Ev G ⟨[.code (suf 4 a6.body)], ⟨(0, .sl 1 (byteCells b)) :: (1, .bool wide) :: (4, .ref 68 g1 0) :: (6, .ref 70 g2 0) :: (8, .ref 72 g3 0) :: T, (68, some (g1, .cells ap.enc)) :: (70, some (g2, .cells ap.enc)) :: (72, some (g3, .cells ap.enc)) :: H, c⟩, [.cell 4 (some 27), .t 5, .cell 6 (some 27), .t 7], 0⟩ t) → (l.any (fun c => c != 255) = true → kd (ap, 0, bc 1 1 [], 2) = t) →
  Ev G ⟨asw, ⟨(26, .int .i64 n) :: (25, .int .i64 l0.length) :: (24, .sl 1 (byteCells l0)) :: (0, .sl 1 (byteCells b)) :: (1, .bool wide) :: (4, .ref 68 g1 0) :: (6, .ref 70 g2 0) :: (8, .ref 72 g3 0) :: T, (68, some (g1, .cells ap.enc)) :: (70, some (g2, .cells ap.enc)) :: (72, some (g3, .cells ap.enc)) :: H, c⟩, [.cell 4 (some 27), .t 5, .cell 6 (some 27), .t 7], 0⟩ t
 | [], d, T, H, c, n, e, hn, K, B => by
  have hd : l0.length = d.length := by rw [← e]; simp
  have hle : ¬ (n < (l0.length : Int)) := by omega
  refine dG (cP 1 300 _ _ _ _ ?_)
  repeat' (first | refine ab ?_ | (refine aa ?_ ?_ <;> intro h))
  refine ag [0, 1, 4, 6, 8] [68, 70, 72] ?_
  exact K rfl _ _ _
 | x :: r, d, T, H, c, n, e, hn, K, B => by
  have hd : l0.length = d.length + (r.length + 1) := by rw [← e]; simp
  have hlt : n < (l0.length : Int) := by omega
  have hx : (byteCells l0)[n.toNat]? = some [.int .u8 x.toNat] := by
   rw [← e, show n.toNat = d.length from by omega]
   simp [byteCells]
  have hx8 := x.toNat_lt
  by_cases h : x = 255
  ·subst h
   have hx' : (byteCells l0)[n.toNat]? = some [.int .u8 255] := hx
   clear hx
   refine dG (cP 1 300 _ _ _ _ ?_)
   repeat' (first | refine ab ?_ | (refine aa ?_ ?_ <;> intro h))
   refine ag [26, 25, 24, 0, 1, 4, 6, 8] [68, 70, 72] ?_
   exact B5 b wide t l0 hl0 g1 g2 g3 r (d ++ [255]) _ _ _ (n + 1) (by rw [← e]; simp) (by rw [List.length_append]; simp only [List.length_cons, List.length_nil]; omega) (fun q => K (by simpa using q)) (fun q => B (by simpa using q))
  ·have hne : ¬ ((x.toNat : Int) = 255) := fun q => h (UInt8.toNat_inj.1 (by simp; omega))
   rw [← B (by simp [h])]
   have h6 : ah G 359 [.int .i64 1, .int .i64 1, .con (.slice none 0 0)] [] ⟨.agg (bc 1 1 []).enc, []⟩ := b7 1 1
   refine dG (cP 1 300 _ _ _ _ ?_)
   repeat' (first | refine ab ?_ | (refine aa ?_ ?_ <;> intro h))
   refine ax ?_
   repeat ((conv => whnf); refine frB ?_)
   rfl
theorem as9 (b : List UInt8) (hb : b.length < 2 ^ 40) (wide : Bool) (h : b.length < 19) : ah G 354 [.sl 1 (byteCells b), .bool wide] [] (kd (ap, 0, ap, 3)) := by
 have hbl := au b
 refine ae (F := a6) rfl rfl ?_
 refine aG (b := suf 1 a6.body) ?_
 refine wd1 ?_
 repeat' (first | refine ab ?_ | (refine aa ?_ ?_ <;> intro h))
 refine aG (b := suf 2 a6.body) ?_
 refine wd1 ?_
 repeat' (first | refine ab ?_ | (refine aa ?_ ?_ <;> intro h))
 refine bm [] [(68, some (_, .cells ap.enc)), (70, some (_, .cells ap.enc)), (72, some (_, .cells ap.enc))] trivial ⟨⟨rfl, leA⟩, ⟨rfl, .refl _, .refl _, .refl _, .refl _, .refl _, LeP.nil 2, LeP.nil 2, .refl _, LeP.nil 2, .refl _, .refl _, .refl _, .refl _, .refl _, .refl _, .refl _, .refl _, .refl _, LeP.nil 1, .refl _, .refl _, LeP.nil 1, LeP.nil 2, LeP.nil 2, .refl _, .refl _, LeP.nil 1, trivial⟩, ⟨rfl, .refl _, .refl _, .refl _, .refl _, .refl _, LeP.nil 2, LeP.nil 2, .refl _, LeP.nil 2, .refl _, .refl _, .refl _, .refl _, .refl _, .refl _, .refl _, .refl _, .refl _, LeP.nil 1, .refl _, .refl _, LeP.nil 1, LeP.nil 2, LeP.nil 2, .refl _, .refl _, LeP.nil 1, trivial⟩, trivial⟩ ?_
 refine wk3 ?_
 repeat' (first | refine ab ?_ | (refine aa ?_ ?_ <;> intro h))
 refine ax ?_
 repeat ((conv => whnf); refine frB ?_)
 rfl
theorem as8 (b : List UInt8) (hb : b.length < 2 ^ 40) (wide : Bool) (h : 19 ≤ b.length) (t : Ret)
  (K : (b.take 16).any (fun c => c != 255) = false → ∀ (g1 g2 g3 : Nat) (T : List (Nat × AV)) (H : aq) (c : Nat), Ev G ⟨[.code (suf 4 a6.body)], ⟨(0, .sl 1 (byteCells b)) :: (1, .bool wide) :: (4, .ref 68 g1 0) :: (6, .ref 70 g2 0) :: (8, .ref 72 g3 0) :: T, (68, some (g1, .cells ap.enc)) :: (70, some (g2, .cells ap.enc)) :: (72, some (g3, .cells ap.enc)) :: H, c⟩, [.cell 4 (some 27), .t 5, .cell 6 (some 27), .t 7], 0⟩ t) (B : (b.take 16).any (fun c => c != 255) = true → kd (ap, 0, bc 1 1 [], 2) = t) : ah G 354 [.sl 1 (byteCells b), .bool wide] [] t := by
 have hbl := au b
 have hcut : List.take (Int.toNat 16 - 0) (List.drop 0 (byteCells b)) = byteCells (b.take 16) := by simp [byteCells]
 have hln : (List.take (Int.toNat 16 - 0) (List.drop 0 (byteCells b))).length = (b.take 16).length := by rw [hcut, au]
 have hl16 : (b.take 16).length = 16 := by rw [List.length_take]; omega
 refine ae (F := a6) rfl rfl ?_
 refine aG (b := suf 1 a6.body) ?_
 refine wd1 ?_
 repeat' (first | refine ab ?_ | (refine aa ?_ ?_ <;> intro h))
 refine aG (b := suf 2 a6.body) ?_
 refine wd1 ?_
 repeat' (first | refine ab ?_ | (refine aa ?_ ?_ <;> intro h))
 refine bm [] [(68, some (_, .cells ap.enc)), (70, some (_, .cells ap.enc)), (72, some (_, .cells ap.enc))] trivial ⟨⟨rfl, leA⟩, ⟨rfl, .refl _, .refl _, .refl _, .refl _, .refl _, LeP.nil 2, LeP.nil 2, .refl _, LeP.nil 2, .refl _, .refl _, .refl _, .refl _, .refl _, .refl _, .refl _, .refl _, .refl _, LeP.nil 1, .refl _, .refl _, LeP.nil 1, LeP.nil 2, LeP.nil 2, .refl _, .refl _, LeP.nil 1, trivial⟩, ⟨rfl, .refl _, .refl _, .refl _, .refl _, .refl _, LeP.nil 2, LeP.nil 2, .refl _, LeP.nil 2, .refl _, .refl _, .refl _, .refl _, .refl _, .refl _, .refl _, .refl _, .refl _, LeP.nil 1, .refl _, .refl _, LeP.nil 1, LeP.nil 2, LeP.nil 2, .refl _, .refl _, LeP.nil 1, trivial⟩, trivial⟩ ?_
 refine wk3 ?_
 repeat' (first | refine ab ?_ | (refine aa ?_ ?_ <;> intro h))
 refine ag [26, 25, 24, 0, 1, 4, 6, 8] [68, 70, 72] ?_
 rw [hln, hcut]
 exact B5 b wide t (b.take 16) (by omega) _ _ _ (b.take 16) [] _ _ _ 0 rfl rfl (fun q => K q _ _ _) B
theorem asK (b : List UInt8) (hb : b.length < 2 ^ 40) (wide : Bool) (h19 : 19 ≤ b.length) (x y k : UInt8) (e2 : (b.drop 16).take 2 = [x, y]) (e1 : (b.drop 18).take 1 = [k]) (hk : (byteCells b)[18]? = some [.int .u8 k.toNat]) (n : Nat) (hn : n = rd ((b.drop 16).take 2)) (q : n < 19) (g1 g2 g3 : Nat) (T : List (Nat × AV)) (H : aq) (c : Nat) : Ev G ⟨[.code (suf 4 a6.body)], ⟨(0, .sl 1 (byteCells b)) :: (1, .bool wide) :: (4, .ref 68 g1 0) :: (6, .ref 70 g2 0) :: (8, .ref 72 g3 0) :: T, (68, some (g1, .cells ap.enc)) :: (70, some (g2, .cells ap.enc)) :: (72, some (g3, .cells ap.enc)) :: H, c⟩, [.cell 4 (some 27), .t 5, .cell 6 (some 27), .t 7], 0⟩ (kd (ap, 0, bc 1 2 [x, y], 2)) := by
 have hbl := au b
 have hk8 := k.toNat_lt
 have hr : n < 256 ^ 2 := by rw [hn]; exact cn (by simp; omega)
 have hg : ah G 360 [.sl 1 (byteCells b), .int .i64 16, .int .i64 2] [] ⟨.int .i64 (n : Nat), []⟩ := by
  rw [hn]; exact a9 b (by omega) 16 2 (by omega) (by omega) (by omega) (by omega)
 have hN : ah G 359 [.int .i64 1, .int .i64 2, .sl 1 (List.take (Int.toNat 18 - Int.toNat 16) (List.drop (Int.toNat 16) (byteCells b)))] [] ⟨.agg (bc 1 2 [x, y]).enc, []⟩ := by
  rw [show List.take (Int.toNat 18 - Int.toNat 16) (List.drop (Int.toNat 16) (byteCells b)) = byteCells [x, y] from by rw [← e2]; simp [byteCells]]
  exact k9 1 2 [x, y] (by simp)
 clear hn
 refine wk3 ?_
 repeat' (first | refine ab ?_ | refine ox ?_ | (refine aa ?_ ?_ <;> intro h))
 refine ax ?_
 repeat ((conv => whnf); refine frB ?_)
 rfl
theorem asJ (b : List UInt8) (hb : b.length < 2 ^ 40) (wide : Bool) (h19 : 19 ≤ b.length) (x y k : UInt8) (e2 : (b.drop 16).take 2 = [x, y]) (e1 : (b.drop 18).take 1 = [k]) (hk : (byteCells b)[18]? = some [.int .u8 k.toNat]) (n : Nat) (hn : n = rd ((b.drop 16).take 2)) (q : ¬ n < 19) (qk : k.toNat < 1 ∨ k.toNat > 5) (g1 g2 g3 : Nat) (T : List (Nat × AV)) (H : aq) (c : Nat) : Ev G ⟨[.code (suf 4 a6.body)], ⟨(0, .sl 1 (byteCells b)) :: (1, .bool wide) :: (4, .ref 68 g1 0) :: (6, .ref 70 g2 0) :: (8, .ref 72 g3 0) :: T, (68, some (g1, .cells ap.enc)) :: (70, some (g2, .cells ap.enc)) :: (72, some (g3, .cells ap.enc)) :: H, c⟩, [.cell 4 (some 27), .t 5, .cell 6 (some 27), .t 7], 0⟩ (kd (ap, 0, bc 1 3 [k], 15)) := by
 have hbl := au b
 have hk8 := k.toNat_lt
 have hr : n < 256 ^ 2 := by rw [hn]; exact cn (by simp; omega)
 have hg : ah G 360 [.sl 1 (byteCells b), .int .i64 16, .int .i64 2] [] ⟨.int .i64 (n : Nat), []⟩ := by
  rw [hn]; exact a9 b (by omega) 16 2 (by omega) (by omega) (by omega) (by omega)
 have hN : ah G 359 [.int .i64 1, .int .i64 2, .sl 1 (List.take (Int.toNat 18 - Int.toNat 16) (List.drop (Int.toNat 16) (byteCells b)))] [] ⟨.agg (bc 1 2 [x, y]).enc, []⟩ := by
  rw [show List.take (Int.toNat 18 - Int.toNat 16) (List.drop (Int.toNat 16) (byteCells b)) = byteCells [x, y] from by rw [← e2]; simp [byteCells]]
  exact k9 1 2 [x, y] (by simp)
 have hM : ah G 359 [.int .i64 1, .int .i64 3, .sl 1 (List.take (Int.toNat 19 - Int.toNat 18) (List.drop (Int.toNat 18) (byteCells b)))] [] ⟨.agg (bc 1 3 [k]).enc, []⟩ := by
  rw [show List.take (Int.toNat 19 - Int.toNat 18) (List.drop (Int.toNat 18) (byteCells b)) = byteCells [k] from by rw [← e1]; simp [byteCells]]
  exact k9 1 3 [k] (by simp)
 clear hn
 by_cases k1 : k.toNat < 1
 ·refine wk3 ?_
  repeat' (first | refine ab ?_ | refine ox ?_ | (refine aa ?_ ?_ <;> intro h))
  refine ax ?_
  repeat ((conv => whnf); refine frB ?_)
  rfl
 ·have k5 : k.toNat > 5 := by omega
  refine wk3 ?_
  repeat' (first | refine ab ?_ | refine ox ?_ | (refine aa ?_ ?_ <;> intro h))
  refine ax ?_
  repeat ((conv => whnf); refine frB ?_)
  rfl
theorem nN (k : Nat) (n : Nat) (k1 : ¬ k < 1) (k5 : ¬ k > 5) : ef (k : Nat) (n : Nat) = (decide ((n : Int) < e8 (k : Nat)) || (((k : Int) == 4 || (k : Int) == 5) && ((n : Int) != e8 (k : Nat)))) := by
 have h : k = 1 ∨ k = 2 ∨ k = 3 ∨ k = 4 ∨ k = 5 := by omega
 rcases h with rfl | rfl | rfl | rfl | rfl
 ·show decide _ = _; simp [e8]
 ·show decide _ = _; simp [e8]
 ·show decide _ = _; simp [e8]
 ·show decide _ = _; simp only [e8]; by_cases h : (n : Int) = 19
  ·simp [h]
  ·simp [h]
 ·show decide _ = _; simp only [e8]; by_cases h : (n : Int) = 23
  ·simp [h]
  ·simp [h]
theorem asI (b : List UInt8) (hb : b.length < 2 ^ 40) (wide : Bool) (h19 : 19 ≤ b.length) (x y k : UInt8) (e2 : (b.drop 16).take 2 = [x, y]) (e1 : (b.drop 18).take 1 = [k]) (hk : (byteCells b)[18]? = some [.int .u8 k.toNat]) (n : Nat) (hn : n = rd ((b.drop 16).take 2)) (q : ¬ n < 19) (k1 : ¬ k.toNat < 1) (k5 : ¬ k.toNat > 5) (qb : ef (k.toNat : Nat) (n : Nat) = true) (g1 g2 g3 : Nat) (T : List (Nat × AV)) (H : aq) (c : Nat) : Ev G ⟨[.code (suf 4 a6.body)], ⟨(0, .sl 1 (byteCells b)) :: (1, .bool wide) :: (4, .ref 68 g1 0) :: (6, .ref 70 g2 0) :: (8, .ref 72 g3 0) :: T, (68, some (g1, .cells ap.enc)) :: (70, some (g2, .cells ap.enc)) :: (72, some (g3, .cells ap.enc)) :: H, c⟩, [.cell 4 (some 27), .t 5, .cell 6 (some 27), .t 7], 0⟩ (kd (ap, 0, bc 1 2 [x, y], 2)) := by
 have hbl := au b
 have hk8 := k.toNat_lt
 have hr : n < 256 ^ 2 := by rw [hn]; exact cn (by simp; omega)
 have hg : ah G 360 [.sl 1 (byteCells b), .int .i64 16, .int .i64 2] [] ⟨.int .i64 (n : Nat), []⟩ := by
  rw [hn]; exact a9 b (by omega) 16 2 (by omega) (by omega) (by omega) (by omega)
 have hN : ah G 359 [.int .i64 1, .int .i64 2, .sl 1 (List.take (Int.toNat 18 - Int.toNat 16) (List.drop (Int.toNat 16) (byteCells b)))] [] ⟨.agg (bc 1 2 [x, y]).enc, []⟩ := by
  rw [show List.take (Int.toNat 18 - Int.toNat 16) (List.drop (Int.toNat 16) (byteCells b)) = byteCells [x, y] from by rw [← e2]; simp [byteCells]]
  exact k9 1 2 [x, y] (by simp)
 have hl : ah G 361 [.int .i64 (k.toNat : Nat)] [] ⟨.int .i64 (e8 (k.toNat : Nat)), []⟩ := F5 _ (by omega) (by omega)
 have h5 : k.toNat = 1 ∨ k.toNat = 2 ∨ k.toNat = 3 ∨ k.toNat = 4 ∨ k.toNat = 5 := by omega
 rw [nN k.toNat n k1 k5] at qb
 generalize e8 (k.toNat : Nat) = L at *
 clear hn
 by_cases a1 : (n : Int) < L
 ·refine wk3 ?_
  repeat' (first | refine ab ?_ | refine ox ?_ | (refine aa ?_ ?_ <;> intro h))
  refine ax ?_
  repeat ((conv => whnf); refine frB ?_)
  rfl
 ·have a2 : ¬ (n : Int) = L := by
   intro h
   simp [h] at qb
  by_cases a4 : (k.toNat : Int) = 4
  ·refine wk3 ?_
   repeat' (first | refine ab ?_ | refine ox ?_ | (refine aa ?_ ?_ <;> intro h))
   refine ax ?_
   repeat ((conv => whnf); refine frB ?_)
   rfl
  ·have a5 : (k.toNat : Int) = 5 := by
    simp [a1, a4] at qb
    omega
   refine wk3 ?_
   repeat' (first | refine ab ?_ | refine ox ?_ | (refine aa ?_ ?_ <;> intro h))
   refine ax ?_
   repeat ((conv => whnf); refine frB ?_)
   rfl
theorem asH (b : List UInt8) (hb : b.length < 2 ^ 40) (wide : Bool) (h19 : 19 ≤ b.length) (x y k : UInt8) (e2 : (b.drop 16).take 2 = [x, y]) (e1 : (b.drop 18).take 1 = [k]) (hk : (byteCells b)[18]? = some [.int .u8 k.toNat]) (n : Nat) (hn : n = rd ((b.drop 16).take 2)) (q : ¬ n < 19) (k1 : ¬ k.toNat < 1) (k5 : ¬ k.toNat > 5) (qb : ef (k.toNat : Nat) (n : Nat) = false) (ql : b.length < n) (g1 g2 g3 : Nat) (T : List (Nat × AV)) (H : aq) (c : Nat) : Ev G ⟨[.code (suf 4 a6.body)], ⟨(0, .sl 1 (byteCells b)) :: (1, .bool wide) :: (4, .ref 68 g1 0) :: (6, .ref 70 g2 0) :: (8, .ref 72 g3 0) :: T, (68, some (g1, .cells ap.enc)) :: (70, some (g2, .cells ap.enc)) :: (72, some (g3, .cells ap.enc)) :: H, c⟩, [.cell 4 (some 27), .t 5, .cell 6 (some 27), .t 7], 0⟩ (kd (ap, 0, ap, 3)) := by
 have hbl := au b
 have hk8 := k.toNat_lt
 have hr : n < 256 ^ 2 := by rw [hn]; exact cn (by simp; omega)
 have hg : ah G 360 [.sl 1 (byteCells b), .int .i64 16, .int .i64 2] [] ⟨.int .i64 (n : Nat), []⟩ := by
  rw [hn]; exact a9 b (by omega) 16 2 (by omega) (by omega) (by omega) (by omega)
 have hN : ah G 359 [.int .i64 1, .int .i64 2, .sl 1 (List.take (Int.toNat 18 - Int.toNat 16) (List.drop (Int.toNat 16) (byteCells b)))] [] ⟨.agg (bc 1 2 [x, y]).enc, []⟩ := by
  rw [show List.take (Int.toNat 18 - Int.toNat 16) (List.drop (Int.toNat 16) (byteCells b)) = byteCells [x, y] from by rw [← e2]; simp [byteCells]]
  exact k9 1 2 [x, y] (by simp)
 have hl : ah G 361 [.int .i64 (k.toNat : Nat)] [] ⟨.int .i64 (e8 (k.toNat : Nat)), []⟩ := F5 _ (by omega) (by omega)
 have h5 : k.toNat = 1 ∨ k.toNat = 2 ∨ k.toNat = 3 ∨ k.toNat = 4 ∨ k.toNat = 5 := by omega
 rw [nN k.toNat n k1 k5] at qb
 generalize e8 (k.toNat : Nat) = L at *
 clear hn
 have a1 : ¬ (n : Int) < L := by
  intro h
  simp [h] at qb
 by_cases a2 : (n : Int) = L
 ·by_cases a4 : (k.toNat : Int) = 4
  ·refine wk3 ?_
   repeat' (first | refine ab ?_ | refine ox ?_ | (refine aa ?_ ?_ <;> intro h))
   refine ax ?_
   repeat ((conv => whnf); refine frB ?_)
   rfl
  ·by_cases a5 : (k.toNat : Int) = 5
   ·refine wk3 ?_
    repeat' (first | refine ab ?_ | refine ox ?_ | (refine aa ?_ ?_ <;> intro h))
    refine ax ?_
    repeat ((conv => whnf); refine frB ?_)
    rfl
   ·refine wk3 ?_
    repeat' (first | refine ab ?_ | refine ox ?_ | (refine aa ?_ ?_ <;> intro h))
    refine ax ?_
    repeat ((conv => whnf); refine frB ?_)
    rfl
 ·have a4 : ¬ (k.toNat : Int) = 4 := by
   intro h
   simp [h, a2] at qb
  have a5 : ¬ (k.toNat : Int) = 5 := by
   intro h
   simp [h, a2] at qb
  refine wk3 ?_
  repeat' (first | refine ab ?_ | refine ox ?_ | (refine aa ?_ ?_ <;> intro h))
  refine ax ?_
  repeat ((conv => whnf); refine frB ?_)
  rfl
theorem asG (b : List UInt8) (hb : b.length < 2 ^ 40) (wide : Bool) (h19 : 19 ≤ b.length) (x y k : UInt8) (e2 : (b.drop 16).take 2 = [x, y]) (e1 : (b.drop 18).take 1 = [k]) (hk : (byteCells b)[18]? = some [.int .u8 k.toNat]) (n : Nat) (hn : n = rd ((b.drop 16).take 2)) (q : ¬ n < 19) (k1 : ¬ k.toNat < 1) (k5 : ¬ k.toNat > 5) (qb : ef (k.toNat : Nat) (n : Nat) = false) (ql : ¬ b.length < n) (d : List UInt8) (hd : d = b.take n) (t : Ret) (K : ∀ (g1 g2 g3 g4 s9 py : Nat) (T : List (Nat × AV)) (H : aq) (c : Nat), Ev G ⟨[.code (suf 12 a6.body)], ⟨(0, .sl 1 (byteCells d)) :: (11, .int .i64 (n : Nat)) :: (12, .int .i64 (k.toNat : Nat)) :: (13, .ref 77 g4 0) :: (14, .ref 78 s9 0) :: (15, .ref 79 py 0) :: (16, .int .i64 0) :: (1, .bool wide) :: (4, .ref 68 g1 0) :: (6, .ref 70 g2 0) :: (8, .ref 72 g3 0) :: T, (77, some (g4, .cells (bc 1 2 [x, y]).enc)) :: (78, some (s9, .cells ({ ap with kind := (k.toNat : Nat) } : PMsg).enc)) :: (79, some (py, .cells ap.enc)) :: (68, some (g1, .cells ap.enc)) :: (70, some (g2, .cells ap.enc)) :: (72, some (g3, .cells ap.enc)) :: H, c⟩, [.cell 4 (some 27), .t 5, .cell 6 (some 27), .t 7], 0⟩ t) (g1 g2 g3 : Nat) (T : List (Nat × AV)) (H : aq) (c : Nat) : Ev G ⟨[.code (suf 4 a6.body)], ⟨(0, .sl 1 (byteCells b)) :: (1, .bool wide) :: (4, .ref 68 g1 0) :: (6, .ref 70 g2 0) :: (8, .ref 72 g3 0) :: T, (68, some (g1, .cells ap.enc)) :: (70, some (g2, .cells ap.enc)) :: (72, some (g3, .cells ap.enc)) :: H, c⟩, [.cell 4 (some 27), .t 5, .cell 6 (some 27), .t 7], 0⟩ t := by
 have hbl := au b
 have hk8 := k.toNat_lt
 have hr : n < 256 ^ 2 := by rw [hn]; exact cn (by simp; omega)
 have hg : ah G 360 [.sl 1 (byteCells b), .int .i64 16, .int .i64 2] [] ⟨.int .i64 (n : Nat), []⟩ := by
  rw [hn]; exact a9 b (by omega) 16 2 (by omega) (by omega) (by omega) (by omega)
 have hN : ah G 359 [.int .i64 1, .int .i64 2, .sl 1 (List.take (Int.toNat 18 - Int.toNat 16) (List.drop (Int.toNat 16) (byteCells b)))] [] ⟨.agg (bc 1 2 [x, y]).enc, []⟩ := by
  rw [show List.take (Int.toNat 18 - Int.toNat 16) (List.drop (Int.toNat 16) (byteCells b)) = byteCells [x, y] from by rw [← e2]; simp [byteCells]]
  exact k9 1 2 [x, y] (by simp)
 have hl : ah G 361 [.int .i64 (k.toNat : Nat)] [] ⟨.int .i64 (e8 (k.toNat : Nat)), []⟩ := F5 _ (by omega) (by omega)
 have h5 : k.toNat = 1 ∨ k.toNat = 2 ∨ k.toNat = 3 ∨ k.toNat = 4 ∨ k.toNat = 5 := by omega
 rw [nN k.toNat n k1 k5] at qb
 generalize e8 (k.toNat : Nat) = L at *
 clear hn
 have hcut : List.take (((n : Nat) : Int).toNat - 0) (List.drop 0 (byteCells b)) = byteCells d := by rw [hd]; simp [byteCells]
 have a1 : ¬ (n : Int) < L := by
  intro h
  simp [h] at qb
 by_cases a2 : (n : Int) = L
 ·by_cases a4 : (k.toNat : Int) = 4
  ·refine aG (b := suf 5 a6.body) ?_
   refine wd1 ?_
   repeat' (first | refine ab ?_ | refine ox ?_ | (refine aa ?_ ?_ <;> intro h))
   refine aG (b := suf 6 a6.body) ?_
   refine wd1 ?_
   repeat' (first | refine ab ?_ | refine ox ?_ | (refine aa ?_ ?_ <;> intro h))
   refine aG (b := suf 7 a6.body) ?_
   refine wd1 ?_
   repeat' (first | refine ab ?_ | refine ox ?_ | (refine aa ?_ ?_ <;> intro h))
   refine aG (b := suf 8 a6.body) ?_
   refine wd1 ?_
   repeat' (first | refine ab ?_ | refine ox ?_ | (refine aa ?_ ?_ <;> intro h))
   refine aG (b := suf 9 a6.body) ?_
   refine wd1 ?_
   repeat' (first | refine ab ?_ | refine ox ?_ | (refine aa ?_ ?_ <;> intro h))
   refine aG (b := suf 10 a6.body) ?_
   refine wd1 ?_
   repeat' (first | refine ab ?_ | refine ox ?_ | (refine aa ?_ ?_ <;> intro h))
   refine aG (b := suf 11 a6.body) ?_
   refine wd1 ?_
   repeat' (first | refine ab ?_ | refine ox ?_ | (refine aa ?_ ?_ <;> intro h))
   refine aG (b := suf 12 a6.body) ?_
   refine wd1 ?_
   repeat' (first | refine ab ?_ | refine ox ?_ | (refine aa ?_ ?_ <;> intro h))
   rw [hcut]
   refine bm [] [(78, some (_, .cells (({ ap with kind := (k.toNat : Nat) } : PMsg).enc))), (79, some (_, .cells ap.enc))] trivial ⟨⟨rfl, leA⟩, ⟨rfl, LLe.refl _⟩, trivial⟩ ?_
   refine ag [0, 11, 12, 13, 14, 15, 16, 1, 4, 6, 8] [77, 78, 79, 68, 70, 72] ?_
   exact K _ _ _ _ _ _ _ _ _
  ·by_cases a5 : (k.toNat : Int) = 5
   ·refine aG (b := suf 5 a6.body) ?_
    refine wd1 ?_
    repeat' (first | refine ab ?_ | refine ox ?_ | (refine aa ?_ ?_ <;> intro h))
    refine aG (b := suf 6 a6.body) ?_
    refine wd1 ?_
    repeat' (first | refine ab ?_ | refine ox ?_ | (refine aa ?_ ?_ <;> intro h))
    refine aG (b := suf 7 a6.body) ?_
    refine wd1 ?_
    repeat' (first | refine ab ?_ | refine ox ?_ | (refine aa ?_ ?_ <;> intro h))
    refine aG (b := suf 8 a6.body) ?_
    refine wd1 ?_
    repeat' (first | refine ab ?_ | refine ox ?_ | (refine aa ?_ ?_ <;> intro h))
    refine aG (b := suf 9 a6.body) ?_
    refine wd1 ?_
    repeat' (first | refine ab ?_ | refine ox ?_ | (refine aa ?_ ?_ <;> intro h))
    refine aG (b := suf 10 a6.body) ?_
    refine wd1 ?_
    repeat' (first | refine ab ?_ | refine ox ?_ | (refine aa ?_ ?_ <;> intro h))
    refine aG (b := suf 11 a6.body) ?_
    refine wd1 ?_
    repeat' (first | refine ab ?_ | refine ox ?_ | (refine aa ?_ ?_ <;> intro h))
    refine aG (b := suf 12 a6.body) ?_
    refine wd1 ?_
    repeat' (first | refine ab ?_ | refine ox ?_ | (refine aa ?_ ?_ <;> intro h))
    rw [hcut]
    refine bm [] [(78, some (_, .cells (({ ap with kind := (k.toNat : Nat) } : PMsg).enc))), (79, some (_, .cells ap.enc))] trivial ⟨⟨rfl, leA⟩, ⟨rfl, LLe.refl _⟩, trivial⟩ ?_
    refine ag [0, 11, 12, 13, 14, 15, 16, 1, 4, 6, 8] [77, 78, 79, 68, 70, 72] ?_
    exact K _ _ _ _ _ _ _ _ _
   ·refine aG (b := suf 5 a6.body) ?_
    refine wd1 ?_
    repeat' (first | refine ab ?_ | refine ox ?_ | (refine aa ?_ ?_ <;> intro h))
    refine aG (b := suf 6 a6.body) ?_
    refine wd1 ?_
    repeat' (first | refine ab ?_ | refine ox ?_ | (refine aa ?_ ?_ <;> intro h))
    refine aG (b := suf 7 a6.body) ?_
    refine wd1 ?_
    repeat' (first | refine ab ?_ | refine ox ?_ | (refine aa ?_ ?_ <;> intro h))
    refine aG (b := suf 8 a6.body) ?_
    refine wd1 ?_
    repeat' (first | refine ab ?_ | refine ox ?_ | (refine aa ?_ ?_ <;> intro h))
    refine aG (b := suf 9 a6.body) ?_
    refine wd1 ?_
    repeat' (first | refine ab ?_ | refine ox ?_ | (refine aa ?_ ?_ <;> intro h))
    refine aG (b := suf 10 a6.body) ?_
    refine wd1 ?_
    repeat' (first | refine ab ?_ | refine ox ?_ | (refine aa ?_ ?_ <;> intro h))
    refine aG (b := suf 11 a6.body) ?_
    refine wd1 ?_
    repeat' (first | refine ab ?_ | refine ox ?_ | (refine aa ?_ ?_ <;> intro h))
    refine aG (b := suf 12 a6.body) ?_
    refine wd1 ?_
    repeat' (first | refine ab ?_ | refine ox ?_ | (refine aa ?_ ?_ <;> intro h))
    rw [hcut]
    refine bm [] [(78, some (_, .cells (({ ap with kind := (k.toNat : Nat) } : PMsg).enc))), (79, some (_, .cells ap.enc))] trivial ⟨⟨rfl, leA⟩, ⟨rfl, LLe.refl _⟩, trivial⟩ ?_
    refine ag [0, 11, 12, 13, 14, 15, 16, 1, 4, 6, 8] [77, 78, 79, 68, 70, 72] ?_
    exact K _ _ _ _ _ _ _ _ _
 ·have a4 : ¬ (k.toNat : Int) = 4 := by
   intro h
   simp [h, a2] at qb
  have a5 : ¬ (k.toNat : Int) = 5 := by
   intro h
   simp [h, a2] at qb
  refine aG (b := suf 5 a6.body) ?_
  refine wd1 ?_
  repeat' (first | refine ab ?_ | refine ox ?_ | (refine aa ?_ ?_ <;> intro h))
  refine aG (b := suf 6 a6.body) ?_
  refine wd1 ?_
  repeat' (first | refine ab ?_ | refine ox ?_ | (refine aa ?_ ?_ <;> intro h))
  refine aG (b := suf 7 a6.body) ?_
  refine wd1 ?_
  repeat' (first | refine ab ?_ | refine ox ?_ | (refine aa ?_ ?_ <;> intro h))
  refine aG (b := suf 8 a6.body) ?_
  refine wd1 ?_
  repeat' (first | refine ab ?_ | refine ox ?_ | (refine aa ?_ ?_ <;> intro h))
  refine aG (b := suf 9 a6.body) ?_
  refine wd1 ?_
  repeat' (first | refine ab ?_ | refine ox ?_ | (refine aa ?_ ?_ <;> intro h))
  refine aG (b := suf 10 a6.body) ?_
  refine wd1 ?_
  repeat' (first | refine ab ?_ | refine ox ?_ | (refine aa ?_ ?_ <;> intro h))
  refine aG (b := suf 11 a6.body) ?_
  refine wd1 ?_
  repeat' (first | refine ab ?_ | refine ox ?_ | (refine aa ?_ ?_ <;> intro h))
  refine aG (b := suf 12 a6.body) ?_
  refine wd1 ?_
  repeat' (first | refine ab ?_ | refine ox ?_ | (refine aa ?_ ?_ <;> intro h))
  rw [hcut]
  refine bm [] [(78, some (_, .cells (({ ap with kind := (k.toNat : Nat) } : PMsg).enc))), (79, some (_, .cells ap.enc))] trivial ⟨⟨rfl, leA⟩, ⟨rfl, LLe.refl _⟩, trivial⟩ ?_
  refine ag [0, 11, 12, 13, 14, 15, 16, 1, 4, 6, 8] [77, 78, 79, 68, 70, 72] ?_
  exact K _ _ _ _ _ _ _ _ _
end Go.AM.IR
namespace Go.AM.IR
theorem l4 (m f : PMsg) (e : Int) (n : Nat) (g1 g2 g3 s9 py : Nat) (T : List (Nat × AV)) (H : aq) (c : Nat) : Ev G ⟨[.code (suf 13 a6.body)], ⟨(11, .int .i64 (n : Nat)) :: (14, .ref 78 s9 0) :: (15, .ref 79 py 0) :: (16, .int .i64 e) :: (4, .ref 68 g1 0) :: (6, .ref 70 g2 0) :: (8, .ref 72 g3 0) :: T, (78, some (s9, .cells m.enc)) :: (79, some (py, .cells f.enc)) :: (68, some (g1, .cells ap.enc)) :: (70, some (g2, .cells ap.enc)) :: (72, some (g3, .cells ap.enc)) :: H, c⟩, [.cell 4 (some 27), .t 5, .cell 6 (some 27), .t 7], 0⟩ (kd (lW n (m, f, e))) := by
 unfold lW
 by_cases h : e = 0
 ·subst h
  rw [if_pos rfl]
  refine wk3 ?_
  repeat' (first | refine ab ?_ | (refine aa ?_ ?_ <;> intro h))
  refine ax ?_
  repeat ((conv => whnf); refine frB ?_)
  rfl
 ·rw [if_neg h]
  refine wk3 ?_
  repeat' (first | refine ab ?_ | (refine aa ?_ ?_ <;> intro h))
  refine ax ?_
  repeat ((conv => whnf); refine frB ?_)
  rfl
theorem asF (d : List UInt8) (hd40 : d.length < 2 ^ 38) (wide : Bool) (x y : UInt8) (n : Nat) (m f : PMsg) (e : Int) (h : ah G 362 [.sl 1 (byteCells d)] [] ⟨.tup [.agg m.enc, .agg f.enc, .int .i64 e], []⟩) (t : Ret) (K : ∀ (g1 g2 g3 s9 py : Nat) (T : List (Nat × AV)) (H : aq) (c : Nat), Ev G ⟨[.code (suf 13 a6.body)], ⟨(11, .int .i64 (n : Nat)) :: (14, .ref 78 s9 0) :: (15, .ref 79 py 0) :: (16, .int .i64 e) :: (4, .ref 68 g1 0) :: (6, .ref 70 g2 0) :: (8, .ref 72 g3 0) :: T, (78, some (s9, .cells m.enc)) :: (79, some (py, .cells f.enc)) :: (68, some (g1, .cells ap.enc)) :: (70, some (g2, .cells ap.enc)) :: (72, some (g3, .cells ap.enc)) :: H, c⟩, [.cell 4 (some 27), .t 5, .cell 6 (some 27), .t 7], 0⟩ t) (g1 g2 g3 g4 s9 py : Nat) (T : List (Nat × AV)) (H : aq) (c : Nat) : Ev G ⟨[.code (suf 12 a6.body)], ⟨(0, .sl 1 (byteCells d)) :: (11, .int .i64 (n : Nat)) :: (12, .int .i64 1) :: (13, .ref 77 g4 0) :: (14, .ref 78 s9 0) :: (15, .ref 79 py 0) :: (16, .int .i64 0) :: (1, .bool wide) :: (4, .ref 68 g1 0) :: (6, .ref 70 g2 0) :: (8, .ref 72 g3 0) :: T, (77, some (g4, .cells (bc 1 2 [x, y]).enc)) :: (78, some (s9, .cells ({ ap with kind := 1 } : PMsg).enc)) :: (79, some (py, .cells ap.enc)) :: (68, some (g1, .cells ap.enc)) :: (70, some (g2, .cells ap.enc)) :: (72, some (g3, .cells ap.enc)) :: H, c⟩, [.cell 4 (some 27), .t 5, .cell 6 (some 27), .t 7], 0⟩ t := by
 refine aG (b := suf 13 a6.body) ?_
 refine wd1 ?_
 repeat' (first | refine ab ?_ | (refine aa ?_ ?_ <;> intro h))
 refine ag [11, 14, 15, 16, 4, 6, 8] [78, 79, 68, 70, 72] ?_
 exact K _ _ _ _ _ _ _ _
theorem asE (d : List UInt8) (hd40 : d.length < 2 ^ 38) (wide : Bool) (x y : UInt8) (n : Nat) (m f : PMsg) (e : Int) (h : ah G 363 [.sl 1 (byteCells d), .bool wide] [] ⟨.tup [.agg m.enc, .agg f.enc, .int .i64 e], []⟩) (t : Ret) (K : ∀ (g1 g2 g3 s9 py : Nat) (T : List (Nat × AV)) (H : aq) (c : Nat), Ev G ⟨[.code (suf 13 a6.body)], ⟨(11, .int .i64 (n : Nat)) :: (14, .ref 78 s9 0) :: (15, .ref 79 py 0) :: (16, .int .i64 e) :: (4, .ref 68 g1 0) :: (6, .ref 70 g2 0) :: (8, .ref 72 g3 0) :: T, (78, some (s9, .cells m.enc)) :: (79, some (py, .cells f.enc)) :: (68, some (g1, .cells ap.enc)) :: (70, some (g2, .cells ap.enc)) :: (72, some (g3, .cells ap.enc)) :: H, c⟩, [.cell 4 (some 27), .t 5, .cell 6 (some 27), .t 7], 0⟩ t) (g1 g2 g3 g4 s9 py : Nat) (T : List (Nat × AV)) (H : aq) (c : Nat) : Ev G ⟨[.code (suf 12 a6.body)], ⟨(0, .sl 1 (byteCells d)) :: (11, .int .i64 (n : Nat)) :: (12, .int .i64 2) :: (13, .ref 77 g4 0) :: (14, .ref 78 s9 0) :: (15, .ref 79 py 0) :: (16, .int .i64 0) :: (1, .bool wide) :: (4, .ref 68 g1 0) :: (6, .ref 70 g2 0) :: (8, .ref 72 g3 0) :: T, (77, some (g4, .cells (bc 1 2 [x, y]).enc)) :: (78, some (s9, .cells ({ ap with kind := 2 } : PMsg).enc)) :: (79, some (py, .cells ap.enc)) :: (68, some (g1, .cells ap.enc)) :: (70, some (g2, .cells ap.enc)) :: (72, some (g3, .cells ap.enc)) :: H, c⟩, [.cell 4 (some 27), .t 5, .cell 6 (some 27), .t 7], 0⟩ t := by
 refine aG (b := suf 13 a6.body) ?_
 refine wd1 ?_
 repeat' (first | refine ab ?_ | (refine aa ?_ ?_ <;> intro h))
 refine ag [11, 14, 15, 16, 4, 6, 8] [78, 79, 68, 70, 72] ?_
 exact K _ _ _ _ _ _ _ _
theorem asC (d : List UInt8) (hd40 : d.length < 2 ^ 38) (wide : Bool) (x y : UInt8) (n : Nat) (t : Ret) (K : ∀ (g1 g2 g3 s9 py : Nat) (T : List (Nat × AV)) (H : aq) (c : Nat), Ev G ⟨[.code (suf 13 a6.body)], ⟨(11, .int .i64 (n : Nat)) :: (14, .ref 78 s9 0) :: (15, .ref 79 py 0) :: (16, .int .i64 0) :: (4, .ref 68 g1 0) :: (6, .ref 70 g2 0) :: (8, .ref 72 g3 0) :: T, (78, some (s9, .cells ({ ap with kind := 4 } : PMsg).enc)) :: (79, some (py, .cells ap.enc)) :: (68, some (g1, .cells ap.enc)) :: (70, some (g2, .cells ap.enc)) :: (72, some (g3, .cells ap.enc)) :: H, c⟩, [.cell 4 (some 27), .t 5, .cell 6 (some 27), .t 7], 0⟩ t) (g1 g2 g3 g4 s9 py : Nat) (T : List (Nat × AV)) (H : aq) (c : Nat) : Ev G ⟨[.code (suf 12 a6.body)], ⟨(0, .sl 1 (byteCells d)) :: (11, .int .i64 (n : Nat)) :: (12, .int .i64 4) :: (13, .ref 77 g4 0) :: (14, .ref 78 s9 0) :: (15, .ref 79 py 0) :: (16, .int .i64 0) :: (1, .bool wide) :: (4, .ref 68 g1 0) :: (6, .ref 70 g2 0) :: (8, .ref 72 g3 0) :: T, (77, some (g4, .cells (bc 1 2 [x, y]).enc)) :: (78, some (s9, .cells ({ ap with kind := 4 } : PMsg).enc)) :: (79, some (py, .cells ap.enc)) :: (68, some (g1, .cells ap.enc)) :: (70, some (g2, .cells ap.enc)) :: (72, some (g3, .cells ap.enc)) :: H, c⟩, [.cell 4 (some 27), .t 5, .cell 6 (some 27), .t 7], 0⟩ t := by
 refine aG (b := suf 13 a6.body) ?_
 refine wd1 ?_
 repeat' (first | refine ab ?_ | (refine aa ?_ ?_ <;> intro h))
 refine ag [11, 14, 15, 16, 4, 6, 8] [78, 79, 68, 70, 72] ?_
 exact K _ _ _ _ _ _ _ _
theorem atd {k : List UInt8 → List Nat → Prop} {hp : aq} {es : List (List AV)} {l : List UInt8} (e : es = byteCells l) (h : k l []) : B2s hp (.sl 1 es) k := by subst e; exact zBs h
theorem awZ {a b : AV} (h : a = b) : LeP Any a b := h ▸ LeP.refl _
theorem asD (d : List UInt8) (hd40 : d.length < 2 ^ 38) (wide : Bool) (x y : UInt8) (n : Nat) (c0 s0 : UInt8) (r : List UInt8) (hc0 : (byteCells d)[19]? = some [.int .u8 c0.toNat]) (hs0 : (byteCells d)[20]? = some [.int .u8 s0.toNat]) (hr : d.drop 21 = r) (h21 : 21 ≤ d.length) (e : Int) (hc : ah G 148 [.agg (bc (c0.toNat : Nat) (s0.toNat : Nat) r).enc] [] ⟨.int .i64 e, []⟩) (t : Ret) (K : ∀ (g1 g2 g3 s9 py : Nat) (T : List (Nat × AV)) (H : aq) (c : Nat), Ev G ⟨[.code (suf 13 a6.body)], ⟨(11, .int .i64 (n : Nat)) :: (14, .ref 78 s9 0) :: (15, .ref 79 py 0) :: (16, .int .i64 e) :: (4, .ref 68 g1 0) :: (6, .ref 70 g2 0) :: (8, .ref 72 g3 0) :: T, (78, some (s9, .cells (bc (c0.toNat : Nat) (s0.toNat : Nat) r).enc)) :: (79, some (py, .cells (bc 1 2 [x, y]).enc)) :: (68, some (g1, .cells ap.enc)) :: (70, some (g2, .cells ap.enc)) :: (72, some (g3, .cells ap.enc)) :: H, c⟩, [.cell 4 (some 27), .t 5, .cell 6 (some 27), .t 7], 0⟩ t) (g1 g2 g3 g4 s9 py : Nat) (T : List (Nat × AV)) (H : aq) (c : Nat) : Ev G ⟨[.code (suf 12 a6.body)], ⟨(0, .sl 1 (byteCells d)) :: (11, .int .i64 (n : Nat)) :: (12, .int .i64 3) :: (13, .ref 77 g4 0) :: (14, .ref 78 s9 0) :: (15, .ref 79 py 0) :: (16, .int .i64 0) :: (1, .bool wide) :: (4, .ref 68 g1 0) :: (6, .ref 70 g2 0) :: (8, .ref 72 g3 0) :: T, (77, some (g4, .cells (bc 1 2 [x, y]).enc)) :: (78, some (s9, .cells ({ ap with kind := 3 } : PMsg).enc)) :: (79, some (py, .cells ap.enc)) :: (68, some (g1, .cells ap.enc)) :: (70, some (g2, .cells ap.enc)) :: (72, some (g3, .cells ap.enc)) :: H, c⟩, [.cell 4 (some 27), .t 5, .cell 6 (some 27), .t 7], 0⟩ t := by
 have hdl := au d
 have h08 := c0.toNat_lt
 have hs8 := s0.toNat_lt
 have hcut : List.take ((byteCells d).length - Int.toNat 21) (List.drop (Int.toNat 21) (byteCells d)) = byteCells r := by
  rw [List.take_of_length_le (by rw [List.length_drop]; exact Nat.le_refl _), ← hr]; simp [byteCells]
 have hc2 : ah G 148 [.agg ((bc (c0.toNat : Nat) (s0.toNat : Nat) r).enc.set 26 (.sl 1 ([] ++ List.take ((byteCells d).length - Int.toNat 21) (List.drop (Int.toNat 21) (byteCells d)))))] [] ⟨.int .i64 e, []⟩ := by
  rw [List.nil_append, hcut]; exact hc
 refine aG (b := suf 13 a6.body) ?_
 refine wd1 ?_
 repeat' (first | refine ab ?_ | refine kZ [(184, _, _)] ⟨rfl, pz trivial⟩ (hc2) ?_ | refine ox ?_ | (refine aa ?_ ?_ <;> intro h))
 refine d8 [(184, _, _)] [11, 14, 15, 16, 4, 6, 8] [78, 79, 68, 70, 72] ⟨rfl, frP, trivial⟩ ?_; repeat ((conv => whnf); first | refine frA ?_ | intro T H)
 refine bm [] [(78, some (_, .cells (bc (c0.toNat : Nat) (s0.toNat : Nat) r).enc))] trivial ⟨⟨rfl, .refl _, .refl _, .refl _, .refl _, .refl _, .refl _, .refl _, .refl _, .refl _, .refl _, .refl _, .refl _, .refl _, .refl _, .refl _, .refl _, .refl _, .refl _, .refl _, .refl _, .refl _, .refl _, .refl _, .refl _, .refl _, .refl _, awZ (by rw [List.nil_append, hcut]; rfl), trivial⟩, trivial⟩ ?_
 refine ag [11, 14, 15, 16, 4, 6, 8] [78, 79, 68, 70, 72] ?_
 exact K _ _ _ _ _ _ _ _
theorem asA (d : List UInt8) (hd40 : d.length < 2 ^ 38) (wide : Bool) (x y : UInt8) (n : Nat) (h19 : 19 ≤ d.length) (t : Ret) (K : ∀ (g1 g2 g3 s9 py : Nat) (T : List (Nat × AV)) (H : aq) (c : Nat), Ev G ⟨[.code (suf 13 a6.body)], ⟨(11, .int .i64 (n : Nat)) :: (14, .ref 78 s9 0) :: (15, .ref 79 py 0) :: (16, .int .i64 (if d.drop 19 = [0, 1, 0, 1] then 0 else 2)) :: (4, .ref 68 g1 0) :: (6, .ref 70 g2 0) :: (8, .ref 72 g3 0) :: T, (78, some (s9, .cells ({ ap with kind := 5 } : PMsg).enc)) :: (79, some (py, .cells (bc 1 2 [x, y]).enc)) :: (68, some (g1, .cells ap.enc)) :: (70, some (g2, .cells ap.enc)) :: (72, some (g3, .cells ap.enc)) :: H, c⟩, [.cell 4 (some 27), .t 5, .cell 6 (some 27), .t 7], 0⟩ t) (g1 g2 g3 g4 s9 py : Nat) (T : List (Nat × AV)) (H : aq) (c : Nat) : Ev G ⟨[.code (suf 12 a6.body)], ⟨(0, .sl 1 (byteCells d)) :: (11, .int .i64 (n : Nat)) :: (12, .int .i64 5) :: (13, .ref 77 g4 0) :: (14, .ref 78 s9 0) :: (15, .ref 79 py 0) :: (16, .int .i64 0) :: (1, .bool wide) :: (4, .ref 68 g1 0) :: (6, .ref 70 g2 0) :: (8, .ref 72 g3 0) :: T, (77, some (g4, .cells (bc 1 2 [x, y]).enc)) :: (78, some (s9, .cells ({ ap with kind := 5 } : PMsg).enc)) :: (79, some (py, .cells ap.enc)) :: (68, some (g1, .cells ap.enc)) :: (70, some (g2, .cells ap.enc)) :: (72, some (g3, .cells ap.enc)) :: H, c⟩, [.cell 4 (some 27), .t 5, .cell 6 (some 27), .t 7], 0⟩ t := by
 have hdl := au d
 have hcut : List.take ((byteCells d).length - Int.toNat 19) (List.drop (Int.toNat 19) (byteCells d)) = byteCells (d.drop 19) := by
  rw [List.take_of_length_le (by rw [List.length_drop]; exact Nat.le_refl _)]; simp [byteCells]
 by_cases h : d.drop 19 = [0, 1, 0, 1]
 ·rw [if_pos h] at K
  rw [h] at hcut
  refine aG (b := suf 13 a6.body) ?_
  refine wd1 ?_
  repeat' (first | refine ab ?_ | refine ox ?_ | refine atd hcut ?_ | refine zBv (l := [0, 1, 0, 1]) rfl rfl ?_ | (refine aa ?_ ?_ <;> intro h))
  refine ag [11, 14, 15, 16, 4, 6, 8] [78, 79, 68, 70, 72] ?_
  exact K _ _ _ _ _ _ _ _
 ·rw [if_neg h] at K
  have hs : (d.drop 19 == [0, 1, 0, 1]) = false := by simpa using h
  have hs2 : (d.drop 19 != [0, 1, 0, 1]) = true := by simpa using h
  refine aG (b := suf 13 a6.body) ?_
  refine wd1 ?_
  repeat' (first | refine ab ?_ | refine ox ?_ | refine atd hcut ?_ | refine zBv (l := [0, 1, 0, 1]) rfl rfl ?_ | (refine aa ?_ ?_ <;> intro h))
  refine ag [11, 14, 15, 16, 4, 6, 8] [78, 79, 68, 70, 72] ?_
  exact K _ _ _ _ _ _ _ _
end Go.AM.IR
namespace Go.AM.IR
theorem s4 {m x f : PMsg} (h : qg m = (x, f, 0)) : x = m ∧ bh m = 0 ∧ f = ap := by
 unfold qg at h
 split at h
 ·rename_i q
  injection h with h1 h2
  injection h2 with h2 h3
  exact ⟨h1.symm, q, h2.symm⟩
 ·rename_i q
  injection h with h1 h2
  injection h2 with h2 h3
  exact absurd h3 q
theorem f5 {m x f y : PMsg} {e : Int} (h : (m, f, e) = (x, y, (0 : Int))) (he : e ≠ 0) : False := by
 injection h with h1 h2
 injection h2 with h2 h3
 exact he h3
structure RB (b : List UInt8) (wide : Bool) (m : PMsg) : Prop where
 body : bv m wide = b
 ok : bh m = 0
 bad : ¬ jZ m wide
theorem asL {b : List UInt8} {wide : Bool} {m f : PMsg} (hb : b.length ≤ 5000) (h : Bg wide b = (m, f, 0)) : m.kind = 2 ∧ f = ap ∧ RB b wide m := by
 unfold Bg at h
 split at h
 ·exact (f5 h (by decide)).elim
 ·rename_i h1
  generalize hn0 : rd (b.take 2) = n0 at *
  have hb2 : 2 ≤ b.length := by omega
  have e0 : be 2 n0 = b.take 2 := by rw [← hn0, OA (by simp; omega)]
  have s0 : b.take 2 ++ b.drop 2 = b := List.take_append_drop _ _
  generalize hr2 : b.drop 2 = r at *
  have hrl : r.length = b.length - 2 := by rw [← hr2]; simp
  have hgl : (r.take n0).length = n0 := by simp; omega
  unfold JO at h
  split at h
  ·exact (f5 h (by decide)).elim
  ·rename_i h2
   generalize hn1 : rd ((r.drop n0).take 2) = n1 at *
   have e1 : be 2 n1 = (r.drop n0).take 2 := by rw [← hn1, OA (by simp; omega)]
   have s1 : (r.drop n0).take 2 ++ r.drop (n0 + 2) = r.drop n0 := by rw [← List.drop_drop, List.take_append_drop]
   generalize hr3 : r.drop (n0 + 2) = t at *
   have hal : (t.take n1).length = n1 := by simp; omega
   have htl : t.length ≤ 5000 := by rw [← hr3]; simp; omega
   cases hw : unP (r.take n0).length (r.take n0) with
   | none => rw [hw] at h; unfold JP at h; exact (f5 h (by decide)).elim
   | some w =>
    cases hx : unP (t.drop n1).length (t.drop n1) with
    | none => rw [hw, hx] at h; unfold JP at h; exact (f5 h (by decide)).elim
    | some x =>
     rw [hw, hx] at h
     obtain ⟨rL, _⟩ := sj _ _ _ hw
     obtain ⟨px, _⟩ := sj _ _ _ hx
     have asm : ∀ m : PMsg, m.kind = 2 → m.withdrawn = w → m.reach = x → bA m wide = t.take n1 → bv m wide = b := by
      intro m hk hmw hmx hat
      unfold bv
      rw [if_neg (by omega), if_pos hk]
      unfold cg
      rw [hat, hmw, hmx, rL, px, hgl, hal, e0, e1, List.take_append_drop, s1, List.take_append_drop, s0]
     unfold JP at h
     simp only at h
     unfold xN at h
     split at h
     ·rename_i hz
      obtain ⟨rfl, hc, hf⟩ := s4 h
      exact ⟨rfl, hf, asm _ rfl rfl rfl (by rw [hz.1]; exact if_pos hz.2), hc, fun q => q.2.1 hz.2⟩
     ·rename_i hz
      obtain ⟨_, _, da⟩ := auD (b := t.take n1) (wide := wide) (by simp; omega) (e := (jV (wd wide) (t.take n1)).1) (A := (jV (wd wide) (t.take n1)).2) rfl
      split at h
      ·exact (f5 h (by decide)).elim
      ·split at h
       ·rename_i q; exact (f5 h q).elim
       ·rename_i q
        have q : (jV (wd wide) (t.take n1)).1 = 0 := by simpa using q
        split at h
        ·exact (f5 h (by decide)).elim
        ·rename_i hxn
         obtain ⟨rfl, hc, hf⟩ := s4 h
         obtain ⟨d1, d2, d3⟩ := da q
         exact ⟨rfl, hf, asm _ rfl rfl rfl (by refine Eq.trans (if_neg hxn) ?_; exact d2), hc, fun q => by have := q.2.2; rw [show (bb w x (jV (wd wide) (t.take n1)).2).attrs = (jV (wd wide) (t.take n1)).2 from rfl, d3] at this; cases this⟩
end Go.AM.IR
namespace Go.AM.IR
theorem asP {wide : Bool} {k : Int} {hd b : List UInt8} {m f : PMsg} (hk : 1 ≤ k ∧ k ≤ 5) (hbl : ef k (19 + b.length : Nat) = false) (hb : b.length ≤ 4981) (h : JX wide k hd b = (m, f, 0)) : m.kind = k ∧ RB b wide m := by
 unfold ef at hbl
 rw [decide_eq_false_iff_not] at hbl
 unfold JX at h
 by_cases h1 : k = 1
 ·rw [if_pos h1] at h
  obtain ⟨q1, q2, q3, _⟩ := asN (by omega) h
  exact ⟨by omega, by unfold bv; rw [if_pos q1]; exact q3, q2, fun q => by have := q.1; omega⟩
 ·by_cases h2 : k = 2
  ·rw [if_neg h1, if_pos h2] at h
   obtain ⟨q1, _, q2⟩ := asL (by omega) h
   exact ⟨by omega, q2⟩
  ·by_cases h3 : k = 3
   ·rw [if_neg h1, if_neg h2, if_pos h3] at h
    split at h
    ·rename_i hc
     injection h with e1 e2
     subst e1
     have hk3 : (nA b).kind = 3 := rfl
     have hlen : 2 ≤ b.length := by omega
     refine ⟨by omega, ?_, hc, fun q => by have := q.1; omega⟩
     have eb : bv (nA b) wide = eU (nA b) := by unfold bv; rw [if_neg (by omega), if_neg (by omega), if_pos hk3]
     rw [eb]
     obtain ⟨x, y, t, rfl⟩ : ∃ x y t, b = x :: y :: t := by
      cases b with
      | nil => simp at hlen
      | cons x b => cases b with
       | nil => simp at hlen
       | cons y t => exact ⟨x, y, t, rfl⟩
     simp [eU, nA, bc, rd]
    ·rename_i hc; exact (f5 h hc).elim
   ·rw [if_neg h1, if_neg h2, if_neg h3] at h
    split at h
    ·exact (f5 h (by decide)).elim
    ·rename_i h5
     injection h with e1 e2
     subst e1
     have hz : bv { ap with kind := k } wide = if k = 5 then [0, 1, 0, 1] else [] := by unfold bv; simp only; rw [if_neg h1, if_neg h2, if_neg h3]
     refine ⟨rfl, ?_, ?_, fun q => h2 q.1⟩
     ·rw [hz]
      by_cases q5 : k = 5
      ·rw [if_pos q5]
       by_cases qb : b = [0, 1, 0, 1]
       ·exact qb.symm
       ·exact absurd ⟨q5, qb⟩ h5
      ·rw [if_neg q5]
       have : b.length = 0 := by omega
       exact (List.length_eq_zero_iff.1 this).symm
     ·unfold bh
      rw [if_neg (by simp only; omega), if_neg (by simp [eE, unO, unU, unN, ap])]
      simp only
      rw [if_neg h1, if_neg h2, if_neg h3]
theorem asl {n : Int} {r : PMsg × PMsg × Int} {m f : PMsg} {k : Int} (h : lW n r = (m, k, f, 0)) : r = (m, r.2.1, 0) ∧ k = n ∧ f = ap := by
 obtain ⟨a, b, c⟩ := r
 unfold lW at h
 simp only at h
 split at h
 ·rename_i q
  injection h with h1 h2; injection h2 with h2 h3; injection h3 with h3 h4
  simp only at q ⊢
  exact ⟨by rw [h1, q], h2.symm, h3.symm⟩
 ·rename_i q
  injection h with h1 h2; injection h2 with h2 h3; injection h3 with h3 h4
  exact absurd h4 q
theorem L4 {m x f y : PMsg} {e n k : Int} (h : (m, n, f, e) = (x, k, y, (0 : Int))) (he : e ≠ 0) : False := by
 injection h with h1 h2
 injection h2 with h2 h3
 injection h3 with h3 h4
 exact he h4
theorem asO {wide : Bool} {b : List UInt8} {m f : PMsg} {n : Int} (hb : b.length ≤ 5000) (h : JW wide b = (m, n, f, 0)) : bR m wide = 0 ∧ n = nC b ∧ nC b ≤ b.length ∧ fD m wide = b.take (nC b) ∧ f = ap := by
 unfold JW at h
 split at h
 ·exact (L4 h (by decide)).elim
 ·rename_i h19
  split at h
  ·exact (L4 h (by decide)).elim
  ·rename_i hff
   split at h
   ·exact (L4 h (by decide)).elim
   ·rename_i hn19
    split at h
    ·exact (L4 h (by decide)).elim
    ·rename_i hk
     split at h
     ·exact (L4 h (by decide)).elim
     ·rename_i hbl
      split at h
      ·exact (L4 h (by decide)).elim
      ·rename_i hln
       obtain ⟨hd, rfl, hf⟩ := asl h
       have hlb : ((b.take (nC b)).drop 19).length = nC b - 19 := by simp; omega
       have hbl : ef (mp b) (nC b) = false := by simpa using hbl
       obtain ⟨q1, q2⟩ := asP (b := (b.take (nC b)).drop 19) (by omega) (by rw [hlb, show ((19 + (nC b - 19) : Nat) : Int) = (nC b : Int) by omega]; exact hbl) (by omega) hd
       refine ⟨d6 q2.ok q2.bad (by rw [q2.body, hlb]; omega), rfl, by omega, ?_, hf⟩
       unfold fD
       rw [q2.body, hlb, q1, show 19 + (nC b - 19) = nC b by omega, Int.toNat_natCast]
       unfold dl
       have e2 : be 2 (nC b) = (b.drop 16).take 2 := by unfold nC; rw [OA (by simp; omega)]
       have e3 : [UInt8.ofNat (mp b)] = (b.drop 18).take 1 := by
        have : be 1 (mp b) = (b.drop 18).take 1 := by unfold mp; rw [OA (by simp; omega)]
        rw [← this]; simp [be]
       have e1 : List.replicate 16 255 = b.take 16 := by
        symm
        rw [List.eq_replicate_iff]
        refine ⟨by simp; omega, fun c hc => ?_⟩
        have hff : (b.take 16).any (fun c => c != 255) = false := by simpa using hff
        rw [List.any_eq_false] at hff
        have := hff c hc
        simpa using this
       rw [e1, e2, e3]
       have s1 : (b.drop 16).take 2 ++ (b.drop 18).take 1 = (b.drop 16).take 3 := by
        rw [show b.drop 18 = (b.drop 16).drop 2 by rw [List.drop_drop], show 3 = 2 + 1 from rfl, List.take_add]
       have s2 : b.take 16 ++ (b.drop 16).take 3 = b.take 19 := by rw [show 19 = 16 + 3 from rfl, List.take_add]
       rw [s1, s2]
       have s3 : b.take 19 = (b.take (nC b)).take 19 := by rw [List.take_take, Nat.min_eq_left (by omega)]
       rw [s3, List.take_append_drop]
def IsNote (f : PMsg) : Prop := ∃ c s d, f = bc c s d ∧ (1 ≤ c ∧ c ≤ 6) ∧ (0 ≤ s ∧ s ≤ 255) ∧ d.length ≤ 2
theorem IsNote.mk {c s : Int} {d : List UInt8} (hc : 1 ≤ c ∧ c ≤ 6 := by decide) (hs : 0 ≤ s ∧ s ≤ 255 := by decide) (hd : d.length ≤ 2 := by first | decide | (simp; omega)) : IsNote (bc c s d) := ⟨c, s, d, rfl, hc, hs, hd⟩
def LM (r : PMsg × PMsg × Int) : Prop := r.2.2 ≠ 0 → IsNote r.2.1
theorem ata (m : PMsg) : LM (JY m) := by
 unfold JY
 split
 ·intro h; exact absurd rfl h
 ·intro _; refine IsNote.mk (hs := ?_); unfold ZE; repeat' split <;> omega
theorem as2 (b : List UInt8) : LM (Bh b) := by
 unfold Bh
 split
 ·intro _; exact IsNote.mk
 ·cases xO (b.drop 9) with
  | none => intro _; exact IsNote.mk
  | some l =>
   unfold JU
   simp only
   split
   ·intro _; exact IsNote.mk
   ·exact ata _
theorem aq6 (m : PMsg) : LM (qg m) := by
 unfold qg
 split
 ·intro h; exact absurd rfl h
 ·intro _; exact IsNote.mk
theorem as0 (wide : Bool) (b : List UInt8) : LM (Bg wide b) := by
 unfold Bg
 split
 ·intro _; exact IsNote.mk
 ·unfold JO
  split
  ·intro _; exact IsNote.mk
  ·unfold JP
   split
   ·unfold xN
    split
    ·exact aq6 _
    ·split
     ·intro _; exact IsNote.mk
     ·split
      ·intro _; exact IsNote.mk
      ·split
       ·intro _; exact IsNote.mk
       ·exact aq6 _
   ·intro _; exact IsNote.mk
theorem as6 (wide : Bool) (k : Int) (hd b : List UInt8) (h : hd.length ≤ 2) : LM (JX wide k hd b) := by
 unfold JX
 split
 ·exact as2 b
 ·split
  ·exact as0 wide b
  ·split
   ·split
    ·intro h; exact absurd rfl h
    ·intro _; exact IsNote.mk (hd := h)
   ·split
    ·intro _; exact IsNote.mk (hd := h)
    ·intro h; exact absurd rfl h
def ar9 (r : PMsg × Int × PMsg × Int) : Prop := (r.2.2.1 = ap ∧ (r.2.2.2 = 0 ∨ r.2.2.2 = 3)) ∨ (r.2.2.2 ≠ 0 ∧ IsNote r.2.2.1)
theorem asi (wide : Bool) (b : List UInt8) : ar9 (JW wide b) := by
 unfold JW
 split
 ·exact .inl ⟨rfl, .inr rfl⟩
 ·split
  ·exact .inr ⟨by simp, IsNote.mk⟩
  ·split
   ·exact .inr ⟨by simp, IsNote.mk⟩
   ·split
    ·exact .inr ⟨by simp, IsNote.mk⟩
    ·split
     ·exact .inr ⟨by simp, IsNote.mk⟩
     ·split
      ·exact .inl ⟨rfl, .inr rfl⟩
      ·have ht := as6 wide (mp b) ((b.drop 16).take 2) ((b.take (nC b)).drop 19) (by simp; omega)
       unfold lW
       split
       ·exact .inl ⟨rfl, .inl rfl⟩
       ·rename_i q; exact .inr ⟨q, ht q⟩
end Go.AM.IR
namespace Go.AM.IR
theorem ofN {n : Nat} (h : n < 256) : ((UInt8.ofNat n).toNat : Int) = n := by rw [show (UInt8.ofNat n).toNat = n by simp; omega]
theorem Br (done : List Cap) (x : Cap) (h1 : 1 ≤ x.code ∧ x.code ≤ 255) : byteCells (bG done) ++ [[.int .u8 x.code], [.int .u8 ((UInt8.ofNat (byteCells x.value).length).toNat : Int)]] ++ byteCells x.value = byteCells (bG (done ++ [x])) := by
 have e1 : ((UInt8.ofNat x.code.toNat).toNat : Int) = x.code := by rw [ofN (by omega)]; omega
 rw [au]
 simp only [bG, List.flatMap_append, List.flatMap_cons, List.flatMap_nil, List.append_nil, byteCells, List.map_append, List.map_cons, e1, List.append_assoc, List.cons_append, List.nil_append]
theorem rU (l : List Cap) (b : List UInt8) (hv : ∀ c ∈ l, (1 ≤ c.code ∧ c.code ≤ 255) ∧ c.value.length ≤ 255) (hcl : (bG l).length ≤ 253) (hb : b.length < 2 ^ 20) (hl : l.length < 2 ^ 40) (ln : Int) (hln : ln = l.length) : ∀ (rest done : List Cap) (g gb m mb : Nat) (es eb : List (List AV)) (T : List (Nat × AV)) (H : aq) (c : Nat) (n : Int) (e : l = done ++ rest) (hn : n = done.length) (hm : m = (bG done).length) (hes : es = byteCells (bG done)) (hmb : mb = b.length) (heb : eb = byteCells b), Ev G ⟨M8, ⟨(28, .sl 2 (l.map Cap.enc)) :: (29, .int .i64 ln) :: (30, .int .i64 n) :: (4, .vs 200 g m) :: (3, .vs 90 gb mb) :: T, (200, some (g, .vec 1 es)) :: (90, some (gb, .vec 1 eb)) :: H, c⟩, [.t 2], 0⟩ (rB (b ++ dK l))
 | [], done, g, gb, m, mb, es, eb, T, H, c, n, e, hn, hm, hes, hmb, heb => by
  have hd : l.length = done.length := by simp [e]
  have hll : (l.map Cap.enc).length = l.length := by simp
  obtain rfl : l = done := by simpa using e
  subst hm hes hmb heb
  unfold dK
  by_cases h0 : bG l = []
  ·have hz : (bG l).length = 0 := by simp [h0]
   rw [if_pos h0]
   refine evl ?_
   repeat' (first | refine ab ?_ | (refine aa ?_ ?_ <;> intro h))
   refine e7 90 ⟨_, _, _, rfl, rfl, (by simp), ?_⟩
   simp [byteCells]
  ·have hz : 0 < (bG l).length := List.length_pos_iff.2 h0
   rw [if_neg h0]
   have e1 : ((UInt8.ofNat ((bG l).length + 2)).toNat : Int) = ((bG l).length + 2 : Nat) := ofN (by omega)
   have e2 : ((UInt8.ofNat (bG l).length).toNat : Int) = ((bG l).length : Nat) := ofN (by omega)
   refine evl ?_
   repeat' (first | refine ab ?_ | (refine aa ?_ ?_ <;> intro h))
   refine e7 90 ⟨_, _, _, rfl, rfl, (by simp; omega), ?_⟩
   simp only [byteCells, List.map_append, List.map_cons, e1, e2, List.append_assoc, List.cons_append, List.nil_append]
   simp
 | x :: r, done, g, gb, m, mb, es, eb, T, H, c, n, e, hn, hm, hes, hmb, heb => by
  have hd : l.length = done.length + (r.length + 1) := by simp [e]
  have hll : (l.map Cap.enc).length = l.length := by simp
  have hx : (l.map Cap.enc)[n.toNat]? = some (Cap.enc x) := by simp [e, hn]
  obtain ⟨h1, h2⟩ := hv x (by simp [e])
  subst hm hes hmb heb
  have hcd : (bG done).length ≤ 253 := by rw [e] at hcl; simp [bG] at hcl ⊢; omega
  refine evl ?_
  repeat' (first | refine ab ?_ | (refine aa ?_ ?_ <;> intro h))
  refine ag [28, 29, 30, 4, 3] [200, 90] ?_; exact rU l b hv hcl hb hl ln hln r (done ++ [x]) _ _ _ _ _ _ _ _ _ (n + 1) (by simp [e]) (by simp [hn] <;> omega) (by simp [bG]; omega) (Br done x h1) rfl rfl
theorem xg (m : PMsg) (h : OpenOk m) (hr : okU m.router) : ah G 196 [.agg m.enc] [] (rB (dx m)) := by
 obtain ⟨c1, c2⟩ := h.caps
 obtain ⟨b1, b2⟩ := h.hold
 obtain ⟨a1, a2⟩ := h.as
 have hver := h.version
 unfold okU at hr
 have hs : 0 ≤ bI m.as ∧ bI m.as ≤ 65535 := by unfold bI; split <;> omega
 have h0 := mZ m.as
 have hp1 := cQ [UInt8.ofNat m.version.toNat] (by simp) 2 (bI m.as).toNat (by omega)
 have hp2 := cQ ([UInt8.ofNat m.version.toNat] ++ be 2 (bI m.as).toNat) (by simp) 2 m.hold.toNat (by omega)
 have hp3 := cQ ([UInt8.ofNat m.version.toNat] ++ be 2 (bI m.as).toNat ++ be 2 m.hold.toNat) (by simp) 4 m.router.toNat (by omega)
 have hcl := gz m.caps
 have hv : ∀ c ∈ m.caps, (1 ≤ c.code ∧ c.code ≤ 255) ∧ c.value.length ≤ 255 := fun c hc => ⟨c1 c hc, by have := nU hc; omega⟩
 have e1 : byteCells [UInt8.ofNat m.version.toNat] = [[.int .u8 m.version]] := by
  have : ((UInt8.ofNat m.version.toNat).toNat : Int) = m.version := by rw [ofN (by omega)]; omega
  simp only [byteCells, List.map_cons, List.map_nil, this]
 rw [e1, show (((bI m.as).toNat : Nat) : Int) = bI m.as by omega] at hp1
 rw [show ((m.hold.toNat : Nat) : Int) = m.hold by omega] at hp2
 rw [show ((m.router.toNat : Nat) : Int) = m.router by omega] at hp3
 have hl : (m.caps.map Cap.enc).length = m.caps.length := by simp
 have hlc : m.caps.length ≤ 253 := by
  have : ∀ l : List Cap, (l.length : Int) ≤ capT l := fun l => by
   induction l with
   | nil => simp [capT]
   | cons c r ih => simp only [capT, List.length_cons]; omega
  have := this m.caps; omega
 have key := rU m.caps ([UInt8.ofNat m.version.toNat] ++ be 2 (bI m.as).toNat ++ be 2 m.hold.toNat ++ be 4 m.router.toNat) hv (by omega) (by simp) (by omega) ((m.caps.map Cap.enc).length : Int) (by simp) m.caps []
 rw [show dx m = [UInt8.ofNat m.version.toNat] ++ be 2 (bI m.as).toNat ++ be 2 m.hold.toNat ++ be 4 m.router.toNat ++ dK m.caps from by simp [dx]]
 generalize bI m.as = sa at *
 refine ae (F := QP) rfl rfl (az 300 _ _ _ _ ?_)
 repeat' (first | refine ab ?_ | refine kX [] [(74, _, _)] trivial ⟨rfl, pz trivial⟩ (hp1) ?_ | refine kX [] [(80, _, _)] trivial ⟨rfl, pz trivial⟩ (hp2) ?_ | refine kX [] [(85, _, _)] trivial ⟨rfl, pz trivial⟩ (hp3) ?_ | (refine aa ?_ ?_ <;> intro h))
 refine cH 200 1 [(4, .vs 200 _ 0)] [] ⟨LeP.nilV _ _ _, trivial⟩ trivial ?_
 refine ag [28, 29, 30, 4, 3] [200, 90] ?_
 exact key _ _ _ _ _ _ _ _ _ 0 rfl rfl rfl rfl rfl rfl
end Go.AM.IR
namespace Go.AM.IR
def OX (m : PMsg) (wide : Bool) : Ret := if m.reach ≠ [] ∧ dU m.attrs wide = true then ⟨.tup [.con (.slice none 0 0), .int .i64 5], []⟩ else if (bi m.withdrawn).length > 65535 ∨ (bA m wide).length > 65535 then ⟨.tup [.con (.slice none 0 0), .int .i64 4], []⟩ else ⟨.tup [.vs 0 0 (cg m wide).length, .int .i64 0], [(false, .vec 1 (byteCells (cg m wide)))]⟩
theorem jh {n n' : Nat} {es es' : List (List AV)} (hn : n = n') (he : es = es') : (⟨.tup [.vs 0 0 n, .int .i64 0], [(false, .vec 1 es)]⟩ : Ret) = ⟨.tup [.vs 0 0 n', .int .i64 0], [(false, .vec 1 es')]⟩ := by subst hn he; rfl
theorem yb (m : PMsg) (h : UpdOk m) (ho : m.ok) (hb : AB m.attrs) (hw : m.withdrawn.length < 2 ^ 30) (hr : m.reach.length < 2 ^ 30) (wide : Bool) : ah G 197 [.agg m.enc, .bool wide] [] (OX m wide) := by
 have h1 := oH m.withdrawn (fun p hp => ⟨ho.withdrawn p hp, h.withdrawn p hp⟩) hw
 have h2 := oH m.reach (fun p hp => ⟨ho.reach p hp, h.reach p hp⟩) hr
 have l1 := ep (l := m.withdrawn) (fun p hp => by have := de (ho.withdrawn p hp) (h.withdrawn p hp); omega)
 have l2 := ep (l := m.reach) (fun p hp => by have := de (ho.reach p hp) (h.reach p hp); omega)
 have hll : (m.reach.map Pfx.enc).length = m.reach.length := by simp
 have hlm : (m.withdrawn.map Pfx.enc).length = m.withdrawn.length := by simp
 unfold OX cg
 by_cases hz : m.reach = []
 ·have hzl : m.reach.length = 0 := by simp [hz]
  have ha : bA m wide = [] := by unfold bA; rw [if_pos hz]
  rw [if_neg (fun q => q.1 hz), ha]
  have hq : bi m.reach = [] := by rw [hz]; rfl
  rw [hq] at h2 ⊢
  generalize bi m.withdrawn = g at *
  by_cases hg : g.length > 65535
  ·rw [if_pos (.inl hg)]
   refine ae (F := pH) rfl rfl (az 300 _ _ _ _ ?_)
   repeat' (first | refine ab ?_ | (refine aa ?_ ?_ <;> intro h))
   refine ax ?_; rfl
  ·rw [if_neg (by simp; omega)]
   have p1 := fw 2 g.length (by omega)
   have p2 := cQ (be 2 g.length ++ g) (by simp; omega) 2 0 (by omega)
   rw [dZ] at p2
   refine ae (F := pH) rfl rfl (az 300 _ _ _ _ ?_)
   repeat' (first | refine ab ?_ | refine kX [] [(104, _, _)] trivial ⟨rfl, pz trivial⟩ (p2) ?_ | (refine aa ?_ ?_ <;> intro h))
   refine dc [(111, _, .vec 1 _)] ⟨⟨rfl, puL, trivial⟩, rfl, rfl, (by simp), ?_⟩
   exact jh (by simp <;> omega) (by simp [byteCells])
 ·have hzl : 0 < m.reach.length := List.length_pos_iff.2 hz
  have hck := h.attrs hz
  have ha : bA m wide = fh m.attrs wide := by unfold bA; rw [if_neg hz]
  have h3 := Au m.attrs wide hb ho.attrs
  unfold sV bV at h3
  rw [if_pos hck] at h3
  rw [ha]
  have l3 := lj (ft hck) wide
  cases hbad : dU m.attrs wide
  ·rw [hbad, if_neg (by simp)] at h3
   rw [if_neg (by simp)]
   generalize fh m.attrs wide = a at *
   generalize bi m.withdrawn = g at *
   generalize bi m.reach = q at *
   by_cases hg : g.length > 65535
   ·rw [if_pos (.inl hg)]
    refine ae (F := pH) rfl rfl (az 300 _ _ _ _ ?_)
    repeat' (first | refine ab ?_ | (refine aa ?_ ?_ <;> intro h))
    refine ax ?_; rfl
   ·by_cases hga : a.length > 65535
    ·rw [if_pos (.inr hga)]
     refine ae (F := pH) rfl rfl (az 300 _ _ _ _ ?_)
     repeat' (first | refine ab ?_ | (refine aa ?_ ?_ <;> intro h))
     refine ax ?_; rfl
    ·rw [if_neg (by omega)]
     have p1 := fw 2 g.length (by omega)
     have p2 := cQ (be 2 g.length ++ g) (by simp; omega) 2 a.length (by omega)
     rw [dZ] at p2
     refine ae (F := pH) rfl rfl (az 300 _ _ _ _ ?_)
     repeat' (first | refine ab ?_ | refine kX [] [(104, _, _)] trivial ⟨rfl, pz trivial⟩ (p2) ?_ | (refine aa ?_ ?_ <;> intro h))
     refine dc [(111, _, .vec 1 _)] ⟨⟨rfl, puL, trivial⟩, rfl, rfl, (by simp), ?_⟩
     exact jh (by simp <;> omega) (by simp [byteCells])
  ·rw [hbad, if_pos rfl] at h3
   rw [if_pos ⟨hz, rfl⟩]
   generalize bi m.withdrawn = g at *
   refine ae (F := pH) rfl rfl (az 300 _ _ _ _ ?_)
   repeat' (first | refine ab ?_ | (refine aa ?_ ?_ <;> intro h))
   refine ax ?_; rfl
end Go.AM.IR
namespace Go.AM.IR
theorem lx (K : Nat) {g n n' : Nat} {es es' : List (List AV)} (hn : n = n') (he : es = es') : (⟨AV.ren (φR [(K, g, .vec 1 es)] 0) (.tup [.vs K g n, .int .i64 0]), [(false, .vec 1 es)]⟩ : Ret) = ⟨.tup [.vs 0 0 n', .int .i64 0], [(false, .vec 1 es')]⟩ := by subst hn he; simp [AV.ren, ch, φR]
def ff (j : Nat) : List UInt8 := List.replicate (16 - j) 255 ++ List.replicate j 0
theorem m9 (j : Nat) (hj : j < 16) : (byteCells (ff (j + 1))).set (16 - (j + 1)) [.int .u8 255] = byteCells (ff j) := by
 have h : j = 0 ∨ j = 1 ∨ j = 2 ∨ j = 3 ∨ j = 4 ∨ j = 5 ∨ j = 6 ∨ j = 7 ∨ j = 8 ∨ j = 9 ∨ j = 10 ∨ j = 11 ∨ j = 12 ∨ j = 13 ∨ j = 14 ∨ j = 15 := by omega
 rcases h with rfl | rfl | rfl | rfl | rfl | rfl | rfl | rfl | rfl | rfl | rfl | rfl | rfl | rfl | rfl | rfl <;> rfl
theorem pF (j : Nat) (hj : j < 16) : (byteCells (ff (j + 1)))[16 - (j + 1)]? = some [.int .u8 0] := by
 have h : j = 0 ∨ j = 1 ∨ j = 2 ∨ j = 3 ∨ j = 4 ∨ j = 5 ∨ j = 6 ∨ j = 7 ∨ j = 8 ∨ j = 9 ∨ j = 10 ∨ j = 11 ∨ j = 12 ∨ j = 13 ∨ j = 14 ∨ j = 15 := by omega
 rcases h with rfl | rfl | rfl | rfl | rfl | rfl | rfl | rfl | rfl | rfl | rfl | rfl | rfl | rfl | rfl | rfl <;> rfl
theorem ky (j : Nat) (hj : j ≤ 16) : (ff j).length = 16 := by simp [ff]; omega
def ka (k : Nat) (b : List UInt8) : Ret := ⟨.tup [.vs 0 0 (dl (19 + b.length) k ++ b).length, .int .i64 0], [(false, .vec 1 (byteCells (dl (19 + b.length) k ++ b)))]⟩
theorem wz (m : PMsg) (hk : 1 ≤ m.kind ∧ m.kind ≤ 5) (b : List UInt8) (hb : b.length ≤ 65516) : ∀ (j : Nat) (T : List (Nat × AV)) (H : aq) (c g gb mb n16 : Nat) (es eb : List (List AV)) (n : Int) (hj : j ≤ 16) (hn : n = 16 - j) (h16 : n16 = 16) (hes : es = byteCells (ff j)) (hmb : mb = b.length) (heb : eb = byteCells b),
  Ev G ⟨kz, ⟨(60, .int .i64 n) :: (10, .vs 121 g n16) :: (7, .vs 86 gb mb) :: (2, .ref 66 1 0) :: (59, .int .i64 16) :: T, (121, some (g, .vec 1 es)) :: (86, some (gb, .vec 1 eb)) :: (66, some (1, .cells m.enc)) :: H, c⟩, [.t 4, .t 5], 0⟩ (ka m.kind.toNat b)
 | 0, T, H, c, g, gb, mb, n16, es, eb, n, hj, hn, h16, hes, hmb, heb => by
  subst h16 hes hmb heb
  have hp := cQ (List.replicate 16 255) (by simp) 2 (19 + b.length) (by omega)
  have hff : ff 0 = List.replicate 16 255 := rfl
  have hk2 : ((UInt8.ofNat m.kind.toNat).toNat : Int) = m.kind := by rw [ofN (by omega)]; omega
  have hfl : (byteCells (ff 0)).length = 16 := by simp [ff]
  have hf0 : (ff 0).length = 16 := rfl
  rw [← hff] at hp
  refine evl ?_
  repeat' (first | refine ab ?_ | refine kX [] [(121, _, _)] trivial ⟨rfl, pz trivial⟩ (hp) ?_ | (refine aa ?_ ?_ <;> intro h))
  refine dc [(136, _, .vec 1 _)] ⟨⟨rfl, puL, trivial⟩, rfl, rfl, (by simp), ?_⟩
  unfold ka
  refine lx 136 ?_ ?_
  ·simp [dl, hf0] <;> omega
  ·simp [dl, hff, byteCells] <;> omega
 | j + 1, T, H, c, g, gb, mb, n16, es, eb, n, hj, hn, h16, hes, hmb, heb => by
  subst h16 hes hmb heb
  have hfl : (byteCells (ff (j + 1))).length = 16 := by rw [au, ky _ hj]
  have hnn : n.toNat = 16 - (j + 1) := by omega
  have hx : (byteCells (ff (j + 1)))[n.toNat]? = some [.int .u8 0] := by rw [hnn]; exact pF j (by omega)
  refine evl ?_
  repeat' (first | refine ab ?_ | (refine aa ?_ ?_ <;> intro h))
  refine ag [60, 10, 7, 2, 59] [121, 86, 66] ?_
  refine wz m hk b hb j _ _ _ _ _ _ _ _ _ (n + 1) (by omega) (by omega) rfl ?_ rfl rfl
  rw [← m9 j (by omega), ← hnn]; rfl
theorem wy (m : PMsg) (hk : 1 ≤ m.kind ∧ m.kind ≤ 5) (b : List UInt8) (hb : b.length ≤ 65516) : ∀ (j : Nat) (T : List (Nat × AV)) (H : aq) (c g gb mb n16 : Nat) (es eb : List (List AV)) (n : Int) (hj : j ≤ 16) (hn : n = 16 - j) (h16 : n16 = 16) (hes : es = byteCells (ff j)) (hmb : mb = b.length) (heb : eb = byteCells b),
  Ev G ⟨kz, ⟨(60, .int .i64 n) :: (10, .vs 121 g n16) :: (7, .vs 92 gb mb) :: (2, .ref 66 1 0) :: (59, .int .i64 16) :: T, (121, some (g, .vec 1 es)) :: (92, some (gb, .vec 1 eb)) :: (66, some (1, .cells m.enc)) :: H, c⟩, [.t 4, .t 5], 0⟩ (ka m.kind.toNat b)
 | 0, T, H, c, g, gb, mb, n16, es, eb, n, hj, hn, h16, hes, hmb, heb => by
  subst h16 hes hmb heb
  have hp := cQ (List.replicate 16 255) (by simp) 2 (19 + b.length) (by omega)
  have hff : ff 0 = List.replicate 16 255 := rfl
  have hk2 : ((UInt8.ofNat m.kind.toNat).toNat : Int) = m.kind := by rw [ofN (by omega)]; omega
  have hfl : (byteCells (ff 0)).length = 16 := by simp [ff]
  have hf0 : (ff 0).length = 16 := rfl
  rw [← hff] at hp
  refine evl ?_
  repeat' (first | refine ab ?_ | refine kX [] [(121, _, _)] trivial ⟨rfl, pz trivial⟩ (hp) ?_ | (refine aa ?_ ?_ <;> intro h))
  refine dc [(136, _, .vec 1 _)] ⟨⟨rfl, puL, trivial⟩, rfl, rfl, (by simp), ?_⟩
  unfold ka
  refine lx 136 ?_ ?_
  ·simp [dl, hf0] <;> omega
  ·simp [dl, hff, byteCells] <;> omega
 | j + 1, T, H, c, g, gb, mb, n16, es, eb, n, hj, hn, h16, hes, hmb, heb => by
  subst h16 hes hmb heb
  have hfl : (byteCells (ff (j + 1))).length = 16 := by rw [au, ky _ hj]
  have hnn : n.toNat = 16 - (j + 1) := by omega
  have hx : (byteCells (ff (j + 1)))[n.toNat]? = some [.int .u8 0] := by rw [hnn]; exact pF j (by omega)
  refine evl ?_
  repeat' (first | refine ab ?_ | (refine aa ?_ ?_ <;> intro h))
  refine ag [60, 10, 7, 2, 59] [121, 92, 66] ?_
  refine wy m hk b hb j _ _ _ _ _ _ _ _ _ (n + 1) (by omega) (by omega) rfl ?_ rfl rfl
  rw [← m9 j (by omega), ← hnn]; rfl
theorem uh (m : PMsg) (hk : 1 ≤ m.kind ∧ m.kind ≤ 5) (b : List UInt8) (hb : b.length ≤ 65516) : ∀ (j : Nat) (T : List (Nat × AV)) (H : aq) (c g gb mb n16 : Nat) (es eb : List (List AV)) (n : Int) (hj : j ≤ 16) (hn : n = 16 - j) (h16 : n16 = 16) (hes : es = byteCells (ff j)) (hmb : mb = b.length) (heb : eb = byteCells b),
  Ev G ⟨kz, ⟨(60, .int .i64 n) :: (10, .vs 121 g n16) :: (7, .vs 107 gb mb) :: (2, .ref 66 1 0) :: (59, .int .i64 16) :: T, (121, some (g, .vec 1 es)) :: (107, some (gb, .vec 1 eb)) :: (66, some (1, .cells m.enc)) :: H, c⟩, [.t 4, .t 5], 0⟩ (ka m.kind.toNat b)
 | 0, T, H, c, g, gb, mb, n16, es, eb, n, hj, hn, h16, hes, hmb, heb => by
  subst h16 hes hmb heb
  have hp := cQ (List.replicate 16 255) (by simp) 2 (19 + b.length) (by omega)
  have hff : ff 0 = List.replicate 16 255 := rfl
  have hk2 : ((UInt8.ofNat m.kind.toNat).toNat : Int) = m.kind := by rw [ofN (by omega)]; omega
  have hfl : (byteCells (ff 0)).length = 16 := by simp [ff]
  have hf0 : (ff 0).length = 16 := rfl
  rw [← hff] at hp
  refine evl ?_
  repeat' (first | refine ab ?_ | refine kX [] [(121, _, _)] trivial ⟨rfl, pz trivial⟩ (hp) ?_ | (refine aa ?_ ?_ <;> intro h))
  refine dc [(136, _, .vec 1 _)] ⟨⟨rfl, puL, trivial⟩, rfl, rfl, (by simp), ?_⟩
  unfold ka
  refine lx 136 ?_ ?_
  ·simp [dl, hf0] <;> omega
  ·simp [dl, hff, byteCells] <;> omega
 | j + 1, T, H, c, g, gb, mb, n16, es, eb, n, hj, hn, h16, hes, hmb, heb => by
  subst h16 hes hmb heb
  have hfl : (byteCells (ff (j + 1))).length = 16 := by rw [au, ky _ hj]
  have hnn : n.toNat = 16 - (j + 1) := by omega
  have hx : (byteCells (ff (j + 1)))[n.toNat]? = some [.int .u8 0] := by rw [hnn]; exact pF j (by omega)
  refine evl ?_
  repeat' (first | refine ab ?_ | (refine aa ?_ ?_ <;> intro h))
  refine ag [60, 10, 7, 2, 59] [121, 107, 66] ?_
  refine uh m hk b hb j _ _ _ _ _ _ _ _ _ (n + 1) (by omega) (by omega) rfl ?_ rfl rfl
  rw [← m9 j (by omega), ← hnn]; rfl
theorem ug (m : PMsg) (hk : 1 ≤ m.kind ∧ m.kind ≤ 5) (b : List UInt8) (hb : b.length ≤ 65516) : ∀ (j : Nat) (T : List (Nat × AV)) (H : aq) (c g gb mb n16 : Nat) (es eb : List (List AV)) (n : Int) (hj : j ≤ 16) (hn : n = 16 - j) (h16 : n16 = 16) (hes : es = byteCells (ff j)) (hmb : mb = b.length) (heb : eb = byteCells b),
  Ev G ⟨kz, ⟨(60, .int .i64 n) :: (10, .vs 121 g n16) :: (7, .vs 113 gb mb) :: (2, .ref 66 1 0) :: (59, .int .i64 16) :: T, (121, some (g, .vec 1 es)) :: (113, some (gb, .vec 1 eb)) :: (66, some (1, .cells m.enc)) :: H, c⟩, [.t 4, .t 5], 0⟩ (ka m.kind.toNat b)
 | 0, T, H, c, g, gb, mb, n16, es, eb, n, hj, hn, h16, hes, hmb, heb => by
  subst h16 hes hmb heb
  have hp := cQ (List.replicate 16 255) (by simp) 2 (19 + b.length) (by omega)
  have hff : ff 0 = List.replicate 16 255 := rfl
  have hk2 : ((UInt8.ofNat m.kind.toNat).toNat : Int) = m.kind := by rw [ofN (by omega)]; omega
  have hfl : (byteCells (ff 0)).length = 16 := by simp [ff]
  have hf0 : (ff 0).length = 16 := rfl
  rw [← hff] at hp
  refine evl ?_
  repeat' (first | refine ab ?_ | refine kX [] [(121, _, _)] trivial ⟨rfl, pz trivial⟩ (hp) ?_ | (refine aa ?_ ?_ <;> intro h))
  refine dc [(136, _, .vec 1 _)] ⟨⟨rfl, puL, trivial⟩, rfl, rfl, (by simp), ?_⟩
  unfold ka
  refine lx 136 ?_ ?_
  ·simp [dl, hf0] <;> omega
  ·simp [dl, hff, byteCells] <;> omega
 | j + 1, T, H, c, g, gb, mb, n16, es, eb, n, hj, hn, h16, hes, hmb, heb => by
  subst h16 hes hmb heb
  have hfl : (byteCells (ff (j + 1))).length = 16 := by rw [au, ky _ hj]
  have hnn : n.toNat = 16 - (j + 1) := by omega
  have hx : (byteCells (ff (j + 1)))[n.toNat]? = some [.int .u8 0] := by rw [hnn]; exact pF j (by omega)
  refine evl ?_
  repeat' (first | refine ab ?_ | (refine aa ?_ ?_ <;> intro h))
  refine ag [60, 10, 7, 2, 59] [121, 113, 66] ?_
  refine ug m hk b hb j _ _ _ _ _ _ _ _ _ (n + 1) (by omega) (by omega) rfl ?_ rfl rfl
  rw [← m9 j (by omega), ← hnn]; rfl
theorem uf (m : PMsg) (hk : 1 ≤ m.kind ∧ m.kind ≤ 5) (b : List UInt8) (hb : b.length ≤ 65516) : ∀ (j : Nat) (T : List (Nat × AV)) (H : aq) (c g gb mb n16 : Nat) (es eb : List (List AV)) (n : Int) (hj : j ≤ 16) (hn : n = 16 - j) (h16 : n16 = 16) (hes : es = byteCells (ff j)) (hmb : mb = b.length) (heb : eb = byteCells b),
  Ev G ⟨kz, ⟨(60, .int .i64 n) :: (10, .vs 121 g n16) :: (7, .vs 200 gb mb) :: (2, .ref 66 1 0) :: (59, .int .i64 16) :: T, (121, some (g, .vec 1 es)) :: (200, some (gb, .vec 1 eb)) :: (66, some (1, .cells m.enc)) :: H, c⟩, [.t 4, .t 5], 0⟩ (ka m.kind.toNat b)
 | 0, T, H, c, g, gb, mb, n16, es, eb, n, hj, hn, h16, hes, hmb, heb => by
  subst h16 hes hmb heb
  have hp := cQ (List.replicate 16 255) (by simp) 2 (19 + b.length) (by omega)
  have hff : ff 0 = List.replicate 16 255 := rfl
  have hk2 : ((UInt8.ofNat m.kind.toNat).toNat : Int) = m.kind := by rw [ofN (by omega)]; omega
  have hfl : (byteCells (ff 0)).length = 16 := by simp [ff]
  have hf0 : (ff 0).length = 16 := rfl
  rw [← hff] at hp
  refine evl ?_
  repeat' (first | refine ab ?_ | refine kX [] [(121, _, _)] trivial ⟨rfl, pz trivial⟩ (hp) ?_ | (refine aa ?_ ?_ <;> intro h))
  refine dc [(136, _, .vec 1 _)] ⟨⟨rfl, puL, trivial⟩, rfl, rfl, (by simp), ?_⟩
  unfold ka
  refine lx 136 ?_ ?_
  ·simp [dl, hf0] <;> omega
  ·simp [dl, hff, byteCells] <;> omega
 | j + 1, T, H, c, g, gb, mb, n16, es, eb, n, hj, hn, h16, hes, hmb, heb => by
  subst h16 hes hmb heb
  have hfl : (byteCells (ff (j + 1))).length = 16 := by rw [au, ky _ hj]
  have hnn : n.toNat = 16 - (j + 1) := by omega
  have hx : (byteCells (ff (j + 1)))[n.toNat]? = some [.int .u8 0] := by rw [hnn]; exact pF j (by omega)
  refine evl ?_
  repeat' (first | refine ab ?_ | (refine aa ?_ ?_ <;> intro h))
  refine ag [60, 10, 7, 2, 59] [121, 200, 66] ?_
  refine uf m hk b hb j _ _ _ _ _ _ _ _ _ (n + 1) (by omega) (by omega) rfl ?_ rfl rfl
  rw [← m9 j (by omega), ← hnn]; rfl
theorem dg {m : PMsg} {wide : Bool} (h : bR m wide = 0) : i3 m wide = ⟨.tup [.vs 0 0 (fD m wide).length, .int .i64 0], [(false, .vec 1 (byteCells (fD m wide)))]⟩ := by unfold i3; rw [if_pos h]
theorem fT {m : PMsg} {wide : Bool} {e : Int} (h : bR m wide = e) (he : e ≠ 0) : i3 m wide = ⟨.tup [.con (.slice none 0 0), .int .i64 e], []⟩ := by unfold i3; rw [h, if_neg he]
theorem um {m : PMsg} {wide : Bool} (h : bh m ≠ 0) : bR m wide = bh m := by unfold bR; rw [if_pos h]
theorem Az {m : PMsg} {wide : Bool} (h : bh m = 0) (hb : jZ m wide) : bR m wide = 5 := by unfold bR; rw [if_neg (by simp [h]), if_pos hb]
theorem pW {m : PMsg} {wide : Bool} (h : bh m = 0) (hb : ¬ jZ m wide) (hl : 19 + (bv m wide).length > 65535) : bR m wide = 4 := by unfold bR; rw [if_neg (by simp [h]), if_neg hb, if_pos hl]
theorem jB (m : PMsg) (h : AM m) (ho : m.ok) (hw : m.withdrawn.length < 2 ^ 30) (hr : m.reach.length < 2 ^ 30) (wide : Bool) : ah G 193 [.agg m.enc, .bool wide] [] (i3 m wide) := by
 have hc := fK m h.lenO (dY h.attrs) ⟨ho.withdrawn, ho.reach⟩
 by_cases h0 : bh m = 0
 ·rw [h0] at hc
  obtain ⟨k1, k2, _⟩ := du h0
  have hk : m.kind = 1 ∨ m.kind = 2 ∨ m.kind = 3 ∨ m.kind = 4 ∨ m.kind = 5 := by omega
  rcases hk with hk | hk | hk | hk | hk
  ·have ok := qF h0 hk
   have h1 := xg m ok ho.router
   have hl := lR ok
   have hb : bv m wide = dx m := by unfold bv; rw [if_pos hk]
   rw [dg (d6 h0 (fun q => by have := q.1; omega) (by rw [hb]; omega)), fD, hb]
   have key := wz m ⟨k1, k2⟩ (dx m) (by omega) 16
   generalize dx m = b at *
   refine ae (F := lY) rfl rfl (az 300 _ _ _ _ ?_)
   repeat' (first | refine ab ?_ | (refine aa ?_ ?_ <;> intro h))
   refine ag [60, 10, 7, 2, 59] [121, 86, 66] ?_
   exact key _ _ _ _ _ _ _ _ _ 0 (by omega) (by omega) rfl rfl rfl rfl
  ·have ok := ib h0 hk
   have h1 := yb m ok ho h.attrs hw hr wide
   have hb : bv m wide = cg m wide := by unfold bv; rw [if_neg (by omega), if_pos hk]
   unfold OX at h1
   by_cases hbd : m.reach ≠ [] ∧ dU m.attrs wide = true
   ·rw [if_pos hbd] at h1
    rw [fT (Az h0 ⟨hk, hbd⟩) (by decide)]
    refine ae (F := lY) rfl rfl (az 300 _ _ _ _ ?_)
    repeat' (first | refine ab ?_ | (refine aa ?_ ?_ <;> intro h))
    refine ax ?_; rfl
   ·rw [if_neg hbd] at h1
    have hlen : (cg m wide).length = 4 + (bi m.withdrawn).length + (bA m wide).length + (bi m.reach).length := by unfold cg; simp; omega
    by_cases hl : 19 + (cg m wide).length > 65535
    ·rw [fT (pW h0 (fun q => hbd q.2) (by rw [hb]; exact hl)) (by decide)]
     by_cases hl2 : (bi m.withdrawn).length > 65535 ∨ (bA m wide).length > 65535
     ·rw [if_pos hl2] at h1
      refine ae (F := lY) rfl rfl (az 300 _ _ _ _ ?_)
      repeat' (first | refine ab ?_ | (refine aa ?_ ?_ <;> intro h))
      refine ax ?_; rfl
     ·rw [if_neg hl2] at h1
      have l2 := ep (l := m.reach) (fun p hp => by have := de (ho.reach p hp) (ok.reach p hp); omega)
      have hup : (cg m wide).length < 2 ^ 40 := by omega
      clear hlen l2 hl2
      generalize cg m wide = b at *
      refine ae (F := lY) rfl rfl (az 300 _ _ _ _ ?_)
      repeat' (first | refine ab ?_ | (refine aa ?_ ?_ <;> intro h))
      refine ax ?_; rfl
    ·rw [dg (d6 h0 (fun q => hbd q.2) (by rw [hb]; omega)), fD, hb]
     rw [if_neg (by omega)] at h1
     have key := wy m ⟨k1, k2⟩ (cg m wide) (by omega) 16
     clear hlen
     generalize cg m wide = b at *
     refine ae (F := lY) rfl rfl (az 300 _ _ _ _ ?_)
     repeat' (first | refine ab ?_ | (refine aa ?_ ?_ <;> intro h))
     refine ag [60, 10, 7, 2, 59] [121, 92, 66] ?_
     exact key _ _ _ _ _ _ _ _ _ 0 (by omega) (by omega) rfl rfl rfl rfl
  ·have ok := u5 h0 hk
   have hb : bv m wide = eU m := by unfold bv; rw [if_neg (by omega), if_neg (by omega), if_pos hk]
   have hl : (eU m).length = m.data.length + 2 := by simp [eU]
   have hd := ok.data
   obtain ⟨c1, c2⟩ := ok.code
   obtain ⟨s1, s2⟩ := ok.sub
   have e1 : ((UInt8.ofNat m.code.toNat).toNat : Int) = m.code := by rw [ofN (by omega)]; omega
   have e2 : ((UInt8.ofNat m.sub.toNat).toNat : Int) = m.sub := by rw [ofN (by omega)]; omega
   have hbl : (byteCells m.data).length = m.data.length := by simp
   rw [dg (d6 h0 (fun q => by have := q.1; omega) (by rw [hb]; omega)), fD, hb]
   have key := uh m ⟨k1, k2⟩ (eU m) (by omega) 16
   refine ae (F := lY) rfl rfl (az 300 _ _ _ _ ?_)
   repeat' (first | refine ab ?_ | (refine aa ?_ ?_ <;> intro h))
   refine ag [60, 10, 7, 2, 59] [121, 107, 66] ?_
   refine key _ _ _ _ _ _ _ _ _ 0 (by omega) (by omega) rfl rfl (by simp [eU] <;> omega) ?_
   simp only [eU, byteCells, List.map_cons, e1, e2]; rfl
  ·have hb : bv m wide = [] := by unfold bv; rw [if_neg (by omega), if_neg (by omega), if_neg (by omega), if_neg (by omega)]
   rw [dg (d6 h0 (fun q => by have := q.1; omega) (by rw [hb]; simp)), fD, hb]
   have key := uf m ⟨k1, k2⟩ [] (by simp) 16
   refine ae (F := lY) rfl rfl (az 300 _ _ _ _ ?_)
   repeat' (first | refine ab ?_ | (refine aa ?_ ?_ <;> intro h))
   refine cH 200 1 [(7, .vs 200 _ 0)] [] ⟨LeP.nilV _ _ _, trivial⟩ trivial ?_
   refine ag [60, 10, 7, 2, 59] [121, 200, 66] ?_
   exact key _ _ _ _ _ _ _ _ _ 0 (by omega) (by omega) rfl rfl rfl rfl
  ·have hb : bv m wide = [0, 1, 0, 1] := by unfold bv; rw [if_neg (by omega), if_neg (by omega), if_neg (by omega), if_pos hk]
   rw [dg (d6 h0 (fun q => by have := q.1; omega) (by rw [hb]; simp)), fD, hb]
   have key := ug m ⟨k1, k2⟩ [0, 1, 0, 1] (by simp) 16
   refine ae (F := lY) rfl rfl (az 300 _ _ _ _ ?_)
   repeat' (first | refine ab ?_ | (refine aa ?_ ?_ <;> intro h))
   refine ag [60, 10, 7, 2, 59] [121, 113, 66] ?_
   exact key _ _ _ _ _ _ _ _ _ 0 (by omega) (by omega) rfl rfl rfl rfl
 ·rw [fT (um h0) h0]
  generalize bh m = k at *
  refine ae (F := lY) rfl rfl (az 300 _ _ _ _ ?_)
  repeat' (first | refine ab ?_ | (refine aa ?_ ?_ <;> intro h))
  refine ax ?_; rfl
end Go.AM.IR
namespace Go.AM.IR
theorem nj : ah G 192 [] [] ⟨.bool true, []⟩ := KX 100000 rfl rfl (by kernel_rfl)
end Go.AM.IR
namespace Go.AM.IR
theorem ar8 (c s : Int) (d : List UInt8) (hd : d.length < 2 ^ 40) : AM (bc c s d) := ⟨⟨by simp [bc, ap, zeroA], by simp [bc, ap, zeroA, bC], by simp [bc, ap, zeroA], by simp [bc, ap, zeroA], by simp [bc, ap, zeroA], by simp [bc, ap, zeroA], by simp [bc, ap, zeroA, fY]⟩, by simp [bc, ap], by simp [bc, ap], by simp [bc, ap], hd, by simp [bc, ap, capT]⟩
end Go.AM.IR
namespace Go.AM.IR
end Go.AM.IR
namespace Go.AM.IR
end Go.AM.IR
namespace Go.AM.IR
theorem asz (b : List UInt8) (hb : b.length < 2 ^ 28) (wide : Bool) : ah G 354 [.sl 1 (byteCells b), .bool wide] [] (kd (JW wide b)) := by
 unfold JW
 by_cases h : b.length < 19
 ·rw [if_pos h]; exact as9 b (by omega) wide h
 ·rw [if_neg h]
  refine as8 b (by omega) wide (by omega) _ (fun ha => ?_) (fun ha => by rw [if_pos ha])
  rw [if_neg (by rw [ha]; simp)]
  intro g1 g2 g3 T H c
  obtain ⟨x, y, k, hx, hy, hk, e2, e1, ek⟩ := aqn b (by omega)
  rw [e2, e1, ek]
  have hn : nC b = rd ((b.drop 16).take 2) := rfl
  generalize hL : nC b = n at *
  have hr : n < 256 ^ 2 := by rw [hn]; exact cn (by simp; omega)
  by_cases q1 : n < 19
  ·rw [if_pos q1]; exact asK b (by omega) wide (by omega) x y k e2 e1 hk n hn q1 g1 g2 g3 T H c
  ·rw [if_neg q1]
   by_cases q2 : k.toNat < 1 ∨ k.toNat > 5
   ·rw [if_pos q2]; exact asJ b (by omega) wide (by omega) x y k e2 e1 hk n hn q1 q2 g1 g2 g3 T H c
   ·rw [if_neg q2]
    have k1 : ¬ k.toNat < 1 := fun q => q2 (.inl q)
    have k5 : ¬ k.toNat > 5 := fun q => q2 (.inr q)
    by_cases q3 : ef (k.toNat : Nat) (n : Nat) = true
    ·rw [if_pos q3]; exact asI b (by omega) wide (by omega) x y k e2 e1 hk n hn q1 k1 k5 q3 g1 g2 g3 T H c
    ·rw [if_neg q3]
     have q3' : ef (k.toNat : Nat) (n : Nat) = false := by simpa using q3
     by_cases q4 : b.length < n
     ·rw [if_pos q4]; exact asH b (by omega) wide (by omega) x y k e2 e1 hk n hn q1 k1 k5 q3' q4 g1 g2 g3 T H c
     ·rw [if_neg q4]
      refine asG b (by omega) wide (by omega) x y k e2 e1 hk n hn q1 k1 k5 q3' q4 _ rfl _ ?_ g1 g2 g3 T H c
      intro g1 g2 g3 g4 s9 py T H c
      have hd : (b.take n).length = n := by rw [List.length_take]; omega
      generalize b.take n = d at *
      have hdd : (d.drop 19).length = n - 19 := by rw [List.length_drop]; omega
      simp only [ef, decide_eq_false_iff_not] at q3'
      unfold JX
      have hkk : k.toNat = 1 ∨ k.toNat = 2 ∨ k.toNat = 3 ∨ k.toNat = 4 ∨ k.toNat = 5 := by omega
      rcases hkk with hkk | hkk | hkk | hkk | hkk
      ·rw [hkk, if_pos (show ((1 : Nat) : Int) = 1 from rfl)]
       exact asF d (by omega) wide x y n _ _ _ (X7 d (by omega) (by omega)) _ (fun g1 g2 g3 s9 py T H c => l4 _ _ _ n g1 g2 g3 s9 py T H c) g1 g2 g3 g4 s9 py T H c
      ·rw [hkk, if_neg (show ¬ (((2 : Nat) : Int) = 1) by decide), if_pos (show ((2 : Nat) : Int) = 2 from rfl)]
       exact asE d (by omega) wide x y n _ _ _ (X9 d (by omega) (by omega) wide) _ (fun g1 g2 g3 s9 py T H c => l4 _ _ _ n g1 g2 g3 s9 py T H c) g1 g2 g3 g4 s9 py T H c
      ·rw [hkk, if_neg (show ¬ (((3 : Nat) : Int) = 1) by decide), if_neg (show ¬ (((3 : Nat) : Int) = 2) by decide), if_pos (show ((3 : Nat) : Int) = 3 from rfl)]
       obtain ⟨c0, s0, r, hcs⟩ : ∃ c0 s0 r, d.drop 19 = c0 :: s0 :: r := by
        match h : d.drop 19, hdd with
        | c0 :: s0 :: r, _ => exact ⟨c0, s0, r, rfl⟩
        | [], hd => simp at hd; omega
        | [_], hd => simp at hd; omega
       have at_ : ∀ i, d[19 + i]? = (d.drop 19)[i]? := fun i => by rw [List.getElem?_drop]
       have hc0 : (byteCells d)[19]? = some [.int .u8 c0.toNat] := by simp only [byteCells, List.getElem?_map]; rw [at_ 0, hcs]; rfl
       have hs0 : (byteCells d)[20]? = some [.int .u8 s0.toNat] := by simp only [byteCells, List.getElem?_map]; rw [at_ 1, hcs]; rfl
       have hr21 : d.drop 21 = r := by rw [show d.drop 21 = (d.drop 19).drop 2 from by rw [List.drop_drop], hcs]; rfl
       have en : nA (c0 :: s0 :: r) = bc (c0.toNat : Nat) (s0.toNat : Nat) r := by simp [nA, rd]
       rw [hcs, en]
       obtain ⟨l1, l2, l3⟩ := KU (c0.toNat : Nat) (s0.toNat : Nat) r
       have hc := ee _ l1 l2 l3
       refine asD d (by omega) wide x y n c0 s0 r hc0 hs0 hr21 (by omega) _ hc _ (fun g1 g2 g3 s9 py T H c => ?_) g1 g2 g3 g4 s9 py T H c
       have := l4 (bc (c0.toNat : Nat) (s0.toNat : Nat) r) (bc 1 2 [x, y]) (bh (bc (c0.toNat : Nat) (s0.toNat : Nat) r)) n g1 g2 g3 s9 py T H c
       rw [show lW n (bc (c0.toNat : Nat) (s0.toNat : Nat) r, bc 1 2 [x, y], bh (bc (c0.toNat : Nat) (s0.toNat : Nat) r)) = lW n (if bh (bc (c0.toNat : Nat) (s0.toNat : Nat) r) = 0 then (bc (c0.toNat : Nat) (s0.toNat : Nat) r, ap, 0) else (ap, bc 1 2 [x, y], bh (bc (c0.toNat : Nat) (s0.toNat : Nat) r))) from by unfold lW; split <;> simp_all] at this
       exact this
      ·rw [hkk, if_neg (show ¬ (((4 : Nat) : Int) = 1) by decide), if_neg (show ¬ (((4 : Nat) : Int) = 2) by decide), if_neg (show ¬ (((4 : Nat) : Int) = 3) by decide), if_neg (fun q => absurd q.1 (by decide))]
       exact asC d (by omega) wide x y n _ (fun g1 g2 g3 s9 py T H c => l4 _ _ _ n g1 g2 g3 s9 py T H c) g1 g2 g3 g4 s9 py T H c
      ·rw [hkk, if_neg (show ¬ (((5 : Nat) : Int) = 1) by decide), if_neg (show ¬ (((5 : Nat) : Int) = 2) by decide), if_neg (show ¬ (((5 : Nat) : Int) = 3) by decide)]
       refine asA d (by omega) wide x y n (by omega) _ (fun g1 g2 g3 s9 py T H c => ?_) g1 g2 g3 g4 s9 py T H c
       have := l4 { ap with kind := 5 } (bc 1 2 [x, y]) (if d.drop 19 = [0, 1, 0, 1] then 0 else 2) n g1 g2 g3 s9 py T H c
       rw [show lW n (({ ap with kind := 5 } : PMsg), bc 1 2 [x, y], (if d.drop 19 = [0, 1, 0, 1] then (0 : Int) else 2)) = lW n (if ((5 : Nat) : Int) = 5 ∧ d.drop 19 ≠ [0, 1, 0, 1] then (ap, bc 1 2 [x, y], 2) else ({ ap with kind := ((5 : Nat) : Int) }, ap, 0)) from by
        by_cases hz : d.drop 19 = [0, 1, 0, 1]
        ·simp [hz, lW]
        ·simp [hz, lW]] at this
       exact this
structure Fin (m : PMsg) : Prop where
 am : AM m
 ok : m.ok
 withdrawn : m.withdrawn.length < 2 ^ 30
 reach : m.reach.length < 2 ^ 30
theorem tp : AB zeroA := ⟨by simp [zeroA], by simp [zeroA, bC], by simp [zeroA], by simp [zeroA], by simp [zeroA], by simp [zeroA], by simp [zeroA, fY]⟩
theorem aar (k : Int) (h : okI k) : Fin { ap with kind := k } :=
 ⟨⟨tp, by simp [ap], by simp [ap], by simp [ap], by simp [ap], by simp [ap, capT]⟩, ⟨h, by simp [ap, okI], by simp [ap, okI], by simp [ap, okI], by simp [ap, okU], by simp [ap], by simp [ap], (rY 4).ok, by simp [ap], by simp [ap, okI], by simp [ap, okI]⟩, by simp [ap], by simp [ap]⟩
theorem lm : Fin ap := aar 0 (by simp [okI])
theorem asT (c s : Int) (d : List UInt8) (hd : d.length < 2 ^ 40) (hc : okI c) (hs : okI s) : Fin (bc c s d) :=
 ⟨ar8 c s d hd, ⟨by simp [bc, okI], by simp [bc, ap, okI], by simp [bc, ap, okI], by simp [bc, ap, okI], by simp [bc, ap, okU], by simp [bc, ap], by simp [bc, ap], (rY 4).ok, by simp [bc, ap], hc, hs⟩, by simp [bc, ap], by simp [bc, ap]⟩
theorem ar7 : ∀ (f : Nat) (b : List UInt8) (l : List Cap), gM f b = some l → ∀ c ∈ l, okI c.code
 | f, [], l, h => by
  rw [show gM f [] = some [] from by cases f <;> rfl] at h
  obtain rfl := Option.some.inj h
  simp
 | 0, x :: b, l, h => by cases h
 | f + 1, [x], l, h => by cases h
 | f + 1, c :: n :: r, l, h => by
  rw [gM] at h
  split at h
  ·cases h
  ·cases hf : gM f (r.drop n.toNat) with
   | none => rw [hf] at h; cases h
   | some q =>
    rw [hf] at h
    obtain rfl := Option.some.inj h
    intro z hz
    rcases List.mem_cons.1 hz with rfl | hz
    ·have := c.toNat_lt
     unfold okI; simp only; omega
    ·exact ar7 f _ q hf z hz
theorem atb {b : List UInt8} {l : List Cap} (h : xO b = some l) : ∀ c ∈ l, okI c.code := by
 cases b with
 | nil => cases h
 | cons s r =>
  replace h : (if r.length ≠ s.toNat then none else if s.toNat = 0 then some [] else qT s.toNat r) = some l := h
  split at h
  ·cases h
  ·split at h
   ·obtain rfl := Option.some.inj h; simp
   ·match r, h with
    | t :: u :: q, h =>
     replace h : (if t.toNat = 2 ∧ u.toNat + 2 = s.toNat ∧ q ≠ [] then gM q.length q else none) = some l := h
     split at h
     ·exact ar7 _ _ _ h
     ·cases h
    | [], h => cases h
    | [_], h => cases h
theorem as3 {b : List UInt8} {m f : PMsg} (h : Bh b = (m, f, 0)) : Fin m := by
 unfold Bh at h
 split at h
 ·exact (f5 h (by decide)).elim
 ·cases hc : xO (b.drop 9) with
  | none => rw [hc] at h; exact (f5 h (by decide)).elim
  | some l =>
   rw [hc] at h
   unfold JU at h
   simp only at h
   split at h
   ·exact (f5 h (by decide)).elim
   ·obtain ⟨rfl, _, _⟩ := T5 h
    obtain ⟨q1, q2⟩ := X5 hc
    have h2 : rd ((b.drop 1).take 2) < 256 ^ 2 := cn (by rw [List.length_take]; omega)
    have h3 : rd ((b.drop 3).take 2) < 256 ^ 2 := cn (by rw [List.length_take]; omega)
    have h4 : rd ((b.drop 5).take 4) < 256 ^ 4 := cn (by rw [List.length_take]; omega)
    refine ⟨⟨tp, by show l.length < _; omega, by simp [j7, ap], by simp [j7, ap], by simp [j7, ap], q2⟩, ⟨by simp [j7, okI], by simp [j7, okI], ?_, ?_, ?_, atb hc, by simp [j7, ap], (rY 4).ok, by simp [j7, ap], by simp [j7, ap, okI], by simp [j7, ap, okI]⟩, by simp [j7, ap], by simp [j7, ap]⟩
    ·show okI ((as4 l).getD (jn b))
     cases ha : as4 l with
     | none => show okI (jn b); unfold okI jn; omega
     | some x => have := OG l x ha; show okI x; unfold okI; omega
    ·show okI ((rd ((b.drop 3).take 2) : Nat) : Int); unfold okI; omega
    ·show okU ((rd ((b.drop 5).take 4) : Nat) : Int); unfold okU; omega
theorem ara {w x : List Pfx} {a : Attrs} (h1 : ∀ p ∈ w, p.ok) (h2 : ∀ p ∈ x, p.ok) (hw : w.length < 2 ^ 30) (hx : x.length < 2 ^ 30) (ha : AB a) (ho : a.ok) : Fin (bb w x a) :=
 ⟨⟨ha, by simp [bb, ap], by show w.length < _; omega, by show x.length < _; omega, by simp [bb, ap], by simp [bb, ap, capT]⟩, ⟨by simp [bb, okI], by simp [bb, ap, okI], by simp [bb, ap, okI], by simp [bb, ap, okI], by simp [bb, ap, okU], by simp [bb, ap], h1, ho, h2, by simp [bb, ap, okI], by simp [bb, ap, okI]⟩, hw, hx⟩
theorem as1 {b : List UInt8} {wide : Bool} {m f : PMsg} (hb : b.length ≤ 65535) (h : Bg wide b = (m, f, 0)) : Fin m := by
 unfold Bg at h
 split at h
 ·exact (f5 h (by decide)).elim
 ·unfold JO at h
  split at h
  ·exact (f5 h (by decide)).elim
  ·generalize hg : (b.drop 2).take (rd (b.take 2)) = g at h
   have qt : g.length ≤ 65535 := by rw [← hg, List.length_take, List.length_drop]; omega
   generalize hr : (b.drop 2).drop (rd (b.take 2) + 2) = r at h
   have rc : r.length ≤ 65535 := by rw [← hr, List.length_drop, List.length_drop]; omega
   generalize rd (((b.drop 2).drop (rd (b.take 2))).take 2) = n at h
   have la : (r.take n).length ≤ 65535 := by rw [List.length_take]; omega
   have lq : (r.drop n).length ≤ 65535 := by rw [List.length_drop]; omega
   generalize r.take n = a at *
   generalize r.drop n = q at *
   unfold JP at h
   split at h
   ·rename_i w x e1 e2
    obtain ⟨p1, o1⟩ := sj _ _ _ e1
    obtain ⟨p2, o2⟩ := sj _ _ _ e2
    have n1 := sk w
    have n2 := sk x
    rw [p1] at n1
    rw [p2] at n2
    unfold xN at h
    split at h
    ·obtain ⟨rfl, _, _⟩ := s4 h
     exact ara (fun p hp => (o1 p hp).1) (fun p hp => (o2 p hp).1) (by omega) (by omega) tp (rY 4).ok
    ·split at h
     ·exact (f5 h (by decide)).elim
     ·split at h
      ·rename_i hne; exact (f5 h hne).elim
      ·split at h
       ·exact (f5 h (by decide)).elim
       ·obtain ⟨rfl, _, _⟩ := s4 h
        obtain ⟨oy, ay⟩ := ale la (rfl : jV (wd wide) a = ((jV (wd wide) a).1, (jV (wd wide) a).2))
        exact ara (fun p hp => (o1 p hp).1) (fun p hp => (o2 p hp).1) (by omega) (by omega) ay oy
   ·exact (f5 h (by decide)).elim
theorem as7 {wide : Bool} {k : Int} {hd b : List UInt8} {m f : PMsg} (hk : 1 ≤ k ∧ k ≤ 5) (hb : b.length ≤ 65535) (h : JX wide k hd b = (m, f, 0)) : Fin m := by
 unfold JX at h
 split at h
 ·exact as3 h
 ·split at h
  ·exact as1 hb h
  ·split at h
   ·split at h
    ·obtain rfl := (Prod.mk.inj h).1
     have h1 : rd (b.take 1) < 256 ^ 1 := cn (by rw [List.length_take]; omega)
     have h2 : rd ((b.drop 1).take 1) < 256 ^ 1 := cn (by rw [List.length_take]; omega)
     exact asT _ _ _ (by rw [List.length_drop]; omega) (by unfold okI; omega) (by unfold okI; omega)
    ·rename_i hne; exact (f5 h hne).elim
   ·split at h
    ·exact (f5 h (by decide)).elim
    ·obtain rfl := (Prod.mk.inj h).1
     exact aar k (by unfold okI; omega)
theorem as5 (wide : Bool) (b : List UInt8) (hb : b.length ≤ 65535) : Fin (JW wide b).1 := by
 unfold JW
 split
 ·exact lm
 ·split
  ·exact lm
  ·split
   ·exact lm
   ·split
    ·exact lm
    ·rename_i hk
     split
     ·exact lm
     ·split
      ·exact lm
      ·unfold lW
       split
       ·rename_i h0
        generalize hr : JX wide (mp b) ((b.drop 16).take 2) ((b.take (nC b)).drop 19) = r at *
        obtain ⟨m, f, e⟩ := r
        simp only at h0
        subst h0
        exact as7 (by omega) (by rw [List.length_drop, List.length_take]; omega) hr
       ·exact lm
theorem aaq (b : List UInt8) (wide : Bool) (hb : b.length < 2 ^ 28) : ah G 351 [.sl 1 (byteCells b), .bool wide] [] ⟨.bool true, []⟩ := by
 have hbl := au b
 have aw := nj
 by_cases hbig : b.length > 5000
 ·refine ae (F := aq3) rfl rfl (az 300 _ _ _ _ ?_)
  repeat' (first | refine ab ?_ | (refine aa ?_ ?_ <;> intro h))
  all_goals try exact dnA
 ·have d1 := NU b hb wide
  have d2 := asz b hb wide
  have hF := asi wide b
  have hfin := as5 wide b (by omega)
  cases hr : JW wide b with
  | mk x r1 =>
  obtain ⟨n, f, e⟩ := r1
  rw [hr] at d1 d2 hF hfin
  unfold kd at d1 d2
  simp only [ar9] at hF d1 d2 hfin
  have s1 := yy x hfin.am.lenO.len
  have hfl : LenM f := by
   rcases hF with ⟨h1, _⟩ | ⟨_, c, s, d, h2, _, _, hdl⟩
   ·rw [h1]; exact KW
   ·rw [h2]; exact (ar8 c s d (by omega)).lenO.len
  have s2 := yy f hfl
  by_cases e0 : e = 0
  ·subst e0
   obtain ⟨b1, b2, b3, b4, _⟩ := asO (by omega) hr
   have he := jB x hfin.am hfin.ok hfin.withdrawn hfin.reach wide
   rw [dg b1, b4] at he
   have htl : (b.take (nC b)).length = nC b := by rw [List.length_take]; omega
   have hcut : List.take (((nC b : Nat) : Int).toNat - 0) (List.drop 0 (byteCells b)) = byteCells (b.take (nC b)) := by simp [byteCells]
   rw [b2] at d1 d2
   generalize hL : nC b = L at *
   refine ae (F := aq3) rfl rfl (az 300 _ _ _ _ ?_)
   repeat' (first | refine ab ?_ | refine ox ?_ | refine atd hcut ?_ | refine zBv (l := b.take L) rfl rfl ?_ | (refine aa ?_ ?_ <;> intro h))
   all_goals try exact dnA
  ·refine ae (F := aq3) rfl rfl (az 300 _ _ _ _ ?_)
   repeat' (first | refine ab ?_ | (refine aa ?_ ?_ <;> intro h))
   all_goals try exact dnA
theorem asg (ass : List (List AV)) (h : n7 [.sl (.int .u8), .bool] ass) (hb : cy ass ≤ 1048576) : ah G 351 (ld [.sl (.int .u8), .bool] ass) [] ⟨.bool true, []⟩ := by
 obtain ⟨x, s1, rfl, h1, h⟩ := uC h
 obtain ⟨y, s2, rfl, h2, h⟩ := uC h
 obtain rfl := OH h
 obtain ⟨b, rfl⟩ := vY h1
 obtain ⟨w, rfl⟩ := h2
 have hl := sY b
 simp only [cy, bkL, AV.bk] at hb
 exact aaq b w (by omega)
end Go.AM.IR
