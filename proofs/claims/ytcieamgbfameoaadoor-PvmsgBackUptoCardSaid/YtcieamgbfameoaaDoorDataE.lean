/- What the functions of this program give, on the abstract machine. -/
import Derived.Test.YtcieamgbfameoaaDoorDataD
import Derived.Test.YtcieamgbfameoaaDoorDataA
import Derived.Test.YtcieamgbfameoaaDoorDataC
import Derived.Test.YtcieamgbfameoaaDoorMachineC
set_option linter.unusedVariables false
set_option linter.unusedSimpArgs false
set_option maxHeartbeats 4000000
set_option maxRecDepth 20000
namespace Go.AM.IR
theorem mark_loop194 (b : List UInt8) (wide : Bool) (t : Ret) (l0 : List UInt8) (hl0 : l0.length < 2 ^ 40) (g1 g2 : Nat) : ∀ (l d : List UInt8) (T : List (Nat × AV)) (H : Heap) (c : Nat) (n : Int), d ++ l = l0 → n = d.length →
    (l.any (fun c => c != 255) = false → ∀ (T : List (Nat × AV)) (H : Heap) (c : Nat), Ev G ⟨[.code (suf 3 f194.body)], ⟨(0, .sl 1 (byteCells b)) :: (1, .bool wide) :: (4, .ref 68 g1 0) :: (6, .ref 70 g2 0) :: (7, .int .i64 0) :: T, (68, some (g1, .cells zeroM.enc)) :: (70, some (g2, .cells zeroM.enc)) :: H, c⟩, [.cell 4 (some 27), .t 5, .cell 6 (some 27), .t 7], 0⟩ t) → (l.any (fun c => c != 255) = true → decMR (zeroM, 0, noteM 1 1 [], 2) = t) →
    Ev G ⟨f194x9LH, ⟨(23, .int .i64 n) :: (22, .int .i64 l0.length) :: (21, .sl 1 (byteCells l0)) :: (0, .sl 1 (byteCells b)) :: (1, .bool wide) :: (4, .ref 68 g1 0) :: (6, .ref 70 g2 0) :: (7, .int .i64 0) :: T, (68, some (g1, .cells zeroM.enc)) :: (70, some (g2, .cells zeroM.enc)) :: H, c⟩, [.cell 4 (some 27), .t 5, .cell 6 (some 27), .t 7], 0⟩ t
  | [], d, T, H, c, n, e, hn, K, B => by
    have hd : l0.length = d.length := by rw [← e]; simp
    have hle : ¬ (n < (l0.length : Int)) := by omega
    refine ev_loop' (W_okd 1 300 _ _ _ _ ?_)
    repeat' (first | refine stpA ?_ | (refine condS ?_ ?_ <;> intro h))
    refine ev_keep [0, 1, 4, 6, 7] [68, 70] ?_
    exact K rfl _ _ _
  | x :: r, d, T, H, c, n, e, hn, K, B => by
    have hd : l0.length = d.length + (r.length + 1) := by rw [← e]; simp
    have hlt : n < (l0.length : Int) := by omega
    have hx : (byteCells l0)[n.toNat]? = some [.int .u8 x.toNat] := by
      rw [← e, show n.toNat = d.length from by omega]
      simp [byteCells]
    have hx8 := x.toNat_lt
    by_cases h : x = 255
    · subst h
      have hx' : (byteCells l0)[n.toNat]? = some [.int .u8 255] := hx
      clear hx
      refine ev_loop' (W_okd 1 300 _ _ _ _ ?_)
      repeat' (first | refine stpA ?_ | (refine condS ?_ ?_ <;> intro h))
      refine ev_keep [23, 22, 21, 0, 1, 4, 6, 7] [68, 70] ?_
      exact mark_loop194 b wide t l0 hl0 g1 g2 r (d ++ [255]) _ _ _ (n + 1) (by rw [← e]; simp) (by rw [List.length_append]; simp only [List.length_cons, List.length_nil]; omega) (fun q => K (by simpa using q)) (fun q => B (by simpa using q))
    · have hne : ¬ ((x.toNat : Int) = 255) := fun q => h (UInt8.toNat_inj.1 (by simp; omega))
      rw [← B (by simp [h])]
      have h6 : Gives G 198 [.int .i64 1, .int .i64 1, .con (.slice none 0 0)] [] ⟨.agg (noteM 1 1 []).enc, []⟩ := notify198n 1 1
      refine ev_loop' (W_okd 1 300 _ _ _ _ ?_)
      repeat' (first | refine stpA ?_ | (refine condS ?_ ?_ <;> intro h))
      refine ev_le [] [(68, some (_, .cells zeroM.enc))] trivial ⟨⟨rfl, .refl _, .refl _, .refl _, .refl _, .refl _, LeP.nil 2, LeP.nil 2, .refl _, LeP.nil 2, .refl _, .refl _, .refl _, .refl _, .refl _, .refl _, .refl _, .refl _, .refl _, LeP.nil 1, .refl _, .refl _, LeP.nil 1, LeP.nil 2, LeP.nil 2, .refl _, .refl _, LeP.nil 1, trivial⟩, trivial⟩ ?_
      (first | refine fin1 ?_ | refine fin0 ?_)
      repeat ((conv => whnf); refine And.intro (by first | rfl | (simp [AV.pure, pureL]; done) | fail) ?_)
      rfl
theorem dec194_0 (b : List UInt8) (hb : b.length < 2 ^ 40) (wide : Bool) (h : b.length < 19) : Gives G 194 [.sl 1 (byteCells b), .bool wide] [] (decMR (zeroM, 0, zeroM, 3)) := by
  have hbl := byteCells_length b
  refine gives_code (F := f194) rfl rfl (W_ok 300 _ _ _ _ ?_)
  repeat' (first | refine stpA ?_ | (refine condS ?_ ?_ <;> intro h))
  refine ev_le [] [(68, some (_, .cells zeroM.enc)), (70, some (_, .cells zeroM.enc))] trivial ⟨⟨rfl, .refl _, .refl _, .refl _, .refl _, .refl _, LeP.nil 2, LeP.nil 2, .refl _, LeP.nil 2, .refl _, .refl _, .refl _, .refl _, .refl _, .refl _, .refl _, .refl _, .refl _, LeP.nil 1, .refl _, .refl _, LeP.nil 1, LeP.nil 2, LeP.nil 2, .refl _, .refl _, LeP.nil 1, trivial⟩, ⟨rfl, .refl _, .refl _, .refl _, .refl _, .refl _, LeP.nil 2, LeP.nil 2, .refl _, LeP.nil 2, .refl _, .refl _, .refl _, .refl _, .refl _, .refl _, .refl _, .refl _, .refl _, LeP.nil 1, .refl _, .refl _, LeP.nil 1, LeP.nil 2, LeP.nil 2, .refl _, .refl _, LeP.nil 1, trivial⟩, trivial⟩ ?_
  (first | refine fin1 ?_ | refine fin0 ?_)
  repeat ((conv => whnf); refine And.intro (by first | rfl | (simp [AV.pure, pureL]; done) | fail) ?_)
  rfl
theorem dec194_A (b : List UInt8) (hb : b.length < 2 ^ 40) (wide : Bool) (h : 19 ≤ b.length) (t : Ret)
    (K : (b.take 16).any (fun c => c != 255) = false → ∀ (g1 g2 : Nat) (T : List (Nat × AV)) (H : Heap) (c : Nat), Ev G ⟨[.code (suf 3 f194.body)], ⟨(0, .sl 1 (byteCells b)) :: (1, .bool wide) :: (4, .ref 68 g1 0) :: (6, .ref 70 g2 0) :: (7, .int .i64 0) :: T, (68, some (g1, .cells zeroM.enc)) :: (70, some (g2, .cells zeroM.enc)) :: H, c⟩, [.cell 4 (some 27), .t 5, .cell 6 (some 27), .t 7], 0⟩ t) (B : (b.take 16).any (fun c => c != 255) = true → decMR (zeroM, 0, noteM 1 1 [], 2) = t) : Gives G 194 [.sl 1 (byteCells b), .bool wide] [] t := by
  have hbl := byteCells_length b
  have hcut : List.take (Int.toNat 16 - 0) (List.drop 0 (byteCells b)) = byteCells (b.take 16) := by simp [byteCells]
  have hln : (List.take (Int.toNat 16 - 0) (List.drop 0 (byteCells b))).length = (b.take 16).length := by rw [hcut, byteCells_length]
  have hl16 : (b.take 16).length = 16 := by rw [List.length_take]; omega
  refine gives_code (F := f194) rfl rfl (W_ok 300 _ _ _ _ ?_)
  repeat' (first | refine stpA ?_ | (refine condS ?_ ?_ <;> intro h))
  refine ev_le [] [(68, some (_, .cells zeroM.enc)), (70, some (_, .cells zeroM.enc))] trivial ⟨⟨rfl, .refl _, .refl _, .refl _, .refl _, .refl _, LeP.nil 2, LeP.nil 2, .refl _, LeP.nil 2, .refl _, .refl _, .refl _, .refl _, .refl _, .refl _, .refl _, .refl _, .refl _, LeP.nil 1, .refl _, .refl _, LeP.nil 1, LeP.nil 2, LeP.nil 2, .refl _, .refl _, LeP.nil 1, trivial⟩, ⟨rfl, .refl _, .refl _, .refl _, .refl _, .refl _, LeP.nil 2, LeP.nil 2, .refl _, LeP.nil 2, .refl _, .refl _, .refl _, .refl _, .refl _, .refl _, .refl _, .refl _, .refl _, LeP.nil 1, .refl _, .refl _, LeP.nil 1, LeP.nil 2, LeP.nil 2, .refl _, .refl _, LeP.nil 1, trivial⟩, trivial⟩ ?_
  refine ev_keep [23, 22, 21, 0, 1, 4, 6, 7] [68, 70] ?_
  rw [hln, hcut]
  exact mark_loop194 b wide t (b.take 16) (by omega) _ _ (b.take 16) [] _ _ _ 0 rfl rfl (fun q => K q _ _) B
theorem dec194_e1 (b : List UInt8) (hb : b.length < 2 ^ 40) (wide : Bool) (h19 : 19 ≤ b.length) (x y k : UInt8) (hx : (byteCells b)[16]? = some [.int .u8 x.toNat]) (hy : (byteCells b)[17]? = some [.int .u8 y.toNat]) (hk : (byteCells b)[18]? = some [.int .u8 k.toNat]) (n : Nat) (hn : n = rd ((b.drop 16).take 2)) (q : n < 19) (g1 g2 : Nat) (T : List (Nat × AV)) (H : Heap) (c : Nat) : Ev G ⟨[.code (suf 3 f194.body)], ⟨(0, .sl 1 (byteCells b)) :: (1, .bool wide) :: (4, .ref 68 g1 0) :: (6, .ref 70 g2 0) :: (7, .int .i64 0) :: T, (68, some (g1, .cells zeroM.enc)) :: (70, some (g2, .cells zeroM.enc)) :: H, c⟩, [.cell 4 (some 27), .t 5, .cell 6 (some 27), .t 7], 0⟩ (decMR (zeroM, 0, noteM 1 2 [x, y], 2)) := by
  have hbl := byteCells_length b
  have hx8 := x.toNat_lt
  have hy8 := y.toNat_lt
  have hk8 := k.toNat_lt
  have hr : n < 256 ^ 2 := by rw [hn]; exact rd_le (by simp; omega)
  have hg : Gives G 110 [.sl 1 (byteCells b), .int .i64 16, .int .i64 2] [] ⟨.tup [.int .u64 (n : Nat), .bool true], []⟩ := by
    rw [hn]; exact get_gives110 b hb 16 2 (by omega) (by omega) (by omega) (by omega)
  have hN : Gives G 198 [.int .i64 1, .int .i64 2, .sl 1 [[.int .u8 x.toNat], [.int .u8 y.toNat]]] [] ⟨.agg (noteM 1 2 [x, y]).enc, []⟩ := notify198 1 2 [x, y]
  clear hn
  refine W_ok 300 _ _ _ _ ?_
  repeat' (first | refine stpA ?_ | refine kX [] [(113, _, _)] trivial ⟨rfl, pz trivial⟩ (hN) ?_ | (refine condS ?_ ?_ <;> intro h))
  refine ev_le [] [(68, some (_, .cells zeroM.enc))] trivial ⟨⟨rfl, .refl _, .refl _, .refl _, .refl _, .refl _, LeP.nil 2, LeP.nil 2, .refl _, LeP.nil 2, .refl _, .refl _, .refl _, .refl _, .refl _, .refl _, .refl _, .refl _, .refl _, LeP.nil 1, .refl _, .refl _, LeP.nil 1, LeP.nil 2, LeP.nil 2, .refl _, .refl _, LeP.nil 1, trivial⟩, trivial⟩ ?_
  (first | refine fin1 ?_ | refine fin0 ?_)
  repeat ((conv => whnf); refine And.intro (by first | rfl | (simp [AV.pure, pureL]; done) | fail) ?_)
  rfl
theorem dec194_e2 (b : List UInt8) (hb : b.length < 2 ^ 40) (wide : Bool) (h19 : 19 ≤ b.length) (x y k : UInt8) (hx : (byteCells b)[16]? = some [.int .u8 x.toNat]) (hy : (byteCells b)[17]? = some [.int .u8 y.toNat]) (hk : (byteCells b)[18]? = some [.int .u8 k.toNat]) (n : Nat) (hn : n = rd ((b.drop 16).take 2)) (q : ¬ n < 19) (qk : k.toNat < 1 ∨ k.toNat > 5) (g1 g2 : Nat) (T : List (Nat × AV)) (H : Heap) (c : Nat) : Ev G ⟨[.code (suf 3 f194.body)], ⟨(0, .sl 1 (byteCells b)) :: (1, .bool wide) :: (4, .ref 68 g1 0) :: (6, .ref 70 g2 0) :: (7, .int .i64 0) :: T, (68, some (g1, .cells zeroM.enc)) :: (70, some (g2, .cells zeroM.enc)) :: H, c⟩, [.cell 4 (some 27), .t 5, .cell 6 (some 27), .t 7], 0⟩ (decMR (zeroM, 0, noteM 1 3 [k], 15)) := by
  have hbl := byteCells_length b
  have hx8 := x.toNat_lt
  have hy8 := y.toNat_lt
  have hk8 := k.toNat_lt
  have hr : n < 256 ^ 2 := by rw [hn]; exact rd_le (by simp; omega)
  have hg : Gives G 110 [.sl 1 (byteCells b), .int .i64 16, .int .i64 2] [] ⟨.tup [.int .u64 (n : Nat), .bool true], []⟩ := by
    rw [hn]; exact get_gives110 b hb 16 2 (by omega) (by omega) (by omega) (by omega)
  have hN : Gives G 198 [.int .i64 1, .int .i64 2, .sl 1 [[.int .u8 x.toNat], [.int .u8 y.toNat]]] [] ⟨.agg (noteM 1 2 [x, y]).enc, []⟩ := notify198 1 2 [x, y]
  have hM : Gives G 198 [.int .i64 1, .int .i64 3, .sl 1 [[.int .u8 k.toNat]]] [] ⟨.agg (noteM 1 3 [k]).enc, []⟩ := notify198 1 3 [k]
  clear hn
  by_cases k1 : k.toNat < 1
  · refine W_ok 300 _ _ _ _ ?_
    repeat' (first | refine stpA ?_ | refine kX [] [(113, _, _)] trivial ⟨rfl, pz trivial⟩ (hN) ?_ | refine kX [] [(131, _, _)] trivial ⟨rfl, pz trivial⟩ (hM) ?_ | (refine condS ?_ ?_ <;> intro h))
    refine ev_le [] [(68, some (_, .cells zeroM.enc))] trivial ⟨⟨rfl, .refl _, .refl _, .refl _, .refl _, .refl _, LeP.nil 2, LeP.nil 2, .refl _, LeP.nil 2, .refl _, .refl _, .refl _, .refl _, .refl _, .refl _, .refl _, .refl _, .refl _, LeP.nil 1, .refl _, .refl _, LeP.nil 1, LeP.nil 2, LeP.nil 2, .refl _, .refl _, LeP.nil 1, trivial⟩, trivial⟩ ?_
    (first | refine fin1 ?_ | refine fin0 ?_)
    repeat ((conv => whnf); refine And.intro (by first | rfl | (simp [AV.pure, pureL]; done) | fail) ?_)
    rfl
  · have k5 : k.toNat > 5 := by omega
    refine W_ok 300 _ _ _ _ ?_
    repeat' (first | refine stpA ?_ | refine kX [] [(113, _, _)] trivial ⟨rfl, pz trivial⟩ (hN) ?_ | refine kX [] [(131, _, _)] trivial ⟨rfl, pz trivial⟩ (hM) ?_ | (refine condS ?_ ?_ <;> intro h))
    refine ev_le [] [(68, some (_, .cells zeroM.enc))] trivial ⟨⟨rfl, .refl _, .refl _, .refl _, .refl _, .refl _, LeP.nil 2, LeP.nil 2, .refl _, LeP.nil 2, .refl _, .refl _, .refl _, .refl _, .refl _, .refl _, .refl _, .refl _, .refl _, LeP.nil 1, .refl _, .refl _, LeP.nil 1, LeP.nil 2, LeP.nil 2, .refl _, .refl _, LeP.nil 1, trivial⟩, trivial⟩ ?_
    (first | refine fin1 ?_ | refine fin0 ?_)
    repeat ((conv => whnf); refine And.intro (by first | rfl | (simp [AV.pure, pureL]; done) | fail) ?_)
    rfl
theorem dec194_e3 (b : List UInt8) (hb : b.length < 2 ^ 40) (wide : Bool) (h19 : 19 ≤ b.length) (x y k : UInt8) (hx : (byteCells b)[16]? = some [.int .u8 x.toNat]) (hy : (byteCells b)[17]? = some [.int .u8 y.toNat]) (hk : (byteCells b)[18]? = some [.int .u8 k.toNat]) (n : Nat) (hn : n = rd ((b.drop 16).take 2)) (q : ¬ n < 19) (k1 : ¬ k.toNat < 1) (k5 : ¬ k.toNat > 5) (qb : badLen (k.toNat : Nat) (n : Nat) = true) (g1 g2 : Nat) (T : List (Nat × AV)) (H : Heap) (c : Nat) : Ev G ⟨[.code (suf 3 f194.body)], ⟨(0, .sl 1 (byteCells b)) :: (1, .bool wide) :: (4, .ref 68 g1 0) :: (6, .ref 70 g2 0) :: (7, .int .i64 0) :: T, (68, some (g1, .cells zeroM.enc)) :: (70, some (g2, .cells zeroM.enc)) :: H, c⟩, [.cell 4 (some 27), .t 5, .cell 6 (some 27), .t 7], 0⟩ (decMR (zeroM, 0, noteM 1 2 [x, y], 2)) := by
  have hbl := byteCells_length b
  have hx8 := x.toNat_lt
  have hy8 := y.toNat_lt
  have hk8 := k.toNat_lt
  have hr : n < 256 ^ 2 := by rw [hn]; exact rd_le (by simp; omega)
  have hg : Gives G 110 [.sl 1 (byteCells b), .int .i64 16, .int .i64 2] [] ⟨.tup [.int .u64 (n : Nat), .bool true], []⟩ := by
    rw [hn]; exact get_gives110 b hb 16 2 (by omega) (by omega) (by omega) (by omega)
  have hN : Gives G 198 [.int .i64 1, .int .i64 2, .sl 1 [[.int .u8 x.toNat], [.int .u8 y.toNat]]] [] ⟨.agg (noteM 1 2 [x, y]).enc, []⟩ := notify198 1 2 [x, y]
  have hB := badLength199 (k.toNat : Nat) (n : Nat) (by omega)
  rw [qb] at hB
  clear hn
  refine W_ok 300 _ _ _ _ ?_
  repeat' (first | refine stpA ?_ | refine kX [] [(113, _, _)] trivial ⟨rfl, pz trivial⟩ (hN) ?_ | (refine condS ?_ ?_ <;> intro h))
  refine ev_le [] [(68, some (_, .cells zeroM.enc))] trivial ⟨⟨rfl, .refl _, .refl _, .refl _, .refl _, .refl _, LeP.nil 2, LeP.nil 2, .refl _, LeP.nil 2, .refl _, .refl _, .refl _, .refl _, .refl _, .refl _, .refl _, .refl _, .refl _, LeP.nil 1, .refl _, .refl _, LeP.nil 1, LeP.nil 2, LeP.nil 2, .refl _, .refl _, LeP.nil 1, trivial⟩, trivial⟩ ?_
  (first | refine fin1 ?_ | refine fin0 ?_)
  repeat ((conv => whnf); refine And.intro (by first | rfl | (simp [AV.pure, pureL]; done) | fail) ?_)
  rfl
theorem dec194_e4 (b : List UInt8) (hb : b.length < 2 ^ 40) (wide : Bool) (h19 : 19 ≤ b.length) (x y k : UInt8) (hx : (byteCells b)[16]? = some [.int .u8 x.toNat]) (hy : (byteCells b)[17]? = some [.int .u8 y.toNat]) (hk : (byteCells b)[18]? = some [.int .u8 k.toNat]) (n : Nat) (hn : n = rd ((b.drop 16).take 2)) (q : ¬ n < 19) (k1 : ¬ k.toNat < 1) (k5 : ¬ k.toNat > 5) (qb : badLen (k.toNat : Nat) (n : Nat) = false) (ql : b.length < n) (g1 g2 : Nat) (T : List (Nat × AV)) (H : Heap) (c : Nat) : Ev G ⟨[.code (suf 3 f194.body)], ⟨(0, .sl 1 (byteCells b)) :: (1, .bool wide) :: (4, .ref 68 g1 0) :: (6, .ref 70 g2 0) :: (7, .int .i64 0) :: T, (68, some (g1, .cells zeroM.enc)) :: (70, some (g2, .cells zeroM.enc)) :: H, c⟩, [.cell 4 (some 27), .t 5, .cell 6 (some 27), .t 7], 0⟩ (decMR (zeroM, 0, zeroM, 3)) := by
  have hbl := byteCells_length b
  have hx8 := x.toNat_lt
  have hy8 := y.toNat_lt
  have hk8 := k.toNat_lt
  have hr : n < 256 ^ 2 := by rw [hn]; exact rd_le (by simp; omega)
  have hg : Gives G 110 [.sl 1 (byteCells b), .int .i64 16, .int .i64 2] [] ⟨.tup [.int .u64 (n : Nat), .bool true], []⟩ := by
    rw [hn]; exact get_gives110 b hb 16 2 (by omega) (by omega) (by omega) (by omega)
  have hN : Gives G 198 [.int .i64 1, .int .i64 2, .sl 1 [[.int .u8 x.toNat], [.int .u8 y.toNat]]] [] ⟨.agg (noteM 1 2 [x, y]).enc, []⟩ := notify198 1 2 [x, y]
  have hB := badLength199 (k.toNat : Nat) (n : Nat) (by omega)
  rw [qb] at hB
  clear hn
  refine W_ok 300 _ _ _ _ ?_
  repeat' (first | refine stpA ?_ | refine kX [] [(113, _, _)] trivial ⟨rfl, pz trivial⟩ (hN) ?_ | (refine condS ?_ ?_ <;> intro h))
  refine ev_le [] [(68, some (_, .cells zeroM.enc)), (70, some (_, .cells zeroM.enc))] trivial ⟨⟨rfl, .refl _, .refl _, .refl _, .refl _, .refl _, LeP.nil 2, LeP.nil 2, .refl _, LeP.nil 2, .refl _, .refl _, .refl _, .refl _, .refl _, .refl _, .refl _, .refl _, .refl _, LeP.nil 1, .refl _, .refl _, LeP.nil 1, LeP.nil 2, LeP.nil 2, .refl _, .refl _, LeP.nil 1, trivial⟩, ⟨rfl, .refl _, .refl _, .refl _, .refl _, .refl _, LeP.nil 2, LeP.nil 2, .refl _, LeP.nil 2, .refl _, .refl _, .refl _, .refl _, .refl _, .refl _, .refl _, .refl _, .refl _, LeP.nil 1, .refl _, .refl _, LeP.nil 1, LeP.nil 2, LeP.nil 2, .refl _, .refl _, LeP.nil 1, trivial⟩, trivial⟩ ?_
  (first | refine fin1 ?_ | refine fin0 ?_)
  repeat ((conv => whnf); refine And.intro (by first | rfl | (simp [AV.pure, pureL]; done) | fail) ?_)
  rfl
theorem dec194_e5 (b : List UInt8) (hb : b.length < 2 ^ 40) (wide : Bool) (h19 : 19 ≤ b.length) (x y k : UInt8) (hx : (byteCells b)[16]? = some [.int .u8 x.toNat]) (hy : (byteCells b)[17]? = some [.int .u8 y.toNat]) (hk : (byteCells b)[18]? = some [.int .u8 k.toNat]) (n : Nat) (hn : n = rd ((b.drop 16).take 2)) (q : ¬ n < 19) (k1 : ¬ k.toNat < 1) (k5 : ¬ k.toNat > 5) (qb : badLen (k.toNat : Nat) (n : Nat) = false) (ql : ¬ b.length < n) (d : List UInt8) (hd : d = (b.take n).drop 19) (t : Ret) (K : ∀ (g1 g2 g3 : Nat) (T : List (Nat × AV)) (H : Heap) (c : Nat), Ev G ⟨[.code (suf 9 f194.body)], ⟨(14, .sl 1 (byteCells d)) :: (5, .int .i64 (n : Nat)) :: (12, .int .i64 (k.toNat : Nat)) :: (13, .ref 77 g3 0) :: (1, .bool wide) :: (4, .ref 68 g1 0) :: (6, .ref 70 g2 0) :: (7, .int .i64 0) :: T, (77, some (g3, .cells (noteM 1 2 [x, y]).enc)) :: (68, some (g1, .cells zeroM.enc)) :: (70, some (g2, .cells zeroM.enc)) :: H, c⟩, [.cell 4 (some 27), .t 5, .cell 6 (some 27), .t 7], 0⟩ t) (g1 g2 : Nat) (T : List (Nat × AV)) (H : Heap) (c : Nat) : Ev G ⟨[.code (suf 3 f194.body)], ⟨(0, .sl 1 (byteCells b)) :: (1, .bool wide) :: (4, .ref 68 g1 0) :: (6, .ref 70 g2 0) :: (7, .int .i64 0) :: T, (68, some (g1, .cells zeroM.enc)) :: (70, some (g2, .cells zeroM.enc)) :: H, c⟩, [.cell 4 (some 27), .t 5, .cell 6 (some 27), .t 7], 0⟩ t := by
  have hbl := byteCells_length b
  have hx8 := x.toNat_lt
  have hy8 := y.toNat_lt
  have hk8 := k.toNat_lt
  have hr : n < 256 ^ 2 := by rw [hn]; exact rd_le (by simp; omega)
  have hg : Gives G 110 [.sl 1 (byteCells b), .int .i64 16, .int .i64 2] [] ⟨.tup [.int .u64 (n : Nat), .bool true], []⟩ := by
    rw [hn]; exact get_gives110 b hb 16 2 (by omega) (by omega) (by omega) (by omega)
  have hN : Gives G 198 [.int .i64 1, .int .i64 2, .sl 1 [[.int .u8 x.toNat], [.int .u8 y.toNat]]] [] ⟨.agg (noteM 1 2 [x, y]).enc, []⟩ := notify198 1 2 [x, y]
  have hB := badLength199 (k.toNat : Nat) (n : Nat) (by omega)
  rw [qb] at hB
  have hcut : List.take (((n : Nat) : Int).toNat - Int.toNat 19) (List.drop (Int.toNat 19) (byteCells b)) = byteCells d := by
    rw [hd, List.drop_take]; simp [byteCells]
  clear hn
  refine ev_seq (b := suf 4 f194.body) ?_
  refine W_okd 1 300 _ _ _ _ ?_
  repeat' (first | refine stpA ?_ | refine kX [] [(113, _, _)] trivial ⟨rfl, pz trivial⟩ (hN) ?_ | (refine condS ?_ ?_ <;> intro h))
  refine ev_seq (b := suf 5 f194.body) ?_
  refine W_okd 1 300 _ _ _ _ ?_
  repeat' (first | refine stpA ?_ | refine kX [] [(113, _, _)] trivial ⟨rfl, pz trivial⟩ (hN) ?_ | (refine condS ?_ ?_ <;> intro h))
  refine ev_seq (b := suf 6 f194.body) ?_
  refine W_okd 1 300 _ _ _ _ ?_
  repeat' (first | refine stpA ?_ | refine kX [] [(113, _, _)] trivial ⟨rfl, pz trivial⟩ (hN) ?_ | (refine condS ?_ ?_ <;> intro h))
  refine ev_seq (b := suf 7 f194.body) ?_
  refine W_okd 1 300 _ _ _ _ ?_
  repeat' (first | refine stpA ?_ | refine kX [] [(113, _, _)] trivial ⟨rfl, pz trivial⟩ (hN) ?_ | (refine condS ?_ ?_ <;> intro h))
  refine ev_seq (b := suf 8 f194.body) ?_
  refine W_okd 1 300 _ _ _ _ ?_
  repeat' (first | refine stpA ?_ | refine kX [] [(113, _, _)] trivial ⟨rfl, pz trivial⟩ (hN) ?_ | (refine condS ?_ ?_ <;> intro h))
  refine ev_seq (b := suf 9 f194.body) ?_
  refine W_okd 1 300 _ _ _ _ ?_
  repeat' (first | refine stpA ?_ | refine kX [] [(113, _, _)] trivial ⟨rfl, pz trivial⟩ (hN) ?_ | (refine condS ?_ ?_ <;> intro h))
  rw [hcut]
  refine ev_keep [14, 5, 12, 13, 1, 4, 6, 7] [77, 68, 70] ?_
  exact K _ _ _ _ _ _
end Go.AM.IR
set_option maxHeartbeats 4000000
set_option maxRecDepth 20000
namespace Go.AM.IR
theorem leEq {a b : AV} (h : a = b) : LeP Any a b := h ▸ LeP.refl _
theorem dec194_end (m f : PMsg) (e : Int) (n : Nat) (g1 g2 : Nat) (T : List (Nat × AV)) (H : Heap) (c : Nat) : Ev G ⟨[.code (suf 11 f194.body)], ⟨(4, .ref 68 g1 0) :: (5, .int .i64 (n : Nat)) :: (6, .ref 70 g2 0) :: (7, .int .i64 e) :: T, (68, some (g1, .cells m.enc)) :: (70, some (g2, .cells f.enc)) :: H, c⟩, [.cell 4 (some 27), .t 5, .cell 6 (some 27), .t 7], 0⟩ (decMR (finM n (m, f, e))) := by
  unfold finM
  by_cases h : e = 0
  · subst h
    rw [if_pos rfl]
    refine W_ok 300 _ _ _ _ ?_
    repeat' (first | refine stpA ?_ | (refine condS ?_ ?_ <;> intro h))
    refine ev_le [] [(70, some (_, .cells zeroM.enc))] trivial ⟨⟨rfl, .refl _, .refl _, .refl _, .refl _, .refl _, LeP.nil 2, LeP.nil 2, .refl _, LeP.nil 2, .refl _, .refl _, .refl _, .refl _, .refl _, .refl _, .refl _, .refl _, .refl _, LeP.nil 1, .refl _, .refl _, LeP.nil 1, LeP.nil 2, LeP.nil 2, .refl _, .refl _, LeP.nil 1, trivial⟩, trivial⟩ ?_
    (first | refine fin1 ?_ | refine fin0 ?_)
    repeat ((conv => whnf); refine And.intro (by first | rfl | (simp [AV.pure, pureL]; done) | fail) ?_)
    rfl
  · rw [if_neg h]
    refine W_ok 300 _ _ _ _ ?_
    repeat' (first | refine stpA ?_ | (refine condS ?_ ?_ <;> intro h))
    refine ev_le [] [(68, some (_, .cells zeroM.enc))] trivial ⟨⟨rfl, .refl _, .refl _, .refl _, .refl _, .refl _, LeP.nil 2, LeP.nil 2, .refl _, LeP.nil 2, .refl _, .refl _, .refl _, .refl _, .refl _, .refl _, .refl _, .refl _, .refl _, LeP.nil 1, .refl _, .refl _, LeP.nil 1, LeP.nil 2, LeP.nil 2, .refl _, .refl _, LeP.nil 1, trivial⟩, trivial⟩ ?_
    (first | refine fin1 ?_ | refine fin0 ?_)
    repeat ((conv => whnf); refine And.intro (by first | rfl | (simp [AV.pure, pureL]; done) | fail) ?_)
    rfl
theorem dec194_k1 (d : List UInt8) (wide : Bool) (x y : UInt8) (n : Nat) (m f : PMsg) (e : Int) (h : Gives G 200 [.sl 1 (byteCells d)] [] ⟨.tup [.agg m.enc, .agg f.enc, .int .i64 e], []⟩) (t : Ret) (K : ∀ (g1 g2 : Nat) (T : List (Nat × AV)) (H : Heap) (c : Nat), Ev G ⟨[.code (suf 11 f194.body)], ⟨(4, .ref 68 g1 0) :: (5, .int .i64 (n : Nat)) :: (6, .ref 70 g2 0) :: (7, .int .i64 e) :: T, (68, some (g1, .cells m.enc)) :: (70, some (g2, .cells f.enc)) :: H, c⟩, [.cell 4 (some 27), .t 5, .cell 6 (some 27), .t 7], 0⟩ t) (g1 g2 g3 : Nat) (T : List (Nat × AV)) (H : Heap) (c : Nat) : Ev G ⟨[.code (suf 9 f194.body)], ⟨(14, .sl 1 (byteCells d)) :: (5, .int .i64 (n : Nat)) :: (12, .int .i64 1) :: (13, .ref 77 g3 0) :: (1, .bool wide) :: (4, .ref 68 g1 0) :: (6, .ref 70 g2 0) :: (7, .int .i64 0) :: T, (77, some (g3, .cells (noteM 1 2 [x, y]).enc)) :: (68, some (g1, .cells zeroM.enc)) :: (70, some (g2, .cells zeroM.enc)) :: H, c⟩, [.cell 4 (some 27), .t 5, .cell 6 (some 27), .t 7], 0⟩ t := by
  refine ev_seq (b := suf 10 f194.body) ?_
  refine W_okd 1 300 _ _ _ _ ?_
  repeat' (first | refine stpA ?_ | (refine condS ?_ ?_ <;> intro h))
  refine ev_seq (b := suf 11 f194.body) ?_
  refine W_okd 1 300 _ _ _ _ ?_
  repeat' (first | refine stpA ?_ | (refine condS ?_ ?_ <;> intro h))
  refine ev_keep [4, 5, 6, 7] [68, 70] ?_
  exact K _ _ _ _ _
theorem dec194_k2 (d : List UInt8) (wide : Bool) (x y : UInt8) (n : Nat) (m f : PMsg) (e : Int) (h : Gives G 201 [.sl 1 (byteCells d), .bool wide] [] ⟨.tup [.agg m.enc, .agg f.enc, .int .i64 e], []⟩) (t : Ret) (K : ∀ (g1 g2 : Nat) (T : List (Nat × AV)) (H : Heap) (c : Nat), Ev G ⟨[.code (suf 11 f194.body)], ⟨(4, .ref 68 g1 0) :: (5, .int .i64 (n : Nat)) :: (6, .ref 70 g2 0) :: (7, .int .i64 e) :: T, (68, some (g1, .cells m.enc)) :: (70, some (g2, .cells f.enc)) :: H, c⟩, [.cell 4 (some 27), .t 5, .cell 6 (some 27), .t 7], 0⟩ t) (g1 g2 g3 : Nat) (T : List (Nat × AV)) (H : Heap) (c : Nat) : Ev G ⟨[.code (suf 9 f194.body)], ⟨(14, .sl 1 (byteCells d)) :: (5, .int .i64 (n : Nat)) :: (12, .int .i64 2) :: (13, .ref 77 g3 0) :: (1, .bool wide) :: (4, .ref 68 g1 0) :: (6, .ref 70 g2 0) :: (7, .int .i64 0) :: T, (77, some (g3, .cells (noteM 1 2 [x, y]).enc)) :: (68, some (g1, .cells zeroM.enc)) :: (70, some (g2, .cells zeroM.enc)) :: H, c⟩, [.cell 4 (some 27), .t 5, .cell 6 (some 27), .t 7], 0⟩ t := by
  refine ev_seq (b := suf 10 f194.body) ?_
  refine W_okd 1 300 _ _ _ _ ?_
  repeat' (first | refine stpA ?_ | (refine condS ?_ ?_ <;> intro h))
  refine ev_seq (b := suf 11 f194.body) ?_
  refine W_okd 1 300 _ _ _ _ ?_
  repeat' (first | refine stpA ?_ | (refine condS ?_ ?_ <;> intro h))
  refine ev_keep [4, 5, 6, 7] [68, 70] ?_
  exact K _ _ _ _ _
theorem dec194_k3 (c0 s0 : UInt8) (r : List UInt8) (hr : r.length < 2 ^ 40) (wide : Bool) (x y : UInt8) (n : Nat) (e : Int) (hc : Gives G 144 [.agg (noteM (c0.toNat : Nat) (s0.toNat : Nat) r).enc] [] ⟨.int .i64 e, []⟩) (t : Ret) (K : ∀ (g1 g2 : Nat) (T : List (Nat × AV)) (H : Heap) (c : Nat), Ev G ⟨[.code (suf 11 f194.body)], ⟨(4, .ref 68 g1 0) :: (5, .int .i64 (n : Nat)) :: (6, .ref 70 g2 0) :: (7, .int .i64 e) :: T, (68, some (g1, .cells (noteM (c0.toNat : Nat) (s0.toNat : Nat) r).enc)) :: (70, some (g2, .cells (if e = 0 then zeroM else noteM 1 2 [x, y]).enc)) :: H, c⟩, [.cell 4 (some 27), .t 5, .cell 6 (some 27), .t 7], 0⟩ t) (g1 g2 g3 : Nat) (T : List (Nat × AV)) (H : Heap) (c : Nat) : Ev G ⟨[.code (suf 9 f194.body)], ⟨(14, .sl 1 (byteCells (c0 :: s0 :: r))) :: (5, .int .i64 (n : Nat)) :: (12, .int .i64 3) :: (13, .ref 77 g3 0) :: (1, .bool wide) :: (4, .ref 68 g1 0) :: (6, .ref 70 g2 0) :: (7, .int .i64 0) :: T, (77, some (g3, .cells (noteM 1 2 [x, y]).enc)) :: (68, some (g1, .cells zeroM.enc)) :: (70, some (g2, .cells zeroM.enc)) :: H, c⟩, [.cell 4 (some 27), .t 5, .cell 6 (some 27), .t 7], 0⟩ t := by
  have hrl := byteCells_length r
  have hcl : (byteCells (c0 :: s0 :: r)).length = r.length + 2 := by rw [byteCells_length]; rfl
  have h08 := c0.toNat_lt
  have hs8 := s0.toNat_lt
  have hcut : List.take ((byteCells (c0 :: s0 :: r)).length - Int.toNat 2) (List.drop (Int.toNat 2) (byteCells (c0 :: s0 :: r))) = byteCells r := by
    rw [List.take_of_length_le (by rw [List.length_drop]; exact Nat.le_refl _)]; rfl
  have hc2 : Gives G 144 [.agg [.int .i64 3, .int .i64 0, .int .i64 0, .int .i64 0, .int .u32 0, nilV, nilV, .int .i64 0, nilV, .int .u32 0, .bool false, .int .i64 0, .bool false, .int .i64 0, .bool false, .bool false, .int .i64 0, .int .u32 0, nilV, .bool false, .int .u32 0, nilV, nilV, nilV, .int .i64 (c0.toNat : Nat), .int .i64 (s0.toNat : Nat), .sl 1 (List.take ((byteCells (c0 :: s0 :: r)).length - Int.toNat 2) (List.drop (Int.toNat 2) (byteCells (c0 :: s0 :: r))))]] [] ⟨.int .i64 e, []⟩ := by
    rw [hcut]
    exact gives_le rfl hc ⟨LeP.agg (by repeat' (first | exact trivial | exact LeP.refl _ | exact LeP.nil _ | refine LeP.sl ?_ | refine ⟨?_, ?_⟩)), trivial⟩
  by_cases h : e = 0
  · subst h
    rw [if_pos rfl] at K
    refine ev_seq (b := suf 10 f194.body) ?_
    refine W_okd 1 300 _ _ _ _ ?_
    repeat' (first | refine stpA ?_ | (refine condS ?_ ?_ <;> intro h))
    refine ev_seq (b := suf 11 f194.body) ?_
    refine W_okd 1 300 _ _ _ _ ?_
    repeat' (first | refine stpA ?_ | refine kZ [(179, _, _)] ⟨rfl, pz trivial⟩ (hc2) ?_ | refine takP ?_ | (refine condS ?_ ?_ <;> intro h))
    refine ev_frzk [(179, _, _)] [4, 5, 6, 7] [68, 70] ⟨rfl, (by first | rfl | (simp [Blk.pure, pureL, pureLL, AV.pure, *]; done) | fail), trivial⟩ ?_; repeat ((conv => whnf); first | refine And.intro (by first | rfl | omega | (simp [pureL, pureLL, AV.pure]; done) | (simp; omega) | (simp [pureL, pureLL, AV.pure, *]; done) | assumption | fail) ?_ | intro T H)
    refine ev_le [] [(68, some (_, .cells (noteM (c0.toNat : Nat) (s0.toNat : Nat) r).enc))] trivial ⟨⟨rfl, .refl _, .refl _, .refl _, .refl _, .refl _, LeP.nil 2, LeP.nil 2, .refl _, LeP.nil 2, .refl _, .refl _, .refl _, .refl _, .refl _, .refl _, .refl _, .refl _, .refl _, LeP.nil 1, .refl _, .refl _, LeP.nil 1, LeP.nil 2, LeP.nil 2, .refl _, .refl _, leEq (by rw [List.nil_append, hcut]; rfl), trivial⟩, trivial⟩ ?_
    refine ev_keep [4, 5, 6, 7] [68, 70] ?_
    exact K _ _ _ _ _
  · rw [if_neg h] at K
    refine ev_seq (b := suf 10 f194.body) ?_
    refine W_okd 1 300 _ _ _ _ ?_
    repeat' (first | refine stpA ?_ | (refine condS ?_ ?_ <;> intro h))
    refine ev_seq (b := suf 11 f194.body) ?_
    refine W_okd 1 300 _ _ _ _ ?_
    repeat' (first | refine stpA ?_ | refine kZ [(179, _, _)] ⟨rfl, pz trivial⟩ (hc2) ?_ | refine takP ?_ | (refine condS ?_ ?_ <;> intro h))
    refine ev_frzk [(179, _, _)] [4, 5, 6, 7] [68, 70] ⟨rfl, (by first | rfl | (simp [Blk.pure, pureL, pureLL, AV.pure, *]; done) | fail), trivial⟩ ?_; repeat ((conv => whnf); first | refine And.intro (by first | rfl | omega | (simp [pureL, pureLL, AV.pure]; done) | (simp; omega) | (simp [pureL, pureLL, AV.pure, *]; done) | assumption | fail) ?_ | intro T H)
    refine ev_le [] [(68, some (_, .cells (noteM (c0.toNat : Nat) (s0.toNat : Nat) r).enc))] trivial ⟨⟨rfl, .refl _, .refl _, .refl _, .refl _, .refl _, LeP.nil 2, LeP.nil 2, .refl _, LeP.nil 2, .refl _, .refl _, .refl _, .refl _, .refl _, .refl _, .refl _, .refl _, .refl _, LeP.nil 1, .refl _, .refl _, LeP.nil 1, LeP.nil 2, LeP.nil 2, .refl _, .refl _, leEq (by rw [List.nil_append, hcut]; rfl), trivial⟩, trivial⟩ ?_
    refine ev_keep [4, 5, 6, 7] [68, 70] ?_
    exact K _ _ _ _ _
theorem dec194_k4 (d : List UInt8) (wide : Bool) (x y : UInt8) (n : Nat) (t : Ret) (K : ∀ (g1 g2 : Nat) (T : List (Nat × AV)) (H : Heap) (c : Nat), Ev G ⟨[.code (suf 11 f194.body)], ⟨(4, .ref 68 g1 0) :: (5, .int .i64 (n : Nat)) :: (6, .ref 70 g2 0) :: (7, .int .i64 0) :: T, (68, some (g1, .cells ({ zeroM with kind := 4 } : PMsg).enc)) :: (70, some (g2, .cells zeroM.enc)) :: H, c⟩, [.cell 4 (some 27), .t 5, .cell 6 (some 27), .t 7], 0⟩ t) (g1 g2 g3 : Nat) (T : List (Nat × AV)) (H : Heap) (c : Nat) : Ev G ⟨[.code (suf 9 f194.body)], ⟨(14, .sl 1 (byteCells d)) :: (5, .int .i64 (n : Nat)) :: (12, .int .i64 4) :: (13, .ref 77 g3 0) :: (1, .bool wide) :: (4, .ref 68 g1 0) :: (6, .ref 70 g2 0) :: (7, .int .i64 0) :: T, (77, some (g3, .cells (noteM 1 2 [x, y]).enc)) :: (68, some (g1, .cells zeroM.enc)) :: (70, some (g2, .cells zeroM.enc)) :: H, c⟩, [.cell 4 (some 27), .t 5, .cell 6 (some 27), .t 7], 0⟩ t := by
  refine ev_seq (b := suf 10 f194.body) ?_
  refine W_okd 1 300 _ _ _ _ ?_
  repeat' (first | refine stpA ?_ | (refine condS ?_ ?_ <;> intro h))
  refine ev_seq (b := suf 11 f194.body) ?_
  refine W_okd 1 300 _ _ _ _ ?_
  repeat' (first | refine stpA ?_ | (refine condS ?_ ?_ <;> intro h))
  refine ev_le [] [(68, some (_, .cells ({ zeroM with kind := 4 } : PMsg).enc))] trivial ⟨⟨rfl, .refl _, .refl _, .refl _, .refl _, .refl _, LeP.nil 2, LeP.nil 2, .refl _, LeP.nil 2, .refl _, .refl _, .refl _, .refl _, .refl _, .refl _, .refl _, .refl _, .refl _, LeP.nil 1, .refl _, .refl _, LeP.nil 1, LeP.nil 2, LeP.nil 2, .refl _, .refl _, LeP.nil 1, trivial⟩, trivial⟩ ?_
  refine ev_keep [4, 5, 6, 7] [68, 70] ?_
  exact K _ _ _ _ _
theorem dec194_k5 (d : List UInt8) (wide : Bool) (x y : UInt8) (n : Nat) (t : Ret) (K : ∀ (g1 g2 : Nat) (T : List (Nat × AV)) (H : Heap) (c : Nat), Ev G ⟨[.code (suf 11 f194.body)], ⟨(4, .ref 68 g1 0) :: (5, .int .i64 (n : Nat)) :: (6, .ref 70 g2 0) :: (7, .int .i64 (if d = [0, 1, 0, 1] then 0 else 2)) :: T, (68, some (g1, .cells ({ zeroM with kind := 5 } : PMsg).enc)) :: (70, some (g2, .cells (if d = [0, 1, 0, 1] then zeroM else noteM 1 2 [x, y]).enc)) :: H, c⟩, [.cell 4 (some 27), .t 5, .cell 6 (some 27), .t 7], 0⟩ t) (g1 g2 g3 : Nat) (T : List (Nat × AV)) (H : Heap) (c : Nat) : Ev G ⟨[.code (suf 9 f194.body)], ⟨(14, .sl 1 (byteCells d)) :: (5, .int .i64 (n : Nat)) :: (12, .int .i64 5) :: (13, .ref 77 g3 0) :: (1, .bool wide) :: (4, .ref 68 g1 0) :: (6, .ref 70 g2 0) :: (7, .int .i64 0) :: T, (77, some (g3, .cells (noteM 1 2 [x, y]).enc)) :: (68, some (g1, .cells zeroM.enc)) :: (70, some (g2, .cells zeroM.enc)) :: H, c⟩, [.cell 4 (some 27), .t 5, .cell 6 (some 27), .t 7], 0⟩ t := by
  by_cases h : d = [0, 1, 0, 1]
  · rw [if_pos h, if_pos h] at K
    subst h
    refine ev_seq (b := suf 10 f194.body) ?_
    refine W_okd 1 300 _ _ _ _ ?_
    repeat' (first | refine stpA ?_ | (refine condS ?_ ?_ <;> intro h))
    refine ev_seq (b := suf 11 f194.body) ?_
    refine W_okd 1 300 _ _ _ _ ?_
    repeat' (first | refine stpA ?_ | refine zBv (l := [0, 1, 0, 1]) rfl rfl ?_ | (refine condS ?_ ?_ <;> intro h))
    refine ev_le [] [(68, some (_, .cells ({ zeroM with kind := 5 } : PMsg).enc))] trivial ⟨⟨rfl, .refl _, .refl _, .refl _, .refl _, .refl _, LeP.nil 2, LeP.nil 2, .refl _, LeP.nil 2, .refl _, .refl _, .refl _, .refl _, .refl _, .refl _, .refl _, .refl _, .refl _, LeP.nil 1, .refl _, .refl _, LeP.nil 1, LeP.nil 2, LeP.nil 2, .refl _, .refl _, LeP.nil 1, trivial⟩, trivial⟩ ?_
    refine ev_keep [4, 5, 6, 7] [68, 70] ?_
    exact K _ _ _ _ _
  · rw [if_neg h, if_neg h] at K
    have hs : (d == [0, 1, 0, 1]) = false := by simpa using h
    have hs2 : (d != [0, 1, 0, 1]) = true := by simpa using h
    refine ev_seq (b := suf 10 f194.body) ?_
    refine W_okd 1 300 _ _ _ _ ?_
    repeat' (first | refine stpA ?_ | (refine condS ?_ ?_ <;> intro h))
    refine ev_seq (b := suf 11 f194.body) ?_
    refine W_okd 1 300 _ _ _ _ ?_
    repeat' (first | refine stpA ?_ | refine zBv (l := [0, 1, 0, 1]) rfl rfl ?_ | (refine condS ?_ ?_ <;> intro h))
    refine ev_le [] [(68, some (_, .cells ({ zeroM with kind := 5 } : PMsg).enc))] trivial ⟨⟨rfl, .refl _, .refl _, .refl _, .refl _, .refl _, LeP.nil 2, LeP.nil 2, .refl _, LeP.nil 2, .refl _, .refl _, .refl _, .refl _, .refl _, .refl _, .refl _, .refl _, .refl _, LeP.nil 1, .refl _, .refl _, LeP.nil 1, LeP.nil 2, LeP.nil 2, .refl _, .refl _, LeP.nil 1, trivial⟩, trivial⟩ ?_
    refine ev_keep [4, 5, 6, 7] [68, 70] ?_
    exact K _ _ _ _ _
end Go.AM.IR
set_option maxHeartbeats 4000000
set_option maxRecDepth 20000
namespace Go.AM.IR
theorem dec_short69 (wide : Bool) (w N : Nat) (hw : wd wide = w) (hN : N < 2 ^ 29) (b v rest : List UInt8) (c k : UInt8) (n : Nat) (hb0 : (byteCells b)[0]? = some [.int .u8 (c.toNat : Int)]) (hb1 : (byteCells b)[1]? = some [.int .u8 (k.toNat : Int)]) (hbit : bit16 c = false) (hlen : b.length < 2 ^ 29) (hh : 3 ≤ b.length)
  (hget : Gives G 93 [.sl 1 (byteCells b), .int .i64 2, .int .i64 1] [] ⟨.int .i64 (n : Int), []⟩) (hn : n ≤ 65535) (last : Int) (nd : Nat) (hnd : nd < 2 ^ 40) (a : Attrs) (hu : a.unknown.length < 2 ^ 29) (R : Ret)
  (h1 : b.length < 3 + n → R = decR (3, zeroA)) (h2 : 3 + n ≤ b.length → (k.toNat : Int) ≤ last → R = decR (16, zeroA))
  (h3 : 3 + n ≤ b.length → ¬ (k.toNat : Int) ≤ last → badHead ⟨c, k, false, (b.drop 3).take n, b.drop (3 + n)⟩ → R = decR (2, zeroA))
  (h4 : 3 + n ≤ b.length → ¬ (k.toNat : Int) ≤ last → ¬ badHead ⟨c, k, false, (b.drop 3).take n, b.drop (3 + n)⟩ → setA w k.toNat ((b.drop 3).take n) a = none → R = decR (2, zeroA))
  (go : 3 + n ≤ b.length → ¬ (k.toNat : Int) ≤ last → ¬ badHead ⟨c, k, false, (b.drop 3).take n, b.drop (3 + n)⟩ → ∀ a', setA w k.toNat ((b.drop 3).take n) a = some a' → ∀ (T : List (Nat × AV)) (H : Heap) (c g1 g2 g3 : Nat), Ev G ⟨f69x21LH, ⟨(4, .ref 68 g1 0) :: (0, .sl 1 (byteCells (b.drop (3 + n)))) :: (8, .int .i64 ((nd + isReq k.toNat : Nat) : Int)) :: (6, .ref 70 g2 0) :: (1, .bool wide) :: (7, .int .i64 (k.toNat : Int)) :: T, (68, some (g1, .cells zeroC)) :: (70, some (g2, .cells (a'.cellsV (.vs 300 g3 a'.unknown.length)))) :: (300, some (g3, .vec 2 (a'.unknown.map TLV.enc))) :: H, c⟩, [.cell 4 (some 16), .t 5], 0⟩ R)
  (T : List (Nat × AV)) (H : Heap) (c_ g1 g2 g3 : Nat) : Ev G ⟨f69x21LH, ⟨(4, .ref 68 g1 0) :: (0, .sl 1 (byteCells b)) :: (8, .int .i64 (nd : Int)) :: (6, .ref 70 g2 0) :: (1, .bool wide) :: (7, .int .i64 last) :: T, (68, some (g1, .cells zeroC)) :: (70, some (g2, .cells (a.cellsV (.vs 300 g3 a.unknown.length)))) :: (300, some (g3, .vec 2 (a.unknown.map TLV.enc))) :: H, c_⟩, [.cell 4 (some 16), .t 5], 0⟩ R := by
  have hbl := byteCells_length b
  have hk := k.toNat_lt
  have hflag := flag_gives94 (k.toNat : Int) (by omega)
  have hwg := width_gives96 wide
  rw [hw] at hwg
  by_cases c1 : b.length < 3 + n
  · rw [h1 c1]
    refine ev_loop' (W_ok 300 _ _ _ _ ?_)
    repeat' ((conv => whnf); first | refine zAndF hbit ?_ | refine zNotB ?_ | refine bslP (by first | rfl | (simp [pureL, pureLL, AV.pure]; done) | fail) rfl ?_ | refine TakeC.full (by first | rfl | omega | (simp; done) | (simp; omega) | fail) ?_ | refine zBs ?_ | refine zBn ?_ | refine zBv rfl rfl ?_ | refine zN ?_ | refine zC ?_ | refine zC4 ?_ | refine zOr16 ?_ | refine zC1 ?_ | refine zByte ?_ | refine zMaxL ?_ | refine zMaxR ?_ | refine zMinL ?_ | refine zMinR ?_ | refine zShr ?_ | refine zC8 ?_ | refine zQ ?_ | refine zR ?_ | refine zS ?_ | refine zA ?_ | refine zM ?_ | refine xr rfl ?_ | refine ai rfl ?_ | refine condT ?_ | refine condF ?_ | refine condG1 ?_ | refine condG0 ?_ | refine cD ?_ | refine dD ?_ | refine cB ?_ | refine dB ?_ | refine cN ?_ | refine dN ?_ | refine cV ?_ | refine dV ?_ | refine cE ?_ | refine dE ?_ | refine condX0 ?_ | refine condX1 ?_ | refine condNot ?_ | refine condAnd ?_ | refine condOr ?_ | refine aO ?_ | refine aB ?_ | refine aR ?_ | refine aR ?_ (by simp; omega) | refine xr (by assumption) ?_ | refine ai (by assumption) ?_ | refine kV (by assumption) ?_ | refine kN (by assumption) ?_ | refine callW (by assumption) ?_ | refine condD (fun h => ?_) (fun h => ?_) | refine condB (fun h => ?_) (fun h => ?_) | refine condN (fun h => ?_) (fun h => ?_) | refine condE (fun h => ?_) (fun h => ?_) | refine condV (fun h => ?_) (fun h => ?_))
    refine ev_le [] [(68, some (_, .cells zeroA.enc))] trivial ⟨⟨rfl, .refl _, LeP.nil 2, .refl _, .refl _, .refl _, .refl _, .refl _, .refl _, .refl _, .refl _, .refl _, LeP.nil 1, .refl _, .refl _, LeP.nil 1, LeP.nil 2, trivial⟩, trivial⟩ ?_
    (first | refine fin1 ?_ | refine fin0 ?_)
    (conv => whnf); exact And.intro (by first | rfl | (simp [AV.pure, pureL]; done) | fail) rfl
  have c1 : 3 + n ≤ b.length := by omega
  by_cases c2 : (k.toNat : Int) ≤ last
  · rw [h2 c1 c2]
    refine ev_loop' (W_ok 300 _ _ _ _ ?_)
    repeat' ((conv => whnf); first | refine zAndF hbit ?_ | refine zNotB ?_ | refine bslP (by first | rfl | (simp [pureL, pureLL, AV.pure]; done) | fail) rfl ?_ | refine TakeC.full (by first | rfl | omega | (simp; done) | (simp; omega) | fail) ?_ | refine zBs ?_ | refine zBn ?_ | refine zBv rfl rfl ?_ | refine zN ?_ | refine zC ?_ | refine zC4 ?_ | refine zOr16 ?_ | refine zC1 ?_ | refine zByte ?_ | refine zMaxL ?_ | refine zMaxR ?_ | refine zMinL ?_ | refine zMinR ?_ | refine zShr ?_ | refine zC8 ?_ | refine zQ ?_ | refine zR ?_ | refine zS ?_ | refine zA ?_ | refine zM ?_ | refine xr rfl ?_ | refine ai rfl ?_ | refine condT ?_ | refine condF ?_ | refine condG1 ?_ | refine condG0 ?_ | refine cD ?_ | refine dD ?_ | refine cB ?_ | refine dB ?_ | refine cN ?_ | refine dN ?_ | refine cV ?_ | refine dV ?_ | refine cE ?_ | refine dE ?_ | refine condX0 ?_ | refine condX1 ?_ | refine condNot ?_ | refine condAnd ?_ | refine condOr ?_ | refine aO ?_ | refine aB ?_ | refine aR ?_ | refine aR ?_ (by simp; omega) | refine xr (by assumption) ?_ | refine ai (by assumption) ?_ | refine kV (by assumption) ?_ | refine kN (by assumption) ?_ | refine callW (by assumption) ?_ | refine condD (fun h => ?_) (fun h => ?_) | refine condB (fun h => ?_) (fun h => ?_) | refine condN (fun h => ?_) (fun h => ?_) | refine condE (fun h => ?_) (fun h => ?_) | refine condV (fun h => ?_) (fun h => ?_))
    refine ev_le [] [(68, some (_, .cells zeroA.enc))] trivial ⟨⟨rfl, .refl _, LeP.nil 2, .refl _, .refl _, .refl _, .refl _, .refl _, .refl _, .refl _, .refl _, .refl _, LeP.nil 1, .refl _, .refl _, LeP.nil 1, LeP.nil 2, trivial⟩, trivial⟩ ?_
    (first | refine fin1 ?_ | refine fin0 ?_)
    (conv => whnf); exact And.intro (by first | rfl | (simp [AV.pure, pureL]; done) | fail) rfl
  have hvl : ((b.drop 3).take n).length = n := by simp; omega
  by_cases c3 : stripB c = ((flagS (k.toNat : Int)).toNat : Int)
  · have hnb : ¬ badHead ⟨c, k, false, (b.drop 3).take n, b.drop (3 + n)⟩ := by simp [badHead, c3]
    have hsl := slice_eq b 3 n (3 + (n : Int)).toNat (by omega)
    have hwl := wd_le wide
    rw [hw] at hwl
    have hrd := read_gives95 k.toNat (by omega) a ((b.drop 3).take n) (by omega) (by omega) w hwl
    unfold readR at hrd
    cases hs : setA w k.toNat ((b.drop 3).take n) a with
    | none =>
      rw [hs] at hrd
      rw [h4 c1 c2 hnb hs]
      rw [← hsl] at hrd
      refine ev_loop' (W_ok 300 _ _ _ _ ?_)
      repeat' ((conv => whnf); first | refine zAndF hbit ?_ | refine zNotB ?_ | refine bslP (by first | rfl | (simp [pureL, pureLL, AV.pure]; done) | fail) rfl ?_ | refine TakeC.full (by first | rfl | omega | (simp; done) | (simp; omega) | fail) ?_ | refine zBs ?_ | refine zBn ?_ | refine zBv rfl rfl ?_ | refine zN ?_ | refine zC ?_ | refine zC4 ?_ | refine zOr16 ?_ | refine zC1 ?_ | refine zByte ?_ | refine zMaxL ?_ | refine zMaxR ?_ | refine zMinL ?_ | refine zMinR ?_ | refine zShr ?_ | refine zC8 ?_ | refine zQ ?_ | refine zR ?_ | refine zS ?_ | refine zA ?_ | refine zM ?_ | refine xr rfl ?_ | refine ai rfl ?_ | refine condT ?_ | refine condF ?_ | refine condG1 ?_ | refine condG0 ?_ | refine cD ?_ | refine dD ?_ | refine cB ?_ | refine dB ?_ | refine cN ?_ | refine dN ?_ | refine cV ?_ | refine dV ?_ | refine cE ?_ | refine dE ?_ | refine condX0 ?_ | refine condX1 ?_ | refine condNot ?_ | refine condAnd ?_ | refine condOr ?_ | refine aO ?_ | refine aB ?_ | refine aR ?_ | refine aR ?_ (by simp; omega) | refine xr (by assumption) ?_ | refine ai (by assumption) ?_ | refine kX [(70, _, _), (300, _, _)] [] ⟨rfl, rfl, trivial⟩ trivial (hrd) ?_ | refine kV (by assumption) ?_ | refine kN (by assumption) ?_ | refine callW (by assumption) ?_ | refine condD (fun h => ?_) (fun h => ?_) | refine condB (fun h => ?_) (fun h => ?_) | refine condN (fun h => ?_) (fun h => ?_) | refine condE (fun h => ?_) (fun h => ?_) | refine condV (fun h => ?_) (fun h => ?_))
      refine ev_le [] [(68, some (_, .cells zeroA.enc))] trivial ⟨⟨rfl, .refl _, LeP.nil 2, .refl _, .refl _, .refl _, .refl _, .refl _, .refl _, .refl _, .refl _, .refl _, LeP.nil 1, .refl _, .refl _, LeP.nil 1, LeP.nil 2, trivial⟩, trivial⟩ ?_
      (first | refine fin1 ?_ | refine fin0 ?_)
      (conv => whnf); exact And.intro (by first | rfl | (simp [AV.pure, pureL]; done) | fail) rfl
    | some a' =>
      rw [hs] at hrd
      rw [← hsl] at hrd
      have go := go c1 c2 hnb a' hs
      simp only [readRet] at hrd
      by_cases hq : 1 ≤ k.toNat ∧ k.toNat ≤ 3
      · rw [show isKind k.toNat = true from by simp [isKind]; omega] at hrd
        rw [show ((nd + isReq k.toNat : Nat) : Int) = (nd : Int) + 1 from by simp [isReq, hq]] at go
        refine ev_loop' (W_ok 300 _ _ _ _ ?_)
        repeat' ((conv => whnf); first | refine zAndF hbit ?_ | refine zNotB ?_ | refine bslP (by first | rfl | (simp [pureL, pureLL, AV.pure]; done) | fail) rfl ?_ | refine TakeC.full (by first | rfl | omega | (simp; done) | (simp; omega) | fail) ?_ | refine zBs ?_ | refine zBn ?_ | refine zBv rfl rfl ?_ | refine zN ?_ | refine zC ?_ | refine zC4 ?_ | refine zOr16 ?_ | refine zC1 ?_ | refine zByte ?_ | refine zMaxL ?_ | refine zMaxR ?_ | refine zMinL ?_ | refine zMinR ?_ | refine zShr ?_ | refine zC8 ?_ | refine zQ ?_ | refine zR ?_ | refine zS ?_ | refine zA ?_ | refine zM ?_ | refine xr rfl ?_ | refine ai rfl ?_ | refine condT ?_ | refine condF ?_ | refine condG1 ?_ | refine condG0 ?_ | refine cD ?_ | refine dD ?_ | refine cB ?_ | refine dB ?_ | refine cN ?_ | refine dN ?_ | refine cV ?_ | refine dV ?_ | refine cE ?_ | refine dE ?_ | refine condX0 ?_ | refine condX1 ?_ | refine condNot ?_ | refine condAnd ?_ | refine condOr ?_ | refine aO ?_ | refine aB ?_ | refine aR ?_ | refine aR ?_ (by simp; omega) | refine xr (by assumption) ?_ | refine ai (by assumption) ?_ | refine kX [(70, _, _), (300, _, _)] [] ⟨rfl, rfl, trivial⟩ trivial (hrd) ?_ | refine kV (by assumption) ?_ | refine kN (by assumption) ?_ | refine callW (by assumption) ?_ | refine condD (fun h => ?_) (fun h => ?_) | refine condB (fun h => ?_) (fun h => ?_) | refine condN (fun h => ?_) (fun h => ?_) | refine condE (fun h => ?_) (fun h => ?_) | refine condV (fun h => ?_) (fun h => ?_))
        refine ev_keep [4, 0, 8, 6, 1, 7] [68, 70, 300] ?_
        rw [tail_eq b _ _ (by omega), show (3 + (n : Int)).toNat = 3 + n from by omega]
        exact go _ _ _ _ _ _
      · rw [show ((nd + isReq k.toNat : Nat) : Int) = (nd : Int) from by simp [isReq, hq]] at go
        cases hik : isKind k.toNat
        · rw [hik] at hrd
          refine ev_loop' (W_ok 300 _ _ _ _ ?_)
          repeat' ((conv => whnf); first | refine zAndF hbit ?_ | refine zNotB ?_ | refine bslP (by first | rfl | (simp [pureL, pureLL, AV.pure]; done) | fail) rfl ?_ | refine TakeC.full (by first | rfl | omega | (simp; done) | (simp; omega) | fail) ?_ | refine zBs ?_ | refine zBn ?_ | refine zBv rfl rfl ?_ | refine zN ?_ | refine zC ?_ | refine zC4 ?_ | refine zOr16 ?_ | refine zC1 ?_ | refine zByte ?_ | refine zMaxL ?_ | refine zMaxR ?_ | refine zMinL ?_ | refine zMinR ?_ | refine zShr ?_ | refine zC8 ?_ | refine zQ ?_ | refine zR ?_ | refine zS ?_ | refine zA ?_ | refine zM ?_ | refine xr rfl ?_ | refine ai rfl ?_ | refine condT ?_ | refine condF ?_ | refine condG1 ?_ | refine condG0 ?_ | refine cD ?_ | refine dD ?_ | refine cB ?_ | refine dB ?_ | refine cN ?_ | refine dN ?_ | refine cV ?_ | refine dV ?_ | refine cE ?_ | refine dE ?_ | refine condX0 ?_ | refine condX1 ?_ | refine condNot ?_ | refine condAnd ?_ | refine condOr ?_ | refine aO ?_ | refine aB ?_ | refine aR ?_ | refine aR ?_ (by simp; omega) | refine xr (by assumption) ?_ | refine ai (by assumption) ?_ | refine kX [(70, _, _), (300, _, _)] [] ⟨rfl, rfl, trivial⟩ trivial (hrd) ?_ | refine kV (by assumption) ?_ | refine kN (by assumption) ?_ | refine callW (by assumption) ?_ | refine condD (fun h => ?_) (fun h => ?_) | refine condB (fun h => ?_) (fun h => ?_) | refine condN (fun h => ?_) (fun h => ?_) | refine condE (fun h => ?_) (fun h => ?_) | refine condV (fun h => ?_) (fun h => ?_))
          all_goals
            refine ev_keep [4, 0, 8, 6, 1, 7] [68, 70, 300] ?_
            rw [tail_eq b _ _ (by omega), show (3 + (n : Int)).toNat = 3 + n from by omega]
            exact go _ _ _ _ _ _
        · rw [hik] at hrd
          refine ev_loop' (W_ok 300 _ _ _ _ ?_)
          repeat' ((conv => whnf); first | refine zAndF hbit ?_ | refine zNotB ?_ | refine bslP (by first | rfl | (simp [pureL, pureLL, AV.pure]; done) | fail) rfl ?_ | refine TakeC.full (by first | rfl | omega | (simp; done) | (simp; omega) | fail) ?_ | refine zBs ?_ | refine zBn ?_ | refine zBv rfl rfl ?_ | refine zN ?_ | refine zC ?_ | refine zC4 ?_ | refine zOr16 ?_ | refine zC1 ?_ | refine zByte ?_ | refine zMaxL ?_ | refine zMaxR ?_ | refine zMinL ?_ | refine zMinR ?_ | refine zShr ?_ | refine zC8 ?_ | refine zQ ?_ | refine zR ?_ | refine zS ?_ | refine zA ?_ | refine zM ?_ | refine xr rfl ?_ | refine ai rfl ?_ | refine condT ?_ | refine condF ?_ | refine condG1 ?_ | refine condG0 ?_ | refine cD ?_ | refine dD ?_ | refine cB ?_ | refine dB ?_ | refine cN ?_ | refine dN ?_ | refine cV ?_ | refine dV ?_ | refine cE ?_ | refine dE ?_ | refine condX0 ?_ | refine condX1 ?_ | refine condNot ?_ | refine condAnd ?_ | refine condOr ?_ | refine aO ?_ | refine aB ?_ | refine aR ?_ | refine aR ?_ (by simp; omega) | refine xr (by assumption) ?_ | refine ai (by assumption) ?_ | refine kX [(70, _, _), (300, _, _)] [] ⟨rfl, rfl, trivial⟩ trivial (hrd) ?_ | refine kV (by assumption) ?_ | refine kN (by assumption) ?_ | refine callW (by assumption) ?_ | refine condD (fun h => ?_) (fun h => ?_) | refine condB (fun h => ?_) (fun h => ?_) | refine condN (fun h => ?_) (fun h => ?_) | refine condE (fun h => ?_) (fun h => ?_) | refine condV (fun h => ?_) (fun h => ?_))
          all_goals
            refine ev_keep [4, 0, 8, 6, 1, 7] [68, 70, 300] ?_
            rw [tail_eq b _ _ (by omega), show (3 + (n : Int)).toNat = 3 + n from by omega]
            exact go _ _ _ _ _ _
  · rw [h3 c1 c2 (.inl c3)]
    refine ev_loop' (W_ok 300 _ _ _ _ ?_)
    repeat' ((conv => whnf); first | refine zAndF hbit ?_ | refine zNotB ?_ | refine bslP (by first | rfl | (simp [pureL, pureLL, AV.pure]; done) | fail) rfl ?_ | refine TakeC.full (by first | rfl | omega | (simp; done) | (simp; omega) | fail) ?_ | refine zBs ?_ | refine zBn ?_ | refine zBv rfl rfl ?_ | refine zN ?_ | refine zC ?_ | refine zC4 ?_ | refine zOr16 ?_ | refine zC1 ?_ | refine zByte ?_ | refine zMaxL ?_ | refine zMaxR ?_ | refine zMinL ?_ | refine zMinR ?_ | refine zShr ?_ | refine zC8 ?_ | refine zQ ?_ | refine zR ?_ | refine zS ?_ | refine zA ?_ | refine zM ?_ | refine xr rfl ?_ | refine ai rfl ?_ | refine condT ?_ | refine condF ?_ | refine condG1 ?_ | refine condG0 ?_ | refine cD ?_ | refine dD ?_ | refine cB ?_ | refine dB ?_ | refine cN ?_ | refine dN ?_ | refine cV ?_ | refine dV ?_ | refine cE ?_ | refine dE ?_ | refine condX0 ?_ | refine condX1 ?_ | refine condNot ?_ | refine condAnd ?_ | refine condOr ?_ | refine aO ?_ | refine aB ?_ | refine aR ?_ | refine aR ?_ (by simp; omega) | refine xr (by assumption) ?_ | refine ai (by assumption) ?_ | refine kV (by assumption) ?_ | refine kN (by assumption) ?_ | refine callW (by assumption) ?_ | refine condD (fun h => ?_) (fun h => ?_) | refine condB (fun h => ?_) (fun h => ?_) | refine condN (fun h => ?_) (fun h => ?_) | refine condE (fun h => ?_) (fun h => ?_) | refine condV (fun h => ?_) (fun h => ?_))
    refine ev_le [] [(68, some (_, .cells zeroA.enc))] trivial ⟨⟨rfl, .refl _, LeP.nil 2, .refl _, .refl _, .refl _, .refl _, .refl _, .refl _, .refl _, .refl _, .refl _, LeP.nil 1, .refl _, .refl _, LeP.nil 1, LeP.nil 2, trivial⟩, trivial⟩ ?_
    (first | refine fin1 ?_ | refine fin0 ?_)
    (conv => whnf); exact And.intro (by first | rfl | (simp [AV.pure, pureL]; done) | fail) rfl
end Go.AM.IR
set_option maxHeartbeats 4000000
set_option maxRecDepth 20000
namespace Go.AM.IR
theorem dec_long69 (wide : Bool) (w N : Nat) (hw : wd wide = w) (hN : N < 2 ^ 29) (b v rest : List UInt8) (c k : UInt8) (n : Nat) (hb0 : (byteCells b)[0]? = some [.int .u8 (c.toNat : Int)]) (hb1 : (byteCells b)[1]? = some [.int .u8 (k.toNat : Int)]) (hbit : bit16 c = true) (hlen : b.length < 2 ^ 29) (hh : 4 ≤ b.length)
  (hget : Gives G 93 [.sl 1 (byteCells b), .int .i64 2, .int .i64 2] [] ⟨.int .i64 (n : Int), []⟩) (hn : n ≤ 65535) (last : Int) (nd : Nat) (hnd : nd < 2 ^ 40) (a : Attrs) (hu : a.unknown.length < 2 ^ 29) (R : Ret)
  (h1 : b.length < 4 + n → R = decR (3, zeroA)) (h2 : 4 + n ≤ b.length → (k.toNat : Int) ≤ last → R = decR (16, zeroA))
  (h3 : 4 + n ≤ b.length → ¬ (k.toNat : Int) ≤ last → badHead ⟨c, k, true, (b.drop 4).take n, b.drop (4 + n)⟩ → R = decR (2, zeroA))
  (h4 : 4 + n ≤ b.length → ¬ (k.toNat : Int) ≤ last → ¬ badHead ⟨c, k, true, (b.drop 4).take n, b.drop (4 + n)⟩ → setA w k.toNat ((b.drop 4).take n) a = none → R = decR (2, zeroA))
  (go : 4 + n ≤ b.length → ¬ (k.toNat : Int) ≤ last → ¬ badHead ⟨c, k, true, (b.drop 4).take n, b.drop (4 + n)⟩ → ∀ a', setA w k.toNat ((b.drop 4).take n) a = some a' → ∀ (T : List (Nat × AV)) (H : Heap) (c g1 g2 g3 : Nat), Ev G ⟨f69x21LH, ⟨(4, .ref 68 g1 0) :: (0, .sl 1 (byteCells (b.drop (4 + n)))) :: (8, .int .i64 ((nd + isReq k.toNat : Nat) : Int)) :: (6, .ref 70 g2 0) :: (1, .bool wide) :: (7, .int .i64 (k.toNat : Int)) :: T, (68, some (g1, .cells zeroC)) :: (70, some (g2, .cells (a'.cellsV (.vs 300 g3 a'.unknown.length)))) :: (300, some (g3, .vec 2 (a'.unknown.map TLV.enc))) :: H, c⟩, [.cell 4 (some 16), .t 5], 0⟩ R)
  (T : List (Nat × AV)) (H : Heap) (c_ g1 g2 g3 : Nat) : Ev G ⟨f69x21LH, ⟨(4, .ref 68 g1 0) :: (0, .sl 1 (byteCells b)) :: (8, .int .i64 (nd : Int)) :: (6, .ref 70 g2 0) :: (1, .bool wide) :: (7, .int .i64 last) :: T, (68, some (g1, .cells zeroC)) :: (70, some (g2, .cells (a.cellsV (.vs 300 g3 a.unknown.length)))) :: (300, some (g3, .vec 2 (a.unknown.map TLV.enc))) :: H, c_⟩, [.cell 4 (some 16), .t 5], 0⟩ R := by
  have hbl := byteCells_length b
  have hk := k.toNat_lt
  have hflag := flag_gives94 (k.toNat : Int) (by omega)
  have hwg := width_gives96 wide
  rw [hw] at hwg
  by_cases c1 : b.length < 4 + n
  · rw [h1 c1]
    refine ev_loop' (W_ok 300 _ _ _ _ ?_)
    repeat' ((conv => whnf); first | refine zAndT hbit ?_ | refine zNotB ?_ | refine bslP (by first | rfl | (simp [pureL, pureLL, AV.pure]; done) | fail) rfl ?_ | refine TakeC.full (by first | rfl | omega | (simp; done) | (simp; omega) | fail) ?_ | refine zBs ?_ | refine zBn ?_ | refine zBv rfl rfl ?_ | refine zN ?_ | refine zC ?_ | refine zC4 ?_ | refine zOr16 ?_ | refine zC1 ?_ | refine zByte ?_ | refine zMaxL ?_ | refine zMaxR ?_ | refine zMinL ?_ | refine zMinR ?_ | refine zShr ?_ | refine zC8 ?_ | refine zQ ?_ | refine zR ?_ | refine zS ?_ | refine zA ?_ | refine zM ?_ | refine xr rfl ?_ | refine ai rfl ?_ | refine condT ?_ | refine condF ?_ | refine condG1 ?_ | refine condG0 ?_ | refine cD ?_ | refine dD ?_ | refine cB ?_ | refine dB ?_ | refine cN ?_ | refine dN ?_ | refine cV ?_ | refine dV ?_ | refine cE ?_ | refine dE ?_ | refine condX0 ?_ | refine condX1 ?_ | refine condNot ?_ | refine condAnd ?_ | refine condOr ?_ | refine aO ?_ | refine aB ?_ | refine aR ?_ | refine aR ?_ (by simp; omega) | refine xr (by assumption) ?_ | refine ai (by assumption) ?_ | refine kV (by assumption) ?_ | refine kN (by assumption) ?_ | refine callW (by assumption) ?_ | refine condD (fun h => ?_) (fun h => ?_) | refine condB (fun h => ?_) (fun h => ?_) | refine condN (fun h => ?_) (fun h => ?_) | refine condE (fun h => ?_) (fun h => ?_) | refine condV (fun h => ?_) (fun h => ?_))
    refine ev_le [] [(68, some (_, .cells zeroA.enc))] trivial ⟨⟨rfl, .refl _, LeP.nil 2, .refl _, .refl _, .refl _, .refl _, .refl _, .refl _, .refl _, .refl _, .refl _, LeP.nil 1, .refl _, .refl _, LeP.nil 1, LeP.nil 2, trivial⟩, trivial⟩ ?_
    (first | refine fin1 ?_ | refine fin0 ?_)
    (conv => whnf); exact And.intro (by first | rfl | (simp [AV.pure, pureL]; done) | fail) rfl
  have c1 : 4 + n ≤ b.length := by omega
  by_cases c2 : (k.toNat : Int) ≤ last
  · rw [h2 c1 c2]
    refine ev_loop' (W_ok 300 _ _ _ _ ?_)
    repeat' ((conv => whnf); first | refine zAndT hbit ?_ | refine zNotB ?_ | refine bslP (by first | rfl | (simp [pureL, pureLL, AV.pure]; done) | fail) rfl ?_ | refine TakeC.full (by first | rfl | omega | (simp; done) | (simp; omega) | fail) ?_ | refine zBs ?_ | refine zBn ?_ | refine zBv rfl rfl ?_ | refine zN ?_ | refine zC ?_ | refine zC4 ?_ | refine zOr16 ?_ | refine zC1 ?_ | refine zByte ?_ | refine zMaxL ?_ | refine zMaxR ?_ | refine zMinL ?_ | refine zMinR ?_ | refine zShr ?_ | refine zC8 ?_ | refine zQ ?_ | refine zR ?_ | refine zS ?_ | refine zA ?_ | refine zM ?_ | refine xr rfl ?_ | refine ai rfl ?_ | refine condT ?_ | refine condF ?_ | refine condG1 ?_ | refine condG0 ?_ | refine cD ?_ | refine dD ?_ | refine cB ?_ | refine dB ?_ | refine cN ?_ | refine dN ?_ | refine cV ?_ | refine dV ?_ | refine cE ?_ | refine dE ?_ | refine condX0 ?_ | refine condX1 ?_ | refine condNot ?_ | refine condAnd ?_ | refine condOr ?_ | refine aO ?_ | refine aB ?_ | refine aR ?_ | refine aR ?_ (by simp; omega) | refine xr (by assumption) ?_ | refine ai (by assumption) ?_ | refine kV (by assumption) ?_ | refine kN (by assumption) ?_ | refine callW (by assumption) ?_ | refine condD (fun h => ?_) (fun h => ?_) | refine condB (fun h => ?_) (fun h => ?_) | refine condN (fun h => ?_) (fun h => ?_) | refine condE (fun h => ?_) (fun h => ?_) | refine condV (fun h => ?_) (fun h => ?_))
    refine ev_le [] [(68, some (_, .cells zeroA.enc))] trivial ⟨⟨rfl, .refl _, LeP.nil 2, .refl _, .refl _, .refl _, .refl _, .refl _, .refl _, .refl _, .refl _, .refl _, LeP.nil 1, .refl _, .refl _, LeP.nil 1, LeP.nil 2, trivial⟩, trivial⟩ ?_
    (first | refine fin1 ?_ | refine fin0 ?_)
    (conv => whnf); exact And.intro (by first | rfl | (simp [AV.pure, pureL]; done) | fail) rfl
  have hvl : ((b.drop 4).take n).length = n := by simp; omega
  by_cases c3 : stripB c = ((flagS (k.toNat : Int)).toNat : Int)
  · by_cases c4 : n ≤ 255
    · rw [h3 c1 c2 (.inr ⟨rfl, by simp only; omega⟩)]
      refine ev_loop' (W_ok 300 _ _ _ _ ?_)
      repeat' ((conv => whnf); first | refine zAndT hbit ?_ | refine zNotB ?_ | refine bslP (by first | rfl | (simp [pureL, pureLL, AV.pure]; done) | fail) rfl ?_ | refine TakeC.full (by first | rfl | omega | (simp; done) | (simp; omega) | fail) ?_ | refine zBs ?_ | refine zBn ?_ | refine zBv rfl rfl ?_ | refine zN ?_ | refine zC ?_ | refine zC4 ?_ | refine zOr16 ?_ | refine zC1 ?_ | refine zByte ?_ | refine zMaxL ?_ | refine zMaxR ?_ | refine zMinL ?_ | refine zMinR ?_ | refine zShr ?_ | refine zC8 ?_ | refine zQ ?_ | refine zR ?_ | refine zS ?_ | refine zA ?_ | refine zM ?_ | refine xr rfl ?_ | refine ai rfl ?_ | refine condT ?_ | refine condF ?_ | refine condG1 ?_ | refine condG0 ?_ | refine cD ?_ | refine dD ?_ | refine cB ?_ | refine dB ?_ | refine cN ?_ | refine dN ?_ | refine cV ?_ | refine dV ?_ | refine cE ?_ | refine dE ?_ | refine condX0 ?_ | refine condX1 ?_ | refine condNot ?_ | refine condAnd ?_ | refine condOr ?_ | refine aO ?_ | refine aB ?_ | refine aR ?_ | refine aR ?_ (by simp; omega) | refine xr (by assumption) ?_ | refine ai (by assumption) ?_ | refine kV (by assumption) ?_ | refine kN (by assumption) ?_ | refine callW (by assumption) ?_ | refine condD (fun h => ?_) (fun h => ?_) | refine condB (fun h => ?_) (fun h => ?_) | refine condN (fun h => ?_) (fun h => ?_) | refine condE (fun h => ?_) (fun h => ?_) | refine condV (fun h => ?_) (fun h => ?_))
      refine ev_le [] [(68, some (_, .cells zeroA.enc))] trivial ⟨⟨rfl, .refl _, LeP.nil 2, .refl _, .refl _, .refl _, .refl _, .refl _, .refl _, .refl _, .refl _, .refl _, LeP.nil 1, .refl _, .refl _, LeP.nil 1, LeP.nil 2, trivial⟩, trivial⟩ ?_
      (first | refine fin1 ?_ | refine fin0 ?_)
      (conv => whnf); exact And.intro (by first | rfl | (simp [AV.pure, pureL]; done) | fail) rfl
    · have hnb : ¬ badHead ⟨c, k, true, (b.drop 4).take n, b.drop (4 + n)⟩ := by simp [badHead, c3]; omega
      have hsl := slice_eq b 4 n (4 + (n : Int)).toNat (by omega)
      have hwl := wd_le wide
      rw [hw] at hwl
      have hrd := read_gives95 k.toNat (by omega) a ((b.drop 4).take n) (by omega) (by omega) w hwl
      unfold readR at hrd
      cases hs : setA w k.toNat ((b.drop 4).take n) a with
      | none =>
        rw [hs] at hrd
        rw [h4 c1 c2 hnb hs]
        rw [← hsl] at hrd
        refine ev_loop' (W_ok 300 _ _ _ _ ?_)
        repeat' ((conv => whnf); first | refine zAndT hbit ?_ | refine zNotB ?_ | refine bslP (by first | rfl | (simp [pureL, pureLL, AV.pure]; done) | fail) rfl ?_ | refine TakeC.full (by first | rfl | omega | (simp; done) | (simp; omega) | fail) ?_ | refine zBs ?_ | refine zBn ?_ | refine zBv rfl rfl ?_ | refine zN ?_ | refine zC ?_ | refine zC4 ?_ | refine zOr16 ?_ | refine zC1 ?_ | refine zByte ?_ | refine zMaxL ?_ | refine zMaxR ?_ | refine zMinL ?_ | refine zMinR ?_ | refine zShr ?_ | refine zC8 ?_ | refine zQ ?_ | refine zR ?_ | refine zS ?_ | refine zA ?_ | refine zM ?_ | refine xr rfl ?_ | refine ai rfl ?_ | refine condT ?_ | refine condF ?_ | refine condG1 ?_ | refine condG0 ?_ | refine cD ?_ | refine dD ?_ | refine cB ?_ | refine dB ?_ | refine cN ?_ | refine dN ?_ | refine cV ?_ | refine dV ?_ | refine cE ?_ | refine dE ?_ | refine condX0 ?_ | refine condX1 ?_ | refine condNot ?_ | refine condAnd ?_ | refine condOr ?_ | refine aO ?_ | refine aB ?_ | refine aR ?_ | refine aR ?_ (by simp; omega) | refine xr (by assumption) ?_ | refine ai (by assumption) ?_ | refine kX [(70, _, _), (300, _, _)] [] ⟨rfl, rfl, trivial⟩ trivial (hrd) ?_ | refine kV (by assumption) ?_ | refine kN (by assumption) ?_ | refine callW (by assumption) ?_ | refine condD (fun h => ?_) (fun h => ?_) | refine condB (fun h => ?_) (fun h => ?_) | refine condN (fun h => ?_) (fun h => ?_) | refine condE (fun h => ?_) (fun h => ?_) | refine condV (fun h => ?_) (fun h => ?_))
        refine ev_le [] [(68, some (_, .cells zeroA.enc))] trivial ⟨⟨rfl, .refl _, LeP.nil 2, .refl _, .refl _, .refl _, .refl _, .refl _, .refl _, .refl _, .refl _, .refl _, LeP.nil 1, .refl _, .refl _, LeP.nil 1, LeP.nil 2, trivial⟩, trivial⟩ ?_
        (first | refine fin1 ?_ | refine fin0 ?_)
        (conv => whnf); exact And.intro (by first | rfl | (simp [AV.pure, pureL]; done) | fail) rfl
      | some a' =>
        rw [hs] at hrd
        rw [← hsl] at hrd
        have go := go c1 c2 hnb a' hs
        simp only [readRet] at hrd
        by_cases hq : 1 ≤ k.toNat ∧ k.toNat ≤ 3
        · rw [show isKind k.toNat = true from by simp [isKind]; omega] at hrd
          rw [show ((nd + isReq k.toNat : Nat) : Int) = (nd : Int) + 1 from by simp [isReq, hq]] at go
          refine ev_loop' (W_ok 300 _ _ _ _ ?_)
          repeat' ((conv => whnf); first | refine zAndT hbit ?_ | refine zNotB ?_ | refine bslP (by first | rfl | (simp [pureL, pureLL, AV.pure]; done) | fail) rfl ?_ | refine TakeC.full (by first | rfl | omega | (simp; done) | (simp; omega) | fail) ?_ | refine zBs ?_ | refine zBn ?_ | refine zBv rfl rfl ?_ | refine zN ?_ | refine zC ?_ | refine zC4 ?_ | refine zOr16 ?_ | refine zC1 ?_ | refine zByte ?_ | refine zMaxL ?_ | refine zMaxR ?_ | refine zMinL ?_ | refine zMinR ?_ | refine zShr ?_ | refine zC8 ?_ | refine zQ ?_ | refine zR ?_ | refine zS ?_ | refine zA ?_ | refine zM ?_ | refine xr rfl ?_ | refine ai rfl ?_ | refine condT ?_ | refine condF ?_ | refine condG1 ?_ | refine condG0 ?_ | refine cD ?_ | refine dD ?_ | refine cB ?_ | refine dB ?_ | refine cN ?_ | refine dN ?_ | refine cV ?_ | refine dV ?_ | refine cE ?_ | refine dE ?_ | refine condX0 ?_ | refine condX1 ?_ | refine condNot ?_ | refine condAnd ?_ | refine condOr ?_ | refine aO ?_ | refine aB ?_ | refine aR ?_ | refine aR ?_ (by simp; omega) | refine xr (by assumption) ?_ | refine ai (by assumption) ?_ | refine kX [(70, _, _), (300, _, _)] [] ⟨rfl, rfl, trivial⟩ trivial (hrd) ?_ | refine kV (by assumption) ?_ | refine kN (by assumption) ?_ | refine callW (by assumption) ?_ | refine condD (fun h => ?_) (fun h => ?_) | refine condB (fun h => ?_) (fun h => ?_) | refine condN (fun h => ?_) (fun h => ?_) | refine condE (fun h => ?_) (fun h => ?_) | refine condV (fun h => ?_) (fun h => ?_))
          refine ev_keep [4, 0, 8, 6, 1, 7] [68, 70, 300] ?_
          rw [tail_eq b _ _ (by omega), show (4 + (n : Int)).toNat = 4 + n from by omega]
          exact go _ _ _ _ _ _
        · rw [show ((nd + isReq k.toNat : Nat) : Int) = (nd : Int) from by simp [isReq, hq]] at go
          cases hik : isKind k.toNat
          · rw [hik] at hrd
            refine ev_loop' (W_ok 300 _ _ _ _ ?_)
            repeat' ((conv => whnf); first | refine zAndT hbit ?_ | refine zNotB ?_ | refine bslP (by first | rfl | (simp [pureL, pureLL, AV.pure]; done) | fail) rfl ?_ | refine TakeC.full (by first | rfl | omega | (simp; done) | (simp; omega) | fail) ?_ | refine zBs ?_ | refine zBn ?_ | refine zBv rfl rfl ?_ | refine zN ?_ | refine zC ?_ | refine zC4 ?_ | refine zOr16 ?_ | refine zC1 ?_ | refine zByte ?_ | refine zMaxL ?_ | refine zMaxR ?_ | refine zMinL ?_ | refine zMinR ?_ | refine zShr ?_ | refine zC8 ?_ | refine zQ ?_ | refine zR ?_ | refine zS ?_ | refine zA ?_ | refine zM ?_ | refine xr rfl ?_ | refine ai rfl ?_ | refine condT ?_ | refine condF ?_ | refine condG1 ?_ | refine condG0 ?_ | refine cD ?_ | refine dD ?_ | refine cB ?_ | refine dB ?_ | refine cN ?_ | refine dN ?_ | refine cV ?_ | refine dV ?_ | refine cE ?_ | refine dE ?_ | refine condX0 ?_ | refine condX1 ?_ | refine condNot ?_ | refine condAnd ?_ | refine condOr ?_ | refine aO ?_ | refine aB ?_ | refine aR ?_ | refine aR ?_ (by simp; omega) | refine xr (by assumption) ?_ | refine ai (by assumption) ?_ | refine kX [(70, _, _), (300, _, _)] [] ⟨rfl, rfl, trivial⟩ trivial (hrd) ?_ | refine kV (by assumption) ?_ | refine kN (by assumption) ?_ | refine callW (by assumption) ?_ | refine condD (fun h => ?_) (fun h => ?_) | refine condB (fun h => ?_) (fun h => ?_) | refine condN (fun h => ?_) (fun h => ?_) | refine condE (fun h => ?_) (fun h => ?_) | refine condV (fun h => ?_) (fun h => ?_))
            all_goals
              refine ev_keep [4, 0, 8, 6, 1, 7] [68, 70, 300] ?_
              rw [tail_eq b _ _ (by omega), show (4 + (n : Int)).toNat = 4 + n from by omega]
              exact go _ _ _ _ _ _
          · rw [hik] at hrd
            refine ev_loop' (W_ok 300 _ _ _ _ ?_)
            repeat' ((conv => whnf); first | refine zAndT hbit ?_ | refine zNotB ?_ | refine bslP (by first | rfl | (simp [pureL, pureLL, AV.pure]; done) | fail) rfl ?_ | refine TakeC.full (by first | rfl | omega | (simp; done) | (simp; omega) | fail) ?_ | refine zBs ?_ | refine zBn ?_ | refine zBv rfl rfl ?_ | refine zN ?_ | refine zC ?_ | refine zC4 ?_ | refine zOr16 ?_ | refine zC1 ?_ | refine zByte ?_ | refine zMaxL ?_ | refine zMaxR ?_ | refine zMinL ?_ | refine zMinR ?_ | refine zShr ?_ | refine zC8 ?_ | refine zQ ?_ | refine zR ?_ | refine zS ?_ | refine zA ?_ | refine zM ?_ | refine xr rfl ?_ | refine ai rfl ?_ | refine condT ?_ | refine condF ?_ | refine condG1 ?_ | refine condG0 ?_ | refine cD ?_ | refine dD ?_ | refine cB ?_ | refine dB ?_ | refine cN ?_ | refine dN ?_ | refine cV ?_ | refine dV ?_ | refine cE ?_ | refine dE ?_ | refine condX0 ?_ | refine condX1 ?_ | refine condNot ?_ | refine condAnd ?_ | refine condOr ?_ | refine aO ?_ | refine aB ?_ | refine aR ?_ | refine aR ?_ (by simp; omega) | refine xr (by assumption) ?_ | refine ai (by assumption) ?_ | refine kX [(70, _, _), (300, _, _)] [] ⟨rfl, rfl, trivial⟩ trivial (hrd) ?_ | refine kV (by assumption) ?_ | refine kN (by assumption) ?_ | refine callW (by assumption) ?_ | refine condD (fun h => ?_) (fun h => ?_) | refine condB (fun h => ?_) (fun h => ?_) | refine condN (fun h => ?_) (fun h => ?_) | refine condE (fun h => ?_) (fun h => ?_) | refine condV (fun h => ?_) (fun h => ?_))
            all_goals
              refine ev_keep [4, 0, 8, 6, 1, 7] [68, 70, 300] ?_
              rw [tail_eq b _ _ (by omega), show (4 + (n : Int)).toNat = 4 + n from by omega]
              exact go _ _ _ _ _ _
  · rw [h3 c1 c2 (.inl c3)]
    refine ev_loop' (W_ok 300 _ _ _ _ ?_)
    repeat' ((conv => whnf); first | refine zAndT hbit ?_ | refine zNotB ?_ | refine bslP (by first | rfl | (simp [pureL, pureLL, AV.pure]; done) | fail) rfl ?_ | refine TakeC.full (by first | rfl | omega | (simp; done) | (simp; omega) | fail) ?_ | refine zBs ?_ | refine zBn ?_ | refine zBv rfl rfl ?_ | refine zN ?_ | refine zC ?_ | refine zC4 ?_ | refine zOr16 ?_ | refine zC1 ?_ | refine zByte ?_ | refine zMaxL ?_ | refine zMaxR ?_ | refine zMinL ?_ | refine zMinR ?_ | refine zShr ?_ | refine zC8 ?_ | refine zQ ?_ | refine zR ?_ | refine zS ?_ | refine zA ?_ | refine zM ?_ | refine xr rfl ?_ | refine ai rfl ?_ | refine condT ?_ | refine condF ?_ | refine condG1 ?_ | refine condG0 ?_ | refine cD ?_ | refine dD ?_ | refine cB ?_ | refine dB ?_ | refine cN ?_ | refine dN ?_ | refine cV ?_ | refine dV ?_ | refine cE ?_ | refine dE ?_ | refine condX0 ?_ | refine condX1 ?_ | refine condNot ?_ | refine condAnd ?_ | refine condOr ?_ | refine aO ?_ | refine aB ?_ | refine aR ?_ | refine aR ?_ (by simp; omega) | refine xr (by assumption) ?_ | refine ai (by assumption) ?_ | refine kV (by assumption) ?_ | refine kN (by assumption) ?_ | refine callW (by assumption) ?_ | refine condD (fun h => ?_) (fun h => ?_) | refine condB (fun h => ?_) (fun h => ?_) | refine condN (fun h => ?_) (fun h => ?_) | refine condE (fun h => ?_) (fun h => ?_) | refine condV (fun h => ?_) (fun h => ?_))
    refine ev_le [] [(68, some (_, .cells zeroA.enc))] trivial ⟨⟨rfl, .refl _, LeP.nil 2, .refl _, .refl _, .refl _, .refl _, .refl _, .refl _, .refl _, .refl _, .refl _, LeP.nil 1, .refl _, .refl _, LeP.nil 1, LeP.nil 2, trivial⟩, trivial⟩ ?_
    (first | refine fin1 ?_ | refine fin0 ?_)
    (conv => whnf); exact And.intro (by first | rfl | (simp [AV.pure, pureL]; done) | fail) rfl
end Go.AM.IR
set_option maxHeartbeats 4000000
set_option maxRecDepth 20000
namespace Go.AM.IR
theorem attD_short (c k n : UInt8) (r : List UInt8) (hb : bit16 c = false) : attD (c :: k :: n :: r) = if r.length < n.toNat then none else some ⟨c, k, false, r.take n.toNat, r.drop n.toNat⟩ := by
  simp [attD, hb]
theorem attD_long (c k n m : UInt8) (r : List UInt8) (hb : bit16 c = true) : attD (c :: k :: n :: m :: r) = if r.length < n.toNat * 256 + m.toNat then none else some ⟨c, k, true, r.take (n.toNat * 256 + m.toNat), r.drop (n.toNat * 256 + m.toNat)⟩ := by
  simp [attD, hb]
theorem isReq_le (k : Nat) : isReq k ≤ 1 := by unfold isReq; split <;> omega
theorem drop_len3 (c k n : UInt8) (r : List UInt8) (x : Nat) : (c :: k :: n :: r).drop (3 + x) = r.drop x := by rw [Nat.add_comm]; rfl
theorem drop_len4 (c k n m : UInt8) (r : List UInt8) (x : Nat) : (c :: k :: n :: m :: r).drop (4 + x) = r.drop x := by rw [Nat.add_comm]; rfl
theorem dec_loop69 (wide : Bool) (w N : Nat) (hw : wd wide = w) (hN : N < 2 ^ 29) : ∀ (f : Nat) (b : List UInt8) (last : Int) (nd : Nat) (a : Attrs) (T : List (Nat × AV)) (H : Heap) (c g1 g2 g3 : Nat) (hf : b.length ≤ f) (hu : a.unknown.length + b.length ≤ N) (hnd : nd + b.length ≤ N) (hD : DB N a),
   Ev G ⟨f69x21LH, ⟨(4, .ref 68 g1 0) :: (0, .sl 1 (byteCells b)) :: (8, .int .i64 (nd : Int)) :: (6, .ref 70 g2 0) :: (1, .bool wide) :: (7, .int .i64 last) :: T, (68, some (g1, .cells zeroC)) :: (70, some (g2, .cells (a.cellsV (.vs 300 g3 a.unknown.length)))) :: (300, some (g3, .vec 2 (a.unknown.map TLV.enc))) :: H, c⟩, [.cell 4 (some 16), .t 5], 0⟩ (decR (decF w f b last nd a))
  | f, [], last, nd, a, T, H, c_, g1, g2, g3, hf, hu, hnd, hD => by
    rw [show decF w f [] last nd a = finD nd a from by cases f <;> rfl]
    have hul : (a.unknown.map TLV.enc).length = a.unknown.length := by simp
    have hck := check_gives65 a (hD.lenB (by omega) (by omega))
    refine ev_frzk [(300, _, _)] [4, 0, 8, 6, 1, 7] [68, 70] ⟨rfl, (by first | rfl | (simp [Blk.pure, pureL, pureLL, AV.pure, *]; done) | fail), trivial⟩ ?_; repeat ((conv => whnf); first | refine And.intro (by first | rfl | omega | (simp [pureL, pureLL, AV.pure]; done) | (simp; omega) | (simp [pureL, pureLL, AV.pure, *]; done) | assumption | fail) ?_ | intro T H)
    by_cases h3 : nd < 3
    · rw [show finD nd a = (6, zeroA) from by rw [finD, if_pos h3]]
      refine ev_loop' (W_ok 300 _ _ _ _ ?_)
      repeat' (first | refine stpA ?_ | (refine condS ?_ ?_ <;> intro h))
      refine ev_le [] [(68, some (_, .cells zeroA.enc))] trivial ⟨⟨rfl, .refl _, LeP.nil 2, .refl _, .refl _, .refl _, .refl _, .refl _, .refl _, .refl _, .refl _, .refl _, LeP.nil 1, .refl _, .refl _, LeP.nil 1, LeP.nil 2, trivial⟩, trivial⟩ ?_
      (first | refine fin1 ?_ | refine fin0 ?_)
      (conv => whnf); exact And.intro (by first | rfl | (simp [AV.pure, pureL]; done) | fail) rfl
    · by_cases h0 : checkS a = 0
      · rw [show finD nd a = (0, a) from by rw [finD, if_neg h3, if_pos h0]]
        rw [h0] at hck
        refine ev_loop' (W_ok 300 _ _ _ _ ?_)
        repeat' (first | refine stpA ?_ | (refine condS ?_ ?_ <;> intro h))
        (first | refine fin1 ?_ | refine fin0 ?_)
        (conv => whnf); exact And.intro (by simp [AV.pure, pureL]) rfl
      · rw [show finD nd a = (checkS a, zeroA) from by rw [finD, if_neg h3, if_neg h0]]
        refine ev_loop' (W_ok 300 _ _ _ _ ?_)
        repeat' (first | refine stpA ?_ | (refine condS ?_ ?_ <;> intro h))
        refine ev_le [] [(68, some (_, .cells zeroA.enc))] trivial ⟨⟨rfl, .refl _, LeP.nil 2, .refl _, .refl _, .refl _, .refl _, .refl _, .refl _, .refl _, .refl _, .refl _, LeP.nil 1, .refl _, .refl _, LeP.nil 1, LeP.nil 2, trivial⟩, trivial⟩ ?_
        (first | refine fin1 ?_ | refine fin0 ?_)
        (conv => whnf); exact And.intro (by first | rfl | (simp [AV.pure, pureL]; done) | fail) rfl
  | 0, c :: r, last, nd, a, T, H, c_, g1, g2, g3, hf, hu, hnd, hD => absurd hf (by simp)
  | f + 1, [c], last, nd, a, T, H, c_, g1, g2, g3, hf, hu, hnd, hD => by
    rw [decF_none rfl]
    cases hbit : bit16 c
    · refine ev_loop' (W_ok 300 _ _ _ _ ?_)
      repeat' ((conv => whnf); first | refine zAndF hbit ?_ | refine bslP (by first | rfl | (simp [pureL, pureLL, AV.pure]; done) | fail) rfl ?_ | refine TakeC.full (by first | rfl | omega | (simp; done) | (simp; omega) | fail) ?_ | refine zBs ?_ | refine zBn ?_ | refine zBv rfl rfl ?_ | refine zN ?_ | refine zC ?_ | refine zC4 ?_ | refine zOr16 ?_ | refine zC1 ?_ | refine zByte ?_ | refine zMaxL ?_ | refine zMaxR ?_ | refine zMinL ?_ | refine zMinR ?_ | refine zShr ?_ | refine zC8 ?_ | refine zQ ?_ | refine zR ?_ | refine zS ?_ | refine zA ?_ | refine zM ?_ | refine xr rfl ?_ | refine ai rfl ?_ | refine condT ?_ | refine condF ?_ | refine condG1 ?_ | refine condG0 ?_ | refine cD ?_ | refine dD ?_ | refine cB ?_ | refine dB ?_ | refine cN ?_ | refine dN ?_ | refine cV ?_ | refine dV ?_ | refine cE ?_ | refine dE ?_ | refine condX0 ?_ | refine condX1 ?_ | refine condNot ?_ | refine condAnd ?_ | refine condOr ?_ | refine aO ?_ | refine aB ?_ | refine aR ?_ | refine aR ?_ (by simp; omega) | refine xr (by assumption) ?_ | refine ai (by assumption) ?_ | refine kV (by assumption) ?_ | refine kN (by assumption) ?_ | refine callW (by assumption) ?_ | refine condD (fun h => ?_) (fun h => ?_) | refine condB (fun h => ?_) (fun h => ?_) | refine condN (fun h => ?_) (fun h => ?_) | refine condE (fun h => ?_) (fun h => ?_) | refine condV (fun h => ?_) (fun h => ?_))
      refine ev_le [] [(68, some (_, .cells zeroA.enc))] trivial ⟨⟨rfl, .refl _, LeP.nil 2, .refl _, .refl _, .refl _, .refl _, .refl _, .refl _, .refl _, .refl _, .refl _, LeP.nil 1, .refl _, .refl _, LeP.nil 1, LeP.nil 2, trivial⟩, trivial⟩ ?_
      (first | refine fin1 ?_ | refine fin0 ?_)
      (conv => whnf); exact And.intro (by first | rfl | (simp [AV.pure, pureL]; done) | fail) rfl
    · refine ev_loop' (W_ok 300 _ _ _ _ ?_)
      repeat' ((conv => whnf); first | refine zAndT hbit ?_ | refine bslP (by first | rfl | (simp [pureL, pureLL, AV.pure]; done) | fail) rfl ?_ | refine TakeC.full (by first | rfl | omega | (simp; done) | (simp; omega) | fail) ?_ | refine zBs ?_ | refine zBn ?_ | refine zBv rfl rfl ?_ | refine zN ?_ | refine zC ?_ | refine zC4 ?_ | refine zOr16 ?_ | refine zC1 ?_ | refine zByte ?_ | refine zMaxL ?_ | refine zMaxR ?_ | refine zMinL ?_ | refine zMinR ?_ | refine zShr ?_ | refine zC8 ?_ | refine zQ ?_ | refine zR ?_ | refine zS ?_ | refine zA ?_ | refine zM ?_ | refine xr rfl ?_ | refine ai rfl ?_ | refine condT ?_ | refine condF ?_ | refine condG1 ?_ | refine condG0 ?_ | refine cD ?_ | refine dD ?_ | refine cB ?_ | refine dB ?_ | refine cN ?_ | refine dN ?_ | refine cV ?_ | refine dV ?_ | refine cE ?_ | refine dE ?_ | refine condX0 ?_ | refine condX1 ?_ | refine condNot ?_ | refine condAnd ?_ | refine condOr ?_ | refine aO ?_ | refine aB ?_ | refine aR ?_ | refine aR ?_ (by simp; omega) | refine xr (by assumption) ?_ | refine ai (by assumption) ?_ | refine kV (by assumption) ?_ | refine kN (by assumption) ?_ | refine callW (by assumption) ?_ | refine condD (fun h => ?_) (fun h => ?_) | refine condB (fun h => ?_) (fun h => ?_) | refine condN (fun h => ?_) (fun h => ?_) | refine condE (fun h => ?_) (fun h => ?_) | refine condV (fun h => ?_) (fun h => ?_))
      refine ev_le [] [(68, some (_, .cells zeroA.enc))] trivial ⟨⟨rfl, .refl _, LeP.nil 2, .refl _, .refl _, .refl _, .refl _, .refl _, .refl _, .refl _, .refl _, .refl _, LeP.nil 1, .refl _, .refl _, LeP.nil 1, LeP.nil 2, trivial⟩, trivial⟩ ?_
      (first | refine fin1 ?_ | refine fin0 ?_)
      (conv => whnf); exact And.intro (by first | rfl | (simp [AV.pure, pureL]; done) | fail) rfl
  | f + 1, [c, k], last, nd, a, T, H, c_, g1, g2, g3, hf, hu, hnd, hD => by
    rw [decF_none rfl]
    cases hbit : bit16 c
    · refine ev_loop' (W_ok 300 _ _ _ _ ?_)
      repeat' ((conv => whnf); first | refine zAndF hbit ?_ | refine bslP (by first | rfl | (simp [pureL, pureLL, AV.pure]; done) | fail) rfl ?_ | refine TakeC.full (by first | rfl | omega | (simp; done) | (simp; omega) | fail) ?_ | refine zBs ?_ | refine zBn ?_ | refine zBv rfl rfl ?_ | refine zN ?_ | refine zC ?_ | refine zC4 ?_ | refine zOr16 ?_ | refine zC1 ?_ | refine zByte ?_ | refine zMaxL ?_ | refine zMaxR ?_ | refine zMinL ?_ | refine zMinR ?_ | refine zShr ?_ | refine zC8 ?_ | refine zQ ?_ | refine zR ?_ | refine zS ?_ | refine zA ?_ | refine zM ?_ | refine xr rfl ?_ | refine ai rfl ?_ | refine condT ?_ | refine condF ?_ | refine condG1 ?_ | refine condG0 ?_ | refine cD ?_ | refine dD ?_ | refine cB ?_ | refine dB ?_ | refine cN ?_ | refine dN ?_ | refine cV ?_ | refine dV ?_ | refine cE ?_ | refine dE ?_ | refine condX0 ?_ | refine condX1 ?_ | refine condNot ?_ | refine condAnd ?_ | refine condOr ?_ | refine aO ?_ | refine aB ?_ | refine aR ?_ | refine aR ?_ (by simp; omega) | refine xr (by assumption) ?_ | refine ai (by assumption) ?_ | refine kV (by assumption) ?_ | refine kN (by assumption) ?_ | refine callW (by assumption) ?_ | refine condD (fun h => ?_) (fun h => ?_) | refine condB (fun h => ?_) (fun h => ?_) | refine condN (fun h => ?_) (fun h => ?_) | refine condE (fun h => ?_) (fun h => ?_) | refine condV (fun h => ?_) (fun h => ?_))
      refine ev_le [] [(68, some (_, .cells zeroA.enc))] trivial ⟨⟨rfl, .refl _, LeP.nil 2, .refl _, .refl _, .refl _, .refl _, .refl _, .refl _, .refl _, .refl _, .refl _, LeP.nil 1, .refl _, .refl _, LeP.nil 1, LeP.nil 2, trivial⟩, trivial⟩ ?_
      (first | refine fin1 ?_ | refine fin0 ?_)
      (conv => whnf); exact And.intro (by first | rfl | (simp [AV.pure, pureL]; done) | fail) rfl
    · refine ev_loop' (W_ok 300 _ _ _ _ ?_)
      repeat' ((conv => whnf); first | refine zAndT hbit ?_ | refine bslP (by first | rfl | (simp [pureL, pureLL, AV.pure]; done) | fail) rfl ?_ | refine TakeC.full (by first | rfl | omega | (simp; done) | (simp; omega) | fail) ?_ | refine zBs ?_ | refine zBn ?_ | refine zBv rfl rfl ?_ | refine zN ?_ | refine zC ?_ | refine zC4 ?_ | refine zOr16 ?_ | refine zC1 ?_ | refine zByte ?_ | refine zMaxL ?_ | refine zMaxR ?_ | refine zMinL ?_ | refine zMinR ?_ | refine zShr ?_ | refine zC8 ?_ | refine zQ ?_ | refine zR ?_ | refine zS ?_ | refine zA ?_ | refine zM ?_ | refine xr rfl ?_ | refine ai rfl ?_ | refine condT ?_ | refine condF ?_ | refine condG1 ?_ | refine condG0 ?_ | refine cD ?_ | refine dD ?_ | refine cB ?_ | refine dB ?_ | refine cN ?_ | refine dN ?_ | refine cV ?_ | refine dV ?_ | refine cE ?_ | refine dE ?_ | refine condX0 ?_ | refine condX1 ?_ | refine condNot ?_ | refine condAnd ?_ | refine condOr ?_ | refine aO ?_ | refine aB ?_ | refine aR ?_ | refine aR ?_ (by simp; omega) | refine xr (by assumption) ?_ | refine ai (by assumption) ?_ | refine kV (by assumption) ?_ | refine kN (by assumption) ?_ | refine callW (by assumption) ?_ | refine condD (fun h => ?_) (fun h => ?_) | refine condB (fun h => ?_) (fun h => ?_) | refine condN (fun h => ?_) (fun h => ?_) | refine condE (fun h => ?_) (fun h => ?_) | refine condV (fun h => ?_) (fun h => ?_))
      refine ev_le [] [(68, some (_, .cells zeroA.enc))] trivial ⟨⟨rfl, .refl _, LeP.nil 2, .refl _, .refl _, .refl _, .refl _, .refl _, .refl _, .refl _, .refl _, .refl _, LeP.nil 1, .refl _, .refl _, LeP.nil 1, LeP.nil 2, trivial⟩, trivial⟩ ?_
      (first | refine fin1 ?_ | refine fin0 ?_)
      (conv => whnf); exact And.intro (by first | rfl | (simp [AV.pure, pureL]; done) | fail) rfl
  | f + 1, c :: k :: n :: r, last, nd, a, T, H, c_, g1, g2, g3, hf, hu, hnd, hD => by
    have hn := n.toNat_lt
    have hle : (c :: k :: n :: r).length = r.length + 3 := rfl
    have hrq := isReq_le k.toNat
    cases hbit : bit16 c
    · have hget := get_gives93 (c :: k :: n :: r) (by omega) 2 1 (by omega) (by omega) (by omega) (by omega)
      rw [show rd (((c :: k :: n :: r).drop (2 : Int).toNat).take (1 : Int).toNat) = n.toNat from by simp [rd]] at hget
      have hat := attD_short c k n r hbit
      refine dec_short69 wide w N hw hN (c :: k :: n :: r) [] [] c k n.toNat rfl rfl hbit (by omega) (by omega) hget (by omega) last nd (by omega) a (by omega) _ ?_ ?_ ?_ ?_ ?_ T H c_ g1 g2 g3
      all_goals try simp only [drop_len3, show ∀ x : List UInt8, (c :: k :: n :: x).drop 3 = x from fun _ => rfl]
      · intro q; rw [if_pos (by omega)] at hat; rw [decF_none hat]
      · intro q q2; rw [if_neg (by omega)] at hat; rw [decF_some hat, if_pos q2]
      · intro q q2 q3; rw [if_neg (by omega)] at hat; rw [decF_some hat, if_neg q2, if_pos q3]
      · intro q q2 q3 q4; rw [if_neg (by omega)] at hat; rw [decF_some hat, if_neg q2, if_neg q3]; simp only [q4]
      · intro q q2 q3 a' q4 T H c_ g1 g2 g3
        rw [if_neg (by omega)] at hat; rw [decF_some hat, if_neg q2, if_neg q3]; simp only [q4]
        obtain ⟨d1, d2⟩ := setA_DB hD (by simp; omega) q4
        exact dec_loop69 wide w N hw hN f _ _ _ a' T H c_ g1 g2 g3 (by simp; omega) (by simp; omega) (by simp; omega) d1
    · cases r with
      | nil =>
        rw [decF_none (show attD [c, k, n] = none from by simp [attD, hbit])]
        refine ev_loop' (W_ok 300 _ _ _ _ ?_)
        repeat' ((conv => whnf); first | refine zAndT hbit ?_ | refine bslP (by first | rfl | (simp [pureL, pureLL, AV.pure]; done) | fail) rfl ?_ | refine TakeC.full (by first | rfl | omega | (simp; done) | (simp; omega) | fail) ?_ | refine zBs ?_ | refine zBn ?_ | refine zBv rfl rfl ?_ | refine zN ?_ | refine zC ?_ | refine zC4 ?_ | refine zOr16 ?_ | refine zC1 ?_ | refine zByte ?_ | refine zMaxL ?_ | refine zMaxR ?_ | refine zMinL ?_ | refine zMinR ?_ | refine zShr ?_ | refine zC8 ?_ | refine zQ ?_ | refine zR ?_ | refine zS ?_ | refine zA ?_ | refine zM ?_ | refine xr rfl ?_ | refine ai rfl ?_ | refine condT ?_ | refine condF ?_ | refine condG1 ?_ | refine condG0 ?_ | refine cD ?_ | refine dD ?_ | refine cB ?_ | refine dB ?_ | refine cN ?_ | refine dN ?_ | refine cV ?_ | refine dV ?_ | refine cE ?_ | refine dE ?_ | refine condX0 ?_ | refine condX1 ?_ | refine condNot ?_ | refine condAnd ?_ | refine condOr ?_ | refine aO ?_ | refine aB ?_ | refine aR ?_ | refine aR ?_ (by simp; omega) | refine xr (by assumption) ?_ | refine ai (by assumption) ?_ | refine kV (by assumption) ?_ | refine kN (by assumption) ?_ | refine callW (by assumption) ?_ | refine condD (fun h => ?_) (fun h => ?_) | refine condB (fun h => ?_) (fun h => ?_) | refine condN (fun h => ?_) (fun h => ?_) | refine condE (fun h => ?_) (fun h => ?_) | refine condV (fun h => ?_) (fun h => ?_))
        refine ev_le [] [(68, some (_, .cells zeroA.enc))] trivial ⟨⟨rfl, .refl _, LeP.nil 2, .refl _, .refl _, .refl _, .refl _, .refl _, .refl _, .refl _, .refl _, .refl _, LeP.nil 1, .refl _, .refl _, LeP.nil 1, LeP.nil 2, trivial⟩, trivial⟩ ?_
        (first | refine fin1 ?_ | refine fin0 ?_)
        (conv => whnf); exact And.intro (by first | rfl | (simp [AV.pure, pureL]; done) | fail) rfl
      | cons m r =>
        have hm := m.toNat_lt
        simp only [List.length_cons] at hle
        have hget := get_gives93 (c :: k :: n :: m :: r) (by simp only [List.length_cons] at hf hu hnd ⊢; omega) 2 2 (by omega) (by omega) (by omega) (by simp only [List.length_cons]; omega)
        rw [show rd (((c :: k :: n :: m :: r).drop (2 : Int).toNat).take (2 : Int).toNat) = n.toNat * 256 + m.toNat from by simp [rd]] at hget
        have hat := attD_long c k n m r hbit
        simp only [List.length_cons] at hf hu hnd
        refine dec_long69 wide w N hw hN (c :: k :: n :: m :: r) [] [] c k (n.toNat * 256 + m.toNat) rfl rfl hbit (by simp only [List.length_cons]; omega) (by simp only [List.length_cons]; omega) hget (by omega) last nd (by omega) a (by omega) _ ?_ ?_ ?_ ?_ ?_ T H c_ g1 g2 g3
        all_goals try simp only [drop_len4, List.length_cons, show ∀ x : List UInt8, (c :: k :: n :: m :: x).drop 4 = x from fun _ => rfl]
        · intro q; rw [if_pos (by omega)] at hat; rw [decF_none hat]
        · intro q q2; rw [if_neg (by omega)] at hat; rw [decF_some hat, if_pos q2]
        · intro q q2 q3; rw [if_neg (by omega)] at hat; rw [decF_some hat, if_neg q2, if_pos q3]
        · intro q q2 q3 q4; rw [if_neg (by omega)] at hat; rw [decF_some hat, if_neg q2, if_neg q3]; simp only [q4]
        · intro q q2 q3 a' q4 T H c_ g1 g2 g3
          rw [if_neg (by omega)] at hat; rw [decF_some hat, if_neg q2, if_neg q3]; simp only [q4]
          obtain ⟨d1, d2⟩ := setA_DB hD (by simp; omega) q4
          exact dec_loop69 wide w N hw hN f _ _ _ a' T H c_ g1 g2 g3 (by simp; omega) (by simp; omega) (by simp; omega) d1
theorem decode_gives69 (b : List UInt8) (wide : Bool) (hb : b.length < 2 ^ 28) : Gives G 69 [.sl 1 (byteCells b), .bool wide] [] (decR (decD (wd wide) b)) := by
  refine gives_code (F := f69) rfl rfl (W_ok 300 _ _ _ _ ?_)
  repeat' (first | refine stpA ?_ | (refine condS ?_ ?_ <;> intro h))
  refine ev_nil 300 2 [] [(70, some (_, .cells (zeroA.cellsV (.vs 300 _ 0))))] trivial ⟨⟨rfl, .refl _, LeP.nil 2, .refl _, .refl _, .refl _, .refl _, .refl _, .refl _, .refl _, .refl _, .refl _, LeP.nil 1, .refl _, .refl _, LeP.nil 1, LeP.nilV _ _ _, trivial⟩, trivial⟩ ?_
  refine ev_keep [4, 0, 8, 6, 1, 7] [68, 70, 300] ?_
  exact dec_loop69 wide (wd wide) b.length rfl (by omega) b.length b (-1) 0 zeroA _ _ _ _ _ _ (Nat.le_refl _) (by simp [zeroA]) (by simp) ⟨by simp [zeroA], by simp [zeroA], by simp [zeroA], by simp [zeroA], by simp [zeroA]⟩
end Go.AM.IR
set_option maxHeartbeats 4000000
set_option maxRecDepth 20000
namespace Go.AM.IR
theorem DB.ab2 {N : Nat} {a : Attrs} (h : DB N a) (hN : N ≤ 65535) (hu : a.unknown.length ≤ N) : AB a := by
  have h1 := flat_le255 a.path h.segs
  have h2 := unkS_leN a.unknown h.vals
  have h3 := h.path
  have h4 := h.comms
  have h5 := h.clusters
  have h6 : N * a.unknown.length ≤ 65535 * 65535 := Nat.mul_le_mul hN (by omega)
  exact ⟨by omega, by omega, by omega, by omega, by omega, fun t ht => by have := h.vals t ht; omega, by omega⟩
theorem lenC_ab {a : Attrs} (h : AB a) : LenC a where
  path := h.path
  segs s hs := by
    have h1 := h.flat
    have h2 : s.as.length ≤ (flatS a.path).length := by
      unfold flatS
      obtain ⟨p, q, e⟩ := List.append_of_mem hs
      rw [e]; simp; omega
    omega
  comms := h.comms
  clusters := h.clusters
  unknown := h.unknown
theorem dec_ab {a : List UInt8} {wide : Bool} (ha : a.length ≤ 65535) {e : Int} {A : Attrs} (h : decD (wd wide) a = (e, A)) : A.ok ∧ AB A := by
  unfold decD at h
  obtain ⟨r, d, u⟩ := dec_rng (N := a.length) (by unfold wd; split <;> omega) _ _ _ _ _ h (zero_rng _) (zero_DB _) (by simp [zeroA]) (zero_rng _) (zero_DB _)
  exact ⟨r.ok, d.ab2 ha u⟩
theorem packP_le : ∀ l : List Pfx, l.length ≤ (packP l).length
  | [] => Nat.zero_le _
  | p :: r => by
    have := packP_le r
    simp only [packP, List.flatMap_cons, List.length_append, List.length_cons, pack1_length] at *
    omega
theorem updM_len {w x : List Pfx} {a : Attrs} (hw : w.length < 2 ^ 40) (hx : x.length < 2 ^ 40) (ha : AB a) : LenO (updM w x a) ∧ LenB (updM w x a).attrs := ⟨⟨⟨by simp [updM, zeroM], hw, hx, lenC_ab ha⟩, by simp [updM, zeroM, capT]⟩, sizeS_le ha⟩
theorem updU_all (a p q : List UInt8) (wide : Bool) (ha : a.length ≤ 65535) (hp : p.length < 2 ^ 30) (hq : q.length < 2 ^ 30) (g1 g2 g3 g4 : Nat) (T : List (Nat × AV)) (H : Heap) (c : Nat) : Ev G ⟨[.code (suf 9 f201.body)], ⟨(9, .ref 97 g1 0) :: (11, .ref 113 g2 0) :: (10, .sl 1 (byteCells a)) :: (1, .bool wide) :: (4, .ref 68 g3 0) :: (5, .ref 69 g4 0) :: T, (97, some (g1, .cells [.sl 1 (byteCells p), .con (.slice none 0 0)])) :: (113, some (g2, .cells [.sl 1 (byteCells q), .con (.slice none 0 0)])) :: (68, some (g3, .cells zeroM.enc)) :: (69, some (g4, .cells zeroM.enc)) :: H, c⟩, [.cell 4 (some 27), .cell 5 (some 27), .t 6], 0⟩ (triR (decU1 wide a (unP p.length p) (unP q.length q))) := by
  have hp1 := pfxs210 p (by omega)
  have hq1 := pfxs210 q (by omega)
  have pu := pfxP_unP p.length p []
  have qu := pfxP_unP q.length q []
  cases hup : unP p.length p with
  | none =>
    have h0 := pu.2 hup
    rw [show pfxP p.length p [] = (false, (pfxP p.length p []).2.1, (pfxP p.length p []).2.2) from Prod.ext h0 rfl] at hp1
    exact updU_f1 a p q wide g1 g2 g3 g4 T H c _ _ hp1
  | some w =>
    have h0 := pu.1 w hup
    rw [h0, List.nil_append] at hp1
    cases huq : unP q.length q with
    | none =>
      have h1 := qu.2 huq
      rw [show pfxP q.length q [] = (false, (pfxP q.length q []).2.1, (pfxP q.length q []).2.2) from Prod.ext h1 rfl] at hq1
      exact updU_f2 a p q wide g1 g2 g3 g4 T H c _ _ _ _ hp1 hq1
    | some x =>
      have h1 := qu.1 x huq
      rw [h1, List.nil_append] at hq1
      obtain ⟨e1, o1⟩ := pack_unP _ _ _ hup
      obtain ⟨e2, o2⟩ := pack_unP _ _ _ huq
      have n1 := packP_le w
      have n2 := packP_le x
      rw [e1] at n1
      rw [e2] at n2
      have hok : ∀ A : Attrs, (updM w x A).okP := fun A => ⟨fun y hy => (o1 y hy).1, fun y hy => (o2 y hy).1⟩
      have hz : AB zeroA := ⟨by simp [zeroA], by simp [zeroA, flatS], by simp [zeroA], by simp [zeroA], by simp [zeroA], by simp [zeroA], by simp [zeroA, unkS]⟩
      refine updU_t a p q wide g1 g2 g3 g4 T H c [] [] w x hp1 hq1 _ ?_
      intro g1 g3 g4 T H c
      show Ev G _ (triR (decU2 wide a w x))
      unfold decU2
      by_cases he : a = [] ∧ x = []
      · rw [if_pos he]
        obtain ⟨ea, ex⟩ := he
        subst ea ex
        obtain ⟨l1, l2⟩ := updM_len (w := w) (x := []) (by omega) (by simp) hz
        exact updU_d0 w wide g1 g3 g4 T H c (check_gives144 _ l1 l2 (hok _))
      · rw [if_neg he]
        have hne : 0 < a.length ∨ 0 < x.length := by
          rcases Nat.eq_zero_or_pos a.length with h | h
          · rcases Nat.eq_zero_or_pos x.length with h' | h'
            · exact absurd ⟨List.length_eq_zero_iff.1 h, List.length_eq_zero_iff.1 h'⟩ he
            · exact .inr h'
          · exact .inl h
        have hd := decode_gives69 a wide (by omega)
        cases hD : decD (wd wide) a with
        | mk e y =>
          rw [hD, decR] at hd
          simp only at hd ⊢
          obtain ⟨oy, ay⟩ := dec_ab ha hD
          by_cases e6 : e = 6
          · rw [if_pos e6]; exact updU_d6 a w x (by omega) (by omega) hne wide e y hd g1 g3 g4 T H c e6
          · rw [if_neg e6]
            by_cases e0 : e = 0
            · rw [if_neg (by simp [e0])]
              refine updU_dx a w x (by omega) (by omega) hne wide e y hd g1 g3 g4 T H c e0 _ ?_
              intro g1 g3 g4 T H c
              by_cases hx : x = []
              · rw [if_pos hx]; subst hx
                exact updU_e1 a (by omega) (by rcases hne with h | h; exact h; simp at h) wide w y g1 g3 g4 T H c
              · rw [if_neg hx]
                obtain ⟨l1, l2⟩ := updM_len (w := w) (x := x) (by omega) (by omega) ay
                exact updU_e2 a (by omega) wide w x (by omega) (List.length_pos_iff.2 hx) y (check_gives144 _ l1 l2 (hok _)) g1 g3 g4 T H c
            · rw [if_pos e0]; exact updU_d1 a w x (by omega) (by omega) hne wide e y hd g1 g3 g4 T H c e6 e0
theorem decU201 (b : List UInt8) (hb : b.length < 2 ^ 28) (h4 : 4 ≤ b.length) (wide : Bool) : Gives G 201 [.sl 1 (byteCells b), .bool wide] [] (triR (decU wide b)) := by
  unfold decU
  by_cases h : b.length < 4 + rd (b.take 2)
  · rw [if_pos h]; exact decU201_1 b wide (by omega) (by omega) h
  · rw [if_neg h]
    have l1 : (b.drop 2).length = b.length - 2 := List.length_drop
    have l3 : ((b.drop 2).drop (rd (b.take 2) + 2)).length = b.length - 2 - (rd (b.take 2) + 2) := by rw [List.length_drop, l1]
    unfold decU3
    by_cases h2 : ((b.drop 2).drop (rd (b.take 2) + 2)).length < rd (((b.drop 2).drop (rd (b.take 2))).take 2)
    · rw [if_pos h2]; exact decU201_2 b wide (by omega) _ rfl (by omega) _ rfl h2
    · rw [if_neg h2]
      refine decU201_A b wide (by omega) _ rfl (by omega) _ rfl (by omega) _ ?_
      intro g1 g2 g3 g4 T H c
      have hr : rd (((b.drop 2).drop (rd (b.take 2))).take 2) < 256 ^ 2 := rd_le (by simp; omega)
      exact updU_all _ _ _ wide (by rw [List.length_take]; omega) (by rw [List.length_take]; omega) (by rw [List.length_drop]; omega) g1 g2 g3 g4 T H c
end Go.AM.IR
set_option maxHeartbeats 4000000
set_option maxRecDepth 20000
namespace Go.AM.IR
theorem lenO_note (c s : Int) (d : List UInt8) : LenO (noteM c s d) ∧ LenB (noteM c s d).attrs ∧ (noteM c s d).okP := ⟨⟨⟨by simp [noteM, zeroM], by simp [noteM, zeroM], by simp [noteM, zeroM], lenC_zero⟩, by simp [noteM, zeroM, capT]⟩, lenB_zero, ⟨by simp [noteM, zeroM], by simp [noteM, zeroM]⟩⟩
theorem cons3 (b : List UInt8) (h : 19 ≤ b.length) : ∃ x y k : UInt8, (byteCells b)[16]? = some [.int .u8 x.toNat] ∧ (byteCells b)[17]? = some [.int .u8 y.toNat] ∧ (byteCells b)[18]? = some [.int .u8 k.toNat] ∧ (b.drop 16).take 2 = [x, y] ∧ (b.drop 18).take 1 = [k] ∧ kindD b = k.toNat := by
  have l : (b.drop 16).length = b.length - 16 := List.length_drop
  obtain ⟨x, y, k, r, e⟩ : ∃ x y k r, b.drop 16 = x :: y :: k :: r := by
    match h : b.drop 16 with
    | x :: y :: k :: r => exact ⟨x, y, k, r, rfl⟩
    | [] => rw [h] at l; simp at l; omega
    | [_] => rw [h] at l; simp at l; omega
    | [_, _] => rw [h] at l; simp at l; omega
  have e18 : b.drop 18 = k :: r := by rw [show b.drop 18 = (b.drop 16).drop 2 from by rw [List.drop_drop], e]; rfl
  have at_ : ∀ i, b[16 + i]? = (b.drop 16)[i]? := fun i => by rw [List.getElem?_drop]
  refine ⟨x, y, k, ?_, ?_, ?_, by rw [e]; rfl, by rw [e18]; rfl, ?_⟩
  · simp only [byteCells, List.getElem?_map]; rw [at_ 0, e]; rfl
  · simp only [byteCells, List.getElem?_map]; rw [at_ 1, e]; rfl
  · simp only [byteCells, List.getElem?_map]; rw [at_ 2, e]; rfl
  · unfold kindD; rw [e18]; simp [rd]
theorem decode194 (b : List UInt8) (hb : b.length < 2 ^ 28) (wide : Bool) : Gives G 194 [.sl 1 (byteCells b), .bool wide] [] (decMR (decM wide b)) := by
  unfold decM
  by_cases h : b.length < 19
  · rw [if_pos h]; exact dec194_0 b (by omega) wide h
  · rw [if_neg h]
    refine dec194_A b (by omega) wide (by omega) _ (fun ha => ?_) (fun ha => by rw [if_pos ha])
    rw [if_neg (by rw [ha]; simp)]
    intro g1 g2 T H c
    obtain ⟨x, y, k, hx, hy, hk, e2, e1, ek⟩ := cons3 b (by omega)
    rw [e2, e1, ek]
    have hn : lenD b = rd ((b.drop 16).take 2) := rfl
    generalize hL : lenD b = n at *
    have hr : n < 256 ^ 2 := by rw [hn]; exact rd_le (by simp; omega)
    by_cases q1 : n < 19
    · rw [if_pos q1]; exact dec194_e1 b (by omega) wide (by omega) x y k hx hy hk n hn q1 g1 g2 T H c
    · rw [if_neg q1]
      by_cases q2 : k.toNat < 1 ∨ k.toNat > 5
      · rw [if_pos q2]; exact dec194_e2 b (by omega) wide (by omega) x y k hx hy hk n hn q1 q2 g1 g2 T H c
      · rw [if_neg q2]
        have k1 : ¬ k.toNat < 1 := fun q => q2 (.inl q)
        have k5 : ¬ k.toNat > 5 := fun q => q2 (.inr q)
        by_cases q3 : badLen (k.toNat : Nat) (n : Nat) = true
        · rw [if_pos q3]; exact dec194_e3 b (by omega) wide (by omega) x y k hx hy hk n hn q1 k1 k5 q3 g1 g2 T H c
        · rw [if_neg q3]
          have q3' : badLen (k.toNat : Nat) (n : Nat) = false := by simpa using q3
          by_cases q4 : b.length < n
          · rw [if_pos q4]; exact dec194_e4 b (by omega) wide (by omega) x y k hx hy hk n hn q1 k1 k5 q3' q4 g1 g2 T H c
          · rw [if_neg q4]
            refine dec194_e5 b (by omega) wide (by omega) x y k hx hy hk n hn q1 k1 k5 q3' q4 _ rfl _ ?_ g1 g2 T H c
            intro g1 g2 g3 T H c
            have hd : ((b.take n).drop 19).length = n - 19 := by rw [List.length_drop, List.length_take]; omega
            generalize (b.take n).drop 19 = d at *
            simp only [badLen, decide_eq_false_iff_not] at q3'
            unfold decB
            have hkk : k.toNat = 1 ∨ k.toNat = 2 ∨ k.toNat = 3 ∨ k.toNat = 4 ∨ k.toNat = 5 := by omega
            rcases hkk with hkk | hkk | hkk | hkk | hkk
            · rw [hkk, if_pos (show ((1 : Nat) : Int) = 1 from rfl)]
              exact dec194_k1 d wide x y n _ _ _ (decO200 d (by omega) (by omega)) _ (fun g1 g2 T H c => dec194_end _ _ _ n g1 g2 T H c) g1 g2 g3 T H c
            · rw [hkk, if_neg (show ¬ (((2 : Nat) : Int) = 1) by decide), if_pos (show ((2 : Nat) : Int) = 2 from rfl)]
              exact dec194_k2 d wide x y n _ _ _ (decU201 d (by omega) (by omega) wide) _ (fun g1 g2 T H c => dec194_end _ _ _ n g1 g2 T H c) g1 g2 g3 T H c
            · rw [hkk, if_neg (show ¬ (((3 : Nat) : Int) = 1) by decide), if_neg (show ¬ (((3 : Nat) : Int) = 2) by decide), if_pos (show ((3 : Nat) : Int) = 3 from rfl)]
              obtain ⟨c0, s0, r, rfl⟩ : ∃ c0 s0 r, d = c0 :: s0 :: r := by
                match d, hd with
                | c0 :: s0 :: r, _ => exact ⟨c0, s0, r, rfl⟩
                | [], hd => simp at hd; omega
                | [_], hd => simp at hd; omega
              have en : noteD (c0 :: s0 :: r) = noteM (c0.toNat : Nat) (s0.toNat : Nat) r := by simp [noteD, rd]
              rw [en]
              obtain ⟨l1, l2, l3⟩ := lenO_note (c0.toNat : Nat) (s0.toNat : Nat) r
              have hc := check_gives144 _ l1 l2 l3
              refine dec194_k3 c0 s0 r (by simp at hd; omega) wide x y n _ hc _ (fun g1 g2 T H c => ?_) g1 g2 g3 T H c
              have := dec194_end (noteM (c0.toNat : Nat) (s0.toNat : Nat) r) (if checkM (noteM (c0.toNat : Nat) (s0.toNat : Nat) r) = 0 then zeroM else noteM 1 2 [x, y]) (checkM (noteM (c0.toNat : Nat) (s0.toNat : Nat) r)) n g1 g2 T H c
              rw [show finM n (noteM (c0.toNat : Nat) (s0.toNat : Nat) r, (if checkM (noteM (c0.toNat : Nat) (s0.toNat : Nat) r) = 0 then zeroM else noteM 1 2 [x, y]), checkM (noteM (c0.toNat : Nat) (s0.toNat : Nat) r)) = finM n (if checkM (noteM (c0.toNat : Nat) (s0.toNat : Nat) r) = 0 then (noteM (c0.toNat : Nat) (s0.toNat : Nat) r, zeroM, 0) else (zeroM, noteM 1 2 [x, y], checkM (noteM (c0.toNat : Nat) (s0.toNat : Nat) r))) from by unfold finM; split <;> simp_all] at this
              exact this
            · rw [hkk, if_neg (show ¬ (((4 : Nat) : Int) = 1) by decide), if_neg (show ¬ (((4 : Nat) : Int) = 2) by decide), if_neg (show ¬ (((4 : Nat) : Int) = 3) by decide), if_neg (fun q => absurd q.1 (by decide))]
              exact dec194_k4 d wide x y n _ (fun g1 g2 T H c => dec194_end _ _ _ n g1 g2 T H c) g1 g2 g3 T H c
            · rw [hkk, if_neg (show ¬ (((5 : Nat) : Int) = 1) by decide), if_neg (show ¬ (((5 : Nat) : Int) = 2) by decide), if_neg (show ¬ (((5 : Nat) : Int) = 3) by decide)]
              refine dec194_k5 d wide x y n _ (fun g1 g2 T H c => ?_) g1 g2 g3 T H c
              have := dec194_end { zeroM with kind := 5 } (if d = [0, 1, 0, 1] then zeroM else noteM 1 2 [x, y]) (if d = [0, 1, 0, 1] then 0 else 2) n g1 g2 T H c
              rw [show finM n (({ zeroM with kind := 5 } : PMsg), (if d = [0, 1, 0, 1] then zeroM else noteM 1 2 [x, y]), (if d = [0, 1, 0, 1] then (0 : Int) else 2)) = finM n (if ((5 : Nat) : Int) = 5 ∧ d ≠ [0, 1, 0, 1] then (zeroM, noteM 1 2 [x, y], 2) else ({ zeroM with kind := ((5 : Nat) : Int) }, zeroM, 0)) from by
                by_cases hz : d = [0, 1, 0, 1]
                · simp [hz, finM]
                · simp [hz, finM]] at this
              exact this
end Go.AM.IR
set_option maxHeartbeats 4000000
set_option maxRecDepth 20000
namespace Go.AM.IR
theorem decU_back {m : PMsg} (h : checkM m = 0) (hk : m.kind = 2) (ho : m.okP) (ha : m.attrs.ok) (wide : Bool) (hb : ¬ badM m wide) (hl : (updB m wide).length ≤ 65516) : decU wide (updB m wide) = (m, zeroM, 0) := by
  have ok := upd_ok h hk
  have e0 : updB m wide = be 2 (packP m.withdrawn).length ++ (packP m.withdrawn ++ (be 2 (attsB m wide).length ++ (attsB m wide ++ packP m.reach))) := rfl
  have u1 := unP_pack m.withdrawn (packP m.withdrawn).length (fun p hp => ⟨ho.withdrawn p hp, ok.withdrawn p hp⟩) (Nat.le_refl _)
  have u2 := unP_pack m.reach (packP m.reach).length (fun p hp => ⟨ho.reach p hp, ok.reach p hp⟩) (Nat.le_refl _)
  have hm : updM m.withdrawn m.reach m.attrs = m := by
    obtain ⟨r1, r2, r3, r4, r5, r6, r7, r8⟩ := ok.rest
    rw [PMsg.eq_iff]
    simp only [updM, zeroM]
    exact ⟨hk.symm, r1.symm, r2.symm, r3.symm, r4.symm, r6.symm, r7.symm, r8.symm, r5.symm, trivial, trivial, trivial⟩
  have hda : m.reach ≠ [] → attsB m wide = encB m.attrs wide ∧ decD (wd wide) (encB m.attrs wide) = (0, m.attrs) := fun hr => by
    have hbad : encBad m.attrs wide = false := by
      cases q : encBad m.attrs wide
      · rfl
      · exact absurd ⟨hk, hr, q⟩ hb
    exact ⟨by unfold attsB; rw [if_neg hr], (enc_dec ha (ok.attrs hr) wide hbad).1⟩
  have hat0 : m.reach = [] → attsB m wide = [] := fun hr => by unfold attsB; rw [if_pos hr]
  generalize attsB m wide = a at *
  generalize packP m.withdrawn = g at *
  generalize packP m.reach = q at *
  rw [e0] at hl ⊢
  simp only [List.length_append, be_length] at hl
  have hr0 : rd ((be 2 g.length ++ (g ++ (be 2 a.length ++ (a ++ q)))).take 2) = g.length := by rw [List.take_left' (by simp), rd_be 2 _ (by omega)]
  have hd2 : (be 2 g.length ++ (g ++ (be 2 a.length ++ (a ++ q)))).drop 2 = g ++ (be 2 a.length ++ (a ++ q)) := List.drop_left' (by simp)
  unfold decU
  rw [hr0, hd2, if_neg (by simp; omega), List.take_left' rfl, List.drop_left' rfl, List.take_left' (by simp), rd_be 2 _ (by omega), ← List.drop_drop, List.drop_left' rfl, List.drop_left' (by simp)]
  unfold decU3
  rw [if_neg (by simp), List.take_left' rfl, List.drop_left' rfl, u1, u2]
  unfold decU1
  simp only
  unfold decU2
  by_cases hr : m.reach = []
  · rw [if_pos ⟨hat0 hr, hr⟩, ← ok.zero hr, hm]
    unfold chkU; rw [if_pos h]
  · obtain ⟨ea, ed⟩ := hda hr
    rw [if_neg (fun q => hr q.2), ea, ed, if_neg (by simp), if_neg (by simp), if_neg hr, hm]
    unfold chkU; rw [if_pos h]
end Go.AM.IR
set_option maxRecDepth 20000
namespace Go.AM.IR
theorem body_min {m : PMsg} (h : checkM m = 0) (wide : Bool) : badLen m.kind (19 + (bodyB m wide).length : Nat) = false := by
  obtain ⟨k1, k2, _⟩ := check_parts h
  unfold badLen bodyB
  have hc : m.kind = 1 ∨ m.kind = 2 ∨ m.kind = 3 ∨ m.kind = 4 ∨ m.kind = 5 := by omega
  rcases hc with hk | hk | hk | hk | hk
  · have := (openB_length (open_ok h hk)).2
    rw [if_pos hk, decide_eq_false_iff_not, hk]; omega
  · have : 4 ≤ (updB m wide).length := by unfold updB; simp only [List.length_append, be_length]; omega
    rw [if_neg (by omega), if_pos hk, decide_eq_false_iff_not, hk]; omega
  · have : 2 ≤ (noteB m).length := by unfold noteB; simp
    rw [if_neg (by omega), if_neg (by omega), if_pos hk, decide_eq_false_iff_not, hk]; omega
  · rw [if_neg (by omega), if_neg (by omega), if_neg (by omega), if_neg (by omega), decide_eq_false_iff_not, hk]; simp
  · rw [if_neg (by omega), if_neg (by omega), if_neg (by omega), if_pos hk, decide_eq_false_iff_not, hk]; simp
theorem msgB_length (m : PMsg) (wide : Bool) : (msgB m wide).length = 19 + (bodyB m wide).length := by simp [msgB, headB_length]
theorem decB_back {m : PMsg} {wide : Bool} (h : encE m wide = 0) (ho : m.ok) (hd : List UInt8) : decB wide m.kind hd (bodyB m wide) = (m, zeroM, 0) := by
  obtain ⟨hc, hb, hl⟩ := encE_zero h
  obtain ⟨k1, k2, _⟩ := check_parts hc
  unfold decB
  by_cases h1 : m.kind = 1
  · rw [if_pos h1, show bodyB m wide = openB m from by unfold bodyB; rw [if_pos h1]]
    exact decO_back hc h1 ho.router
  · by_cases h2 : m.kind = 2
    · have eb : bodyB m wide = updB m wide := by unfold bodyB; rw [if_neg h1, if_pos h2]
      rw [eb] at hl
      rw [if_neg h1, if_pos h2, eb]
      exact decU_back hc h2 ⟨ho.withdrawn, ho.reach⟩ ho.attrs wide hb (by omega)
    · by_cases h3 : m.kind = 3
      · have ok := note_ok hc h3
        obtain ⟨r1, r2, r3, r4, r5, r6, r7, r8⟩ := ok.rest
        have hn : noteD (noteB m) = m := by
          have e1 : rd ((noteB m).take 1) = m.code.toNat := by
            show rd [UInt8.ofNat m.code.toNat] = _
            have := ok.code
            simp only [rd, List.foldl_cons, List.foldl_nil]; rw [ofNat8 (by omega)]; omega
          have e2 : rd (((noteB m).drop 1).take 1) = m.sub.toNat := by
            show rd [UInt8.ofNat m.sub.toNat] = _
            have := ok.sub
            simp only [rd, List.foldl_cons, List.foldl_nil]; rw [ofNat8 (by omega)]; omega
          unfold noteD
          rw [e1, e2, Int.toNat_of_nonneg (by have := ok.code; omega), Int.toNat_of_nonneg ok.sub.1, show (noteB m).drop 2 = m.data from rfl, PMsg.eq_iff]
          simp only [noteM, zeroM]
          exact ⟨h3.symm, r1.symm, r2.symm, r3.symm, r4.symm, trivial, trivial, trivial, r5.symm, r6.symm, r8.symm, r7.symm⟩
        rw [if_neg h1, if_neg h2, if_pos h3, show bodyB m wide = noteB m from by unfold bodyB; rw [if_neg h1, if_neg h2, if_pos h3], hn, if_pos hc]
      · have hz := zero_ok hc (by omega)
        rw [if_neg h1, if_neg h2, if_neg h3]
        by_cases h5 : m.kind = 5
        · rw [if_neg (fun q => q.2 (by unfold bodyB; rw [if_neg h1, if_neg h2, if_neg h3, if_pos h5])), ← hz]
        · rw [if_neg (fun q => h5 q.1), ← hz]
theorem decM_parts {m : PMsg} {wide : Bool} (h : encE m wide = 0) (t : List UInt8) (ht : 0 < (bodyB m wide ++ t).length ∨ True) :
    let b := headB (19 + (bodyB m wide).length) m.kind.toNat ++ t
    (b.take 16).any (fun c => c != 255) = false ∧ lenD b = 19 + (bodyB m wide).length ∧ (kindD b : Int) = m.kind := by
  obtain ⟨hc, hb, hl⟩ := encE_zero h
  obtain ⟨k1, k2, _⟩ := check_parts hc
  have e16 : ∀ x : List UInt8, (List.replicate 16 (255 : UInt8) ++ x).drop 16 = x := fun x => List.drop_left' (by simp)
  refine ⟨?_, ?_, ?_⟩
  · rw [headB, List.append_assoc, List.take_left' (by simp)]; rfl
  · rw [lenD, headB, List.append_assoc, e16, List.append_assoc, List.take_left' (by simp), rd_be 2 _ (by omega)]
  · rw [kindD, headB, List.append_assoc, show 18 = 16 + 2 from rfl, ← List.drop_drop, e16, List.append_assoc, List.drop_left' (by simp)]
    show ((rd [UInt8.ofNat m.kind.toNat] : Nat) : Int) = m.kind
    simp only [rd, List.foldl_cons, List.foldl_nil]
    rw [ofNat8 (by omega)]; omega
theorem decM_back {m : PMsg} {wide : Bool} (h : encE m wide = 0) (ho : m.ok) (more : List UInt8) : decM wide (msgB m wide ++ more) = (m, (((msgB m wide).length : Nat) : Int), zeroM, 0) := by
  obtain ⟨hc, hb, hl⟩ := encE_zero h
  obtain ⟨k1, k2, _⟩ := check_parts hc
  have e0 : msgB m wide ++ more = headB (19 + (bodyB m wide).length) m.kind.toNat ++ (bodyB m wide ++ more) := by unfold msgB; rw [List.append_assoc]
  obtain ⟨p1, p2, p3⟩ := decM_parts h (bodyB m wide ++ more) (.inr trivial)
  have hbl := body_min hc wide
  have hml := msgB_length m wide
  have hcut : ((headB (19 + (bodyB m wide).length) m.kind.toNat ++ (bodyB m wide ++ more)).take (19 + (bodyB m wide).length)).drop 19 = bodyB m wide := by
    rw [← List.append_assoc, List.take_left' (by simp [headB_length]), List.drop_left' (headB_length _ _)]
  have hlen : (headB (19 + (bodyB m wide).length) m.kind.toNat ++ (bodyB m wide ++ more)).length = 19 + (bodyB m wide).length + more.length := by simp [headB_length]; omega
  try simp only at p1 p2 p3
  rw [e0]
  unfold decM
  rw [p1, p2, p3, if_neg (by omega), if_neg (by simp), if_neg (by omega), if_neg (by omega), hbl, if_neg (by simp), if_neg (by omega), hcut, decB_back h ho]
  unfold finM
  rw [if_pos rfl, hml]
theorem decM_cut {m : PMsg} {wide : Bool} (h : encE m wide = 0) : decM wide (msgB m wide).dropLast = (zeroM, 0, zeroM, 3) := by
  obtain ⟨hc, hb, hl⟩ := encE_zero h
  obtain ⟨k1, k2, _⟩ := check_parts hc
  have hml := msgB_length m wide
  by_cases h0 : bodyB m wide = []
  · have : (msgB m wide).dropLast.length < 19 := by simp [hml, h0]
    unfold decM
    rw [if_pos this]
  · have e0 : (msgB m wide).dropLast = headB (19 + (bodyB m wide).length) m.kind.toNat ++ (bodyB m wide).dropLast := by unfold msgB; rw [List.dropLast_append_of_ne_nil h0]
    obtain ⟨p1, p2, p3⟩ := decM_parts h (bodyB m wide).dropLast (.inr trivial)
    have hbl := body_min hc wide
    have hpos := List.length_pos_iff.2 h0
    have hlen : (headB (19 + (bodyB m wide).length) m.kind.toNat ++ (bodyB m wide).dropLast).length = 19 + (bodyB m wide).length - 1 := by simp [headB_length]; omega
    try simp only at p1 p2 p3
    rw [e0]
    unfold decM
    rw [p1, p2, p3, if_neg (by omega), if_neg (by simp), if_neg (by omega), if_neg (by omega), hbl, if_neg (by simp), if_pos (by omega)]
def IsNote (f : PMsg) : Prop := ∃ c s d, f = noteM c s d ∧ (1 ≤ c ∧ c ≤ 6) ∧ (0 ≤ s ∧ s ≤ 255) ∧ d.length ≤ 2
theorem IsNote.mk {c s : Int} {d : List UInt8} (hc : 1 ≤ c ∧ c ≤ 6 := by decide) (hs : 0 ≤ s ∧ s ≤ 255 := by decide) (hd : d.length ≤ 2 := by first | decide | (simp; omega)) : IsNote (noteM c s d) := ⟨c, s, d, rfl, hc, hs, hd⟩
end Go.AM.IR
set_option maxHeartbeats 4000000
set_option maxRecDepth 20000
namespace Go.AM.IR
theorem ofN {n : Nat} (h : n < 256) : ((UInt8.ofNat n).toNat : Int) = n := by rw [show (UInt8.ofNat n).toNat = n by simp; omega]
theorem cap_step (done : List Cap) (x : Cap) (h1 : 1 ≤ x.code ∧ x.code ≤ 255) : byteCells (capsB done) ++ [[.int .u8 x.code], [.int .u8 ((UInt8.ofNat (byteCells x.value).length).toNat : Int)]] ++ byteCells x.value = byteCells (capsB (done ++ [x])) := by
  have e1 : ((UInt8.ofNat x.code.toNat).toNat : Int) = x.code := by rw [ofN (by omega)]; omega
  rw [byteCells_length]
  simp only [capsB, List.flatMap_append, List.flatMap_cons, List.flatMap_nil, List.append_nil, byteCells, List.map_append, List.map_cons, e1, List.append_assoc, List.cons_append, List.nil_append]
theorem cap_loop196 (l : List Cap) (b : List UInt8) (hv : ∀ c ∈ l, (1 ≤ c.code ∧ c.code ≤ 255) ∧ c.value.length ≤ 255) (hcl : (capsB l).length ≤ 253) (hb : b.length < 2 ^ 20) (hl : l.length < 2 ^ 40) (ln : Int) (hln : ln = l.length) : ∀ (rest done : List Cap) (g gb m mb : Nat) (es eb : List (List AV)) (T : List (Nat × AV)) (H : Heap) (c : Nat) (n : Int) (e : l = done ++ rest) (hn : n = done.length) (hm : m = (capsB done).length) (hes : es = byteCells (capsB done)) (hmb : mb = b.length) (heb : eb = byteCells b), Ev G ⟨f196x12LH, ⟨(28, .sl 2 (l.map Cap.enc)) :: (29, .int .i64 ln) :: (30, .int .i64 n) :: (4, .vs 200 g m) :: (3, .vs 90 gb mb) :: T, (200, some (g, .vec 1 es)) :: (90, some (gb, .vec 1 eb)) :: H, c⟩, [.t 2], 0⟩ (rB (b ++ capTail l))
  | [], done, g, gb, m, mb, es, eb, T, H, c, n, e, hn, hm, hes, hmb, heb => by
    have hd : l.length = done.length := by simp [e]
    have hll : (l.map Cap.enc).length = l.length := by simp
    obtain rfl : l = done := by simpa using e
    subst hm hes hmb heb
    unfold capTail
    by_cases h0 : capsB l = []
    · have hz : (capsB l).length = 0 := by simp [h0]
      rw [if_pos h0]
      refine ev_loop' (W_ok 300 _ _ _ _ ?_)
      repeat' (first | refine stpA ?_ | (refine condS ?_ ?_ <;> intro h))
      refine ev_retB 90 ⟨_, _, _, rfl, rfl, (by simp), ?_⟩
      simp [byteCells]
    · have hz : 0 < (capsB l).length := List.length_pos_iff.2 h0
      rw [if_neg h0]
      have e1 : ((UInt8.ofNat ((capsB l).length + 2)).toNat : Int) = ((capsB l).length + 2 : Nat) := ofN (by omega)
      have e2 : ((UInt8.ofNat (capsB l).length).toNat : Int) = ((capsB l).length : Nat) := ofN (by omega)
      refine ev_loop' (W_ok 300 _ _ _ _ ?_)
      repeat' (first | refine stpA ?_ | (refine condS ?_ ?_ <;> intro h))
      refine ev_retB 90 ⟨_, _, _, rfl, rfl, (by simp; omega), ?_⟩
      simp only [byteCells, List.map_append, List.map_cons, e1, e2, List.append_assoc, List.cons_append, List.nil_append]
      simp
  | x :: r, done, g, gb, m, mb, es, eb, T, H, c, n, e, hn, hm, hes, hmb, heb => by
    have hd : l.length = done.length + (r.length + 1) := by simp [e]
    have hll : (l.map Cap.enc).length = l.length := by simp
    have hx : (l.map Cap.enc)[n.toNat]? = some (Cap.enc x) := by simp [e, hn]
    obtain ⟨h1, h2⟩ := hv x (by simp [e])
    subst hm hes hmb heb
    have hcd : (capsB done).length ≤ 253 := by rw [e] at hcl; simp [capsB] at hcl ⊢; omega
    refine ev_loop' (W_ok 300 _ _ _ _ ?_)
    repeat' (first | refine stpA ?_ | (refine condS ?_ ?_ <;> intro h))
    refine ev_keep [28, 29, 30, 4, 3] [200, 90] ?_; exact cap_loop196 l b hv hcl hb hl ln hln r (done ++ [x]) _ _ _ _ _ _ _ _ _ (n + 1) (by simp [e]) (by simp [hn] <;> omega) (by simp [capsB]; omega) (cap_step done x h1) rfl rfl
theorem open_gives196 (m : PMsg) (h : OpenOk m) (hr : okU m.router) : Gives G 196 [.agg m.enc] [] (rB (openB m)) := by
  obtain ⟨c1, c2⟩ := h.caps
  obtain ⟨b1, b2⟩ := h.hold
  obtain ⟨a1, a2⟩ := h.as
  have hver := h.version
  unfold okU at hr
  have hs : 0 ≤ shortI m.as ∧ shortI m.as ≤ 65535 := by unfold shortI; split <;> omega
  have h0 := short_gives204 m.as
  have hp1 := put_gives109 [UInt8.ofNat m.version.toNat] (by simp) 2 (shortI m.as).toNat (by omega)
  have hp2 := put_gives109 ([UInt8.ofNat m.version.toNat] ++ be 2 (shortI m.as).toNat) (by simp) 2 m.hold.toNat (by omega)
  have hp3 := put_gives109 ([UInt8.ofNat m.version.toNat] ++ be 2 (shortI m.as).toNat ++ be 2 m.hold.toNat) (by simp) 4 m.router.toNat (by omega)
  have hcl := capsB_length m.caps
  have hv : ∀ c ∈ m.caps, (1 ≤ c.code ∧ c.code ≤ 255) ∧ c.value.length ≤ 255 := fun c hc => ⟨c1 c hc, by have := capT_mem hc; omega⟩
  have e1 : byteCells [UInt8.ofNat m.version.toNat] = [[.int .u8 m.version]] := by
    have : ((UInt8.ofNat m.version.toNat).toNat : Int) = m.version := by rw [ofN (by omega)]; omega
    simp only [byteCells, List.map_cons, List.map_nil, this]
  rw [e1, show (((shortI m.as).toNat : Nat) : Int) = shortI m.as by omega] at hp1
  rw [show ((m.hold.toNat : Nat) : Int) = m.hold by omega] at hp2
  rw [show ((m.router.toNat : Nat) : Int) = m.router by omega] at hp3
  have hl : (m.caps.map Cap.enc).length = m.caps.length := by simp
  have hlc : m.caps.length ≤ 253 := by
    have : ∀ l : List Cap, (l.length : Int) ≤ capT l := fun l => by
      induction l with
      | nil => simp [capT]
      | cons c r ih => simp only [capT, List.length_cons]; omega
    have := this m.caps; omega
  have key := cap_loop196 m.caps ([UInt8.ofNat m.version.toNat] ++ be 2 (shortI m.as).toNat ++ be 2 m.hold.toNat ++ be 4 m.router.toNat) hv (by omega) (by simp) (by omega) ((m.caps.map Cap.enc).length : Int) (by simp) m.caps []
  rw [show openB m = [UInt8.ofNat m.version.toNat] ++ be 2 (shortI m.as).toNat ++ be 2 m.hold.toNat ++ be 4 m.router.toNat ++ capTail m.caps from by simp [openB]]
  generalize shortI m.as = sa at *
  refine gives_code (F := f196) rfl rfl (W_ok 300 _ _ _ _ ?_)
  repeat' (first | refine stpA ?_ | refine kX [] [(74, _, _)] trivial ⟨rfl, pz trivial⟩ (hp1) ?_ | refine kX [] [(80, _, _)] trivial ⟨rfl, pz trivial⟩ (hp2) ?_ | refine kX [] [(85, _, _)] trivial ⟨rfl, pz trivial⟩ (hp3) ?_ | (refine condS ?_ ?_ <;> intro h))
  refine ev_nil 200 1 [(4, .vs 200 _ 0)] [] ⟨LeP.nilV _ _ _, trivial⟩ trivial ?_
  refine ev_keep [28, 29, 30, 4, 3] [200, 90] ?_
  exact key _ _ _ _ _ _ _ _ _ 0 rfl rfl rfl rfl rfl rfl
end Go.AM.IR
set_option maxHeartbeats 4000000
set_option maxRecDepth 20000
namespace Go.AM.IR
def updR (m : PMsg) (wide : Bool) : Ret := if m.reach ≠ [] ∧ encBad m.attrs wide = true then ⟨.tup [.con (.slice none 0 0), .int .i64 5], []⟩ else if (packP m.withdrawn).length > 65535 ∨ (attsB m wide).length > 65535 then ⟨.tup [.con (.slice none 0 0), .int .i64 4], []⟩ else ⟨.tup [.vs 0 0 (updB m wide).length, .int .i64 0], [(false, .vec 1 (byteCells (updB m wide)))]⟩
theorem tupN_eq {n n' : Nat} {es es' : List (List AV)} (hn : n = n') (he : es = es') : (⟨.tup [.vs 0 0 n, .int .i64 0], [(false, .vec 1 es)]⟩ : Ret) = ⟨.tup [.vs 0 0 n', .int .i64 0], [(false, .vec 1 es')]⟩ := by subst hn he; rfl
theorem upd_gives197 (m : PMsg) (h : UpdOk m) (ho : m.ok) (hb : AB m.attrs) (hw : m.withdrawn.length < 2 ^ 30) (hr : m.reach.length < 2 ^ 30) (wide : Bool) : Gives G 197 [.agg m.enc, .bool wide] [] (updR m wide) := by
  have h1 := put_gives205 m.withdrawn (fun p hp => ⟨ho.withdrawn p hp, h.withdrawn p hp⟩) hw
  have h2 := put_gives205 m.reach (fun p hp => ⟨ho.reach p hp, h.reach p hp⟩) hr
  have l1 := packP_length (l := m.withdrawn) (fun p hp => by have := valid_mul (ho.withdrawn p hp) (h.withdrawn p hp); omega)
  have l2 := packP_length (l := m.reach) (fun p hp => by have := valid_mul (ho.reach p hp) (h.reach p hp); omega)
  have hll : (m.reach.map Pfx.enc).length = m.reach.length := by simp
  have hlm : (m.withdrawn.map Pfx.enc).length = m.withdrawn.length := by simp
  unfold updR updB
  by_cases hz : m.reach = []
  · have hzl : m.reach.length = 0 := by simp [hz]
    have ha : attsB m wide = [] := by unfold attsB; rw [if_pos hz]
    rw [if_neg (fun q => q.1 hz), ha]
    have hq : packP m.reach = [] := by rw [hz]; rfl
    rw [hq] at h2 ⊢
    generalize packP m.withdrawn = g at *
    by_cases hg : g.length > 65535
    · rw [if_pos (.inl hg)]
      refine gives_code (F := f197) rfl rfl (W_ok 300 _ _ _ _ ?_)
      repeat' (first | refine stpA ?_ | (refine condS ?_ ?_ <;> intro h))
      (first | refine fin1 ?_ | refine fin0 ?_); rfl
    · rw [if_neg (by simp; omega)]
      have p1 := put0_gives109 2 g.length (by omega)
      have p2 := put_gives109 (be 2 g.length ++ g) (by simp; omega) 2 0 (by omega)
      rw [byteCells_append] at p2
      refine gives_code (F := f197) rfl rfl (W_ok 300 _ _ _ _ ?_)
      repeat' (first | refine stpA ?_ | refine kX [] [(104, _, _)] trivial ⟨rfl, pz trivial⟩ (p2) ?_ | (refine condS ?_ ?_ <;> intro h))
      refine ev_finN [(111, _, .vec 1 _)] ⟨⟨rfl, (by simp [Blk.pure]), trivial⟩, rfl, rfl, (by simp), ?_⟩
      exact tupN_eq (by simp <;> omega) (by simp [byteCells])
  · have hzl : 0 < m.reach.length := List.length_pos_iff.2 hz
    have hck := h.attrs hz
    have ha : attsB m wide = encB m.attrs wide := by unfold attsB; rw [if_neg hz]
    have h3 := encode67 m.attrs wide hb ho.attrs
    unfold encR encRet at h3
    rw [if_pos hck] at h3
    rw [ha]
    have l3 := encB_le (valid_of hck) wide
    cases hbad : encBad m.attrs wide
    · rw [hbad, if_neg (by simp)] at h3
      rw [if_neg (by simp)]
      generalize encB m.attrs wide = a at *
      generalize packP m.withdrawn = g at *
      generalize packP m.reach = q at *
      by_cases hg : g.length > 65535
      · rw [if_pos (.inl hg)]
        refine gives_code (F := f197) rfl rfl (W_ok 300 _ _ _ _ ?_)
        repeat' (first | refine stpA ?_ | (refine condS ?_ ?_ <;> intro h))
        (first | refine fin1 ?_ | refine fin0 ?_); rfl
      · by_cases hga : a.length > 65535
        · rw [if_pos (.inr hga)]
          refine gives_code (F := f197) rfl rfl (W_ok 300 _ _ _ _ ?_)
          repeat' (first | refine stpA ?_ | (refine condS ?_ ?_ <;> intro h))
          (first | refine fin1 ?_ | refine fin0 ?_); rfl
        · rw [if_neg (by omega)]
          have p1 := put0_gives109 2 g.length (by omega)
          have p2 := put_gives109 (be 2 g.length ++ g) (by simp; omega) 2 a.length (by omega)
          rw [byteCells_append] at p2
          refine gives_code (F := f197) rfl rfl (W_ok 300 _ _ _ _ ?_)
          repeat' (first | refine stpA ?_ | refine kX [] [(104, _, _)] trivial ⟨rfl, pz trivial⟩ (p2) ?_ | (refine condS ?_ ?_ <;> intro h))
          refine ev_finN [(111, _, .vec 1 _)] ⟨⟨rfl, (by simp [Blk.pure]), trivial⟩, rfl, rfl, (by simp), ?_⟩
          exact tupN_eq (by simp <;> omega) (by simp [byteCells])
    · rw [hbad, if_pos rfl] at h3
      rw [if_pos ⟨hz, rfl⟩]
      generalize packP m.withdrawn = g at *
      refine gives_code (F := f197) rfl rfl (W_ok 300 _ _ _ _ ?_)
      repeat' (first | refine stpA ?_ | (refine condS ?_ ?_ <;> intro h))
      (first | refine fin1 ?_ | refine fin0 ?_); rfl
end Go.AM.IR
set_option maxHeartbeats 4000000
set_option maxRecDepth 20000
namespace Go.AM.IR
theorem tupN_ren (K : Nat) {g n n' : Nat} {es es' : List (List AV)} (hn : n = n') (he : es = es') : (⟨AV.ren (φR [(K, g, .vec 1 es)] 0) (.tup [.vs K g n, .int .i64 0]), [(false, .vec 1 es)]⟩ : Ret) = ⟨.tup [.vs 0 0 n', .int .i64 0], [(false, .vec 1 es')]⟩ := by subst hn he; simp [AV.ren, renL, φR]
def ff (j : Nat) : List UInt8 := List.replicate (16 - j) 255 ++ List.replicate j 0
theorem ff_step (j : Nat) (hj : j < 16) : (byteCells (ff (j + 1))).set (16 - (j + 1)) [.int .u8 255] = byteCells (ff j) := by
  have h : j = 0 ∨ j = 1 ∨ j = 2 ∨ j = 3 ∨ j = 4 ∨ j = 5 ∨ j = 6 ∨ j = 7 ∨ j = 8 ∨ j = 9 ∨ j = 10 ∨ j = 11 ∨ j = 12 ∨ j = 13 ∨ j = 14 ∨ j = 15 := by omega
  rcases h with rfl | rfl | rfl | rfl | rfl | rfl | rfl | rfl | rfl | rfl | rfl | rfl | rfl | rfl | rfl | rfl <;> rfl
theorem ff_get (j : Nat) (hj : j < 16) : (byteCells (ff (j + 1)))[16 - (j + 1)]? = some [.int .u8 0] := by
  have h : j = 0 ∨ j = 1 ∨ j = 2 ∨ j = 3 ∨ j = 4 ∨ j = 5 ∨ j = 6 ∨ j = 7 ∨ j = 8 ∨ j = 9 ∨ j = 10 ∨ j = 11 ∨ j = 12 ∨ j = 13 ∨ j = 14 ∨ j = 15 := by omega
  rcases h with rfl | rfl | rfl | rfl | rfl | rfl | rfl | rfl | rfl | rfl | rfl | rfl | rfl | rfl | rfl | rfl <;> rfl
theorem ff_length (j : Nat) (hj : j ≤ 16) : (ff j).length = 16 := by simp [ff]; omega
def encOk (k : Nat) (b : List UInt8) : Ret := ⟨.tup [.vs 0 0 (headB (19 + b.length) k ++ b).length, .int .i64 0], [(false, .vec 1 (byteCells (headB (19 + b.length) k ++ b)))]⟩
theorem ff_loop86 (m : PMsg) (hk : 1 ≤ m.kind ∧ m.kind ≤ 5) (b : List UInt8) (hb : b.length ≤ 65516) : ∀ (j : Nat) (T : List (Nat × AV)) (H : Heap) (c g gb mb n16 : Nat) (es eb : List (List AV)) (n : Int) (hj : j ≤ 16) (hn : n = 16 - j) (h16 : n16 = 16) (hes : es = byteCells (ff j)) (hmb : mb = b.length) (heb : eb = byteCells b),
   Ev G ⟨f193x25LH, ⟨(60, .int .i64 n) :: (10, .vs 121 g n16) :: (7, .vs 86 gb mb) :: (2, .ref 66 1 0) :: (59, .int .i64 16) :: T, (121, some (g, .vec 1 es)) :: (86, some (gb, .vec 1 eb)) :: (66, some (1, .cells m.enc)) :: H, c⟩, [.t 4, .t 5], 0⟩ (encOk m.kind.toNat b)
  | 0, T, H, c, g, gb, mb, n16, es, eb, n, hj, hn, h16, hes, hmb, heb => by
    subst h16 hes hmb heb
    have hp := put_gives109 (List.replicate 16 255) (by simp) 2 (19 + b.length) (by omega)
    have hff : ff 0 = List.replicate 16 255 := rfl
    have hk2 : ((UInt8.ofNat m.kind.toNat).toNat : Int) = m.kind := by rw [ofN (by omega)]; omega
    have hfl : (byteCells (ff 0)).length = 16 := by simp [ff]
    have hf0 : (ff 0).length = 16 := rfl
    rw [← hff] at hp
    refine ev_loop' (W_ok 300 _ _ _ _ ?_)
    repeat' (first | refine stpA ?_ | refine kX [] [(121, _, _)] trivial ⟨rfl, pz trivial⟩ (hp) ?_ | (refine condS ?_ ?_ <;> intro h))
    refine ev_finN [(136, _, .vec 1 _)] ⟨⟨rfl, (by simp [Blk.pure, pureLL, pureL, AV.pure]), trivial⟩, rfl, rfl, (by simp), ?_⟩
    unfold encOk
    refine tupN_ren 136 ?_ ?_
    · simp [headB, hf0] <;> omega
    · simp [headB, hff, byteCells] <;> omega
  | j + 1, T, H, c, g, gb, mb, n16, es, eb, n, hj, hn, h16, hes, hmb, heb => by
    subst h16 hes hmb heb
    have hfl : (byteCells (ff (j + 1))).length = 16 := by rw [byteCells_length, ff_length _ hj]
    have hnn : n.toNat = 16 - (j + 1) := by omega
    have hx : (byteCells (ff (j + 1)))[n.toNat]? = some [.int .u8 0] := by rw [hnn]; exact ff_get j (by omega)
    refine ev_loop' (W_ok 300 _ _ _ _ ?_)
    repeat' (first | refine stpA ?_ | (refine condS ?_ ?_ <;> intro h))
    refine ev_keep [60, 10, 7, 2, 59] [121, 86, 66] ?_
    refine ff_loop86 m hk b hb j _ _ _ _ _ _ _ _ _ (n + 1) (by omega) (by omega) rfl ?_ rfl rfl
    rw [← ff_step j (by omega), ← hnn]; rfl
theorem ff_loop92 (m : PMsg) (hk : 1 ≤ m.kind ∧ m.kind ≤ 5) (b : List UInt8) (hb : b.length ≤ 65516) : ∀ (j : Nat) (T : List (Nat × AV)) (H : Heap) (c g gb mb n16 : Nat) (es eb : List (List AV)) (n : Int) (hj : j ≤ 16) (hn : n = 16 - j) (h16 : n16 = 16) (hes : es = byteCells (ff j)) (hmb : mb = b.length) (heb : eb = byteCells b),
   Ev G ⟨f193x25LH, ⟨(60, .int .i64 n) :: (10, .vs 121 g n16) :: (7, .vs 92 gb mb) :: (2, .ref 66 1 0) :: (59, .int .i64 16) :: T, (121, some (g, .vec 1 es)) :: (92, some (gb, .vec 1 eb)) :: (66, some (1, .cells m.enc)) :: H, c⟩, [.t 4, .t 5], 0⟩ (encOk m.kind.toNat b)
  | 0, T, H, c, g, gb, mb, n16, es, eb, n, hj, hn, h16, hes, hmb, heb => by
    subst h16 hes hmb heb
    have hp := put_gives109 (List.replicate 16 255) (by simp) 2 (19 + b.length) (by omega)
    have hff : ff 0 = List.replicate 16 255 := rfl
    have hk2 : ((UInt8.ofNat m.kind.toNat).toNat : Int) = m.kind := by rw [ofN (by omega)]; omega
    have hfl : (byteCells (ff 0)).length = 16 := by simp [ff]
    have hf0 : (ff 0).length = 16 := rfl
    rw [← hff] at hp
    refine ev_loop' (W_ok 300 _ _ _ _ ?_)
    repeat' (first | refine stpA ?_ | refine kX [] [(121, _, _)] trivial ⟨rfl, pz trivial⟩ (hp) ?_ | (refine condS ?_ ?_ <;> intro h))
    refine ev_finN [(136, _, .vec 1 _)] ⟨⟨rfl, (by simp [Blk.pure, pureLL, pureL, AV.pure]), trivial⟩, rfl, rfl, (by simp), ?_⟩
    unfold encOk
    refine tupN_ren 136 ?_ ?_
    · simp [headB, hf0] <;> omega
    · simp [headB, hff, byteCells] <;> omega
  | j + 1, T, H, c, g, gb, mb, n16, es, eb, n, hj, hn, h16, hes, hmb, heb => by
    subst h16 hes hmb heb
    have hfl : (byteCells (ff (j + 1))).length = 16 := by rw [byteCells_length, ff_length _ hj]
    have hnn : n.toNat = 16 - (j + 1) := by omega
    have hx : (byteCells (ff (j + 1)))[n.toNat]? = some [.int .u8 0] := by rw [hnn]; exact ff_get j (by omega)
    refine ev_loop' (W_ok 300 _ _ _ _ ?_)
    repeat' (first | refine stpA ?_ | (refine condS ?_ ?_ <;> intro h))
    refine ev_keep [60, 10, 7, 2, 59] [121, 92, 66] ?_
    refine ff_loop92 m hk b hb j _ _ _ _ _ _ _ _ _ (n + 1) (by omega) (by omega) rfl ?_ rfl rfl
    rw [← ff_step j (by omega), ← hnn]; rfl
theorem ff_loop107 (m : PMsg) (hk : 1 ≤ m.kind ∧ m.kind ≤ 5) (b : List UInt8) (hb : b.length ≤ 65516) : ∀ (j : Nat) (T : List (Nat × AV)) (H : Heap) (c g gb mb n16 : Nat) (es eb : List (List AV)) (n : Int) (hj : j ≤ 16) (hn : n = 16 - j) (h16 : n16 = 16) (hes : es = byteCells (ff j)) (hmb : mb = b.length) (heb : eb = byteCells b),
   Ev G ⟨f193x25LH, ⟨(60, .int .i64 n) :: (10, .vs 121 g n16) :: (7, .vs 107 gb mb) :: (2, .ref 66 1 0) :: (59, .int .i64 16) :: T, (121, some (g, .vec 1 es)) :: (107, some (gb, .vec 1 eb)) :: (66, some (1, .cells m.enc)) :: H, c⟩, [.t 4, .t 5], 0⟩ (encOk m.kind.toNat b)
  | 0, T, H, c, g, gb, mb, n16, es, eb, n, hj, hn, h16, hes, hmb, heb => by
    subst h16 hes hmb heb
    have hp := put_gives109 (List.replicate 16 255) (by simp) 2 (19 + b.length) (by omega)
    have hff : ff 0 = List.replicate 16 255 := rfl
    have hk2 : ((UInt8.ofNat m.kind.toNat).toNat : Int) = m.kind := by rw [ofN (by omega)]; omega
    have hfl : (byteCells (ff 0)).length = 16 := by simp [ff]
    have hf0 : (ff 0).length = 16 := rfl
    rw [← hff] at hp
    refine ev_loop' (W_ok 300 _ _ _ _ ?_)
    repeat' (first | refine stpA ?_ | refine kX [] [(121, _, _)] trivial ⟨rfl, pz trivial⟩ (hp) ?_ | (refine condS ?_ ?_ <;> intro h))
    refine ev_finN [(136, _, .vec 1 _)] ⟨⟨rfl, (by simp [Blk.pure, pureLL, pureL, AV.pure]), trivial⟩, rfl, rfl, (by simp), ?_⟩
    unfold encOk
    refine tupN_ren 136 ?_ ?_
    · simp [headB, hf0] <;> omega
    · simp [headB, hff, byteCells] <;> omega
  | j + 1, T, H, c, g, gb, mb, n16, es, eb, n, hj, hn, h16, hes, hmb, heb => by
    subst h16 hes hmb heb
    have hfl : (byteCells (ff (j + 1))).length = 16 := by rw [byteCells_length, ff_length _ hj]
    have hnn : n.toNat = 16 - (j + 1) := by omega
    have hx : (byteCells (ff (j + 1)))[n.toNat]? = some [.int .u8 0] := by rw [hnn]; exact ff_get j (by omega)
    refine ev_loop' (W_ok 300 _ _ _ _ ?_)
    repeat' (first | refine stpA ?_ | (refine condS ?_ ?_ <;> intro h))
    refine ev_keep [60, 10, 7, 2, 59] [121, 107, 66] ?_
    refine ff_loop107 m hk b hb j _ _ _ _ _ _ _ _ _ (n + 1) (by omega) (by omega) rfl ?_ rfl rfl
    rw [← ff_step j (by omega), ← hnn]; rfl
theorem ff_loop113 (m : PMsg) (hk : 1 ≤ m.kind ∧ m.kind ≤ 5) (b : List UInt8) (hb : b.length ≤ 65516) : ∀ (j : Nat) (T : List (Nat × AV)) (H : Heap) (c g gb mb n16 : Nat) (es eb : List (List AV)) (n : Int) (hj : j ≤ 16) (hn : n = 16 - j) (h16 : n16 = 16) (hes : es = byteCells (ff j)) (hmb : mb = b.length) (heb : eb = byteCells b),
   Ev G ⟨f193x25LH, ⟨(60, .int .i64 n) :: (10, .vs 121 g n16) :: (7, .vs 113 gb mb) :: (2, .ref 66 1 0) :: (59, .int .i64 16) :: T, (121, some (g, .vec 1 es)) :: (113, some (gb, .vec 1 eb)) :: (66, some (1, .cells m.enc)) :: H, c⟩, [.t 4, .t 5], 0⟩ (encOk m.kind.toNat b)
  | 0, T, H, c, g, gb, mb, n16, es, eb, n, hj, hn, h16, hes, hmb, heb => by
    subst h16 hes hmb heb
    have hp := put_gives109 (List.replicate 16 255) (by simp) 2 (19 + b.length) (by omega)
    have hff : ff 0 = List.replicate 16 255 := rfl
    have hk2 : ((UInt8.ofNat m.kind.toNat).toNat : Int) = m.kind := by rw [ofN (by omega)]; omega
    have hfl : (byteCells (ff 0)).length = 16 := by simp [ff]
    have hf0 : (ff 0).length = 16 := rfl
    rw [← hff] at hp
    refine ev_loop' (W_ok 300 _ _ _ _ ?_)
    repeat' (first | refine stpA ?_ | refine kX [] [(121, _, _)] trivial ⟨rfl, pz trivial⟩ (hp) ?_ | (refine condS ?_ ?_ <;> intro h))
    refine ev_finN [(136, _, .vec 1 _)] ⟨⟨rfl, (by simp [Blk.pure, pureLL, pureL, AV.pure]), trivial⟩, rfl, rfl, (by simp), ?_⟩
    unfold encOk
    refine tupN_ren 136 ?_ ?_
    · simp [headB, hf0] <;> omega
    · simp [headB, hff, byteCells] <;> omega
  | j + 1, T, H, c, g, gb, mb, n16, es, eb, n, hj, hn, h16, hes, hmb, heb => by
    subst h16 hes hmb heb
    have hfl : (byteCells (ff (j + 1))).length = 16 := by rw [byteCells_length, ff_length _ hj]
    have hnn : n.toNat = 16 - (j + 1) := by omega
    have hx : (byteCells (ff (j + 1)))[n.toNat]? = some [.int .u8 0] := by rw [hnn]; exact ff_get j (by omega)
    refine ev_loop' (W_ok 300 _ _ _ _ ?_)
    repeat' (first | refine stpA ?_ | (refine condS ?_ ?_ <;> intro h))
    refine ev_keep [60, 10, 7, 2, 59] [121, 113, 66] ?_
    refine ff_loop113 m hk b hb j _ _ _ _ _ _ _ _ _ (n + 1) (by omega) (by omega) rfl ?_ rfl rfl
    rw [← ff_step j (by omega), ← hnn]; rfl
theorem ff_loop200 (m : PMsg) (hk : 1 ≤ m.kind ∧ m.kind ≤ 5) (b : List UInt8) (hb : b.length ≤ 65516) : ∀ (j : Nat) (T : List (Nat × AV)) (H : Heap) (c g gb mb n16 : Nat) (es eb : List (List AV)) (n : Int) (hj : j ≤ 16) (hn : n = 16 - j) (h16 : n16 = 16) (hes : es = byteCells (ff j)) (hmb : mb = b.length) (heb : eb = byteCells b),
   Ev G ⟨f193x25LH, ⟨(60, .int .i64 n) :: (10, .vs 121 g n16) :: (7, .vs 200 gb mb) :: (2, .ref 66 1 0) :: (59, .int .i64 16) :: T, (121, some (g, .vec 1 es)) :: (200, some (gb, .vec 1 eb)) :: (66, some (1, .cells m.enc)) :: H, c⟩, [.t 4, .t 5], 0⟩ (encOk m.kind.toNat b)
  | 0, T, H, c, g, gb, mb, n16, es, eb, n, hj, hn, h16, hes, hmb, heb => by
    subst h16 hes hmb heb
    have hp := put_gives109 (List.replicate 16 255) (by simp) 2 (19 + b.length) (by omega)
    have hff : ff 0 = List.replicate 16 255 := rfl
    have hk2 : ((UInt8.ofNat m.kind.toNat).toNat : Int) = m.kind := by rw [ofN (by omega)]; omega
    have hfl : (byteCells (ff 0)).length = 16 := by simp [ff]
    have hf0 : (ff 0).length = 16 := rfl
    rw [← hff] at hp
    refine ev_loop' (W_ok 300 _ _ _ _ ?_)
    repeat' (first | refine stpA ?_ | refine kX [] [(121, _, _)] trivial ⟨rfl, pz trivial⟩ (hp) ?_ | (refine condS ?_ ?_ <;> intro h))
    refine ev_finN [(136, _, .vec 1 _)] ⟨⟨rfl, (by simp [Blk.pure, pureLL, pureL, AV.pure]), trivial⟩, rfl, rfl, (by simp), ?_⟩
    unfold encOk
    refine tupN_ren 136 ?_ ?_
    · simp [headB, hf0] <;> omega
    · simp [headB, hff, byteCells] <;> omega
  | j + 1, T, H, c, g, gb, mb, n16, es, eb, n, hj, hn, h16, hes, hmb, heb => by
    subst h16 hes hmb heb
    have hfl : (byteCells (ff (j + 1))).length = 16 := by rw [byteCells_length, ff_length _ hj]
    have hnn : n.toNat = 16 - (j + 1) := by omega
    have hx : (byteCells (ff (j + 1)))[n.toNat]? = some [.int .u8 0] := by rw [hnn]; exact ff_get j (by omega)
    refine ev_loop' (W_ok 300 _ _ _ _ ?_)
    repeat' (first | refine stpA ?_ | (refine condS ?_ ?_ <;> intro h))
    refine ev_keep [60, 10, 7, 2, 59] [121, 200, 66] ?_
    refine ff_loop200 m hk b hb j _ _ _ _ _ _ _ _ _ (n + 1) (by omega) (by omega) rfl ?_ rfl rfl
    rw [← ff_step j (by omega), ← hnn]; rfl
theorem encMR_zero {m : PMsg} {wide : Bool} (h : encE m wide = 0) : encMR m wide = ⟨.tup [.vs 0 0 (msgB m wide).length, .int .i64 0], [(false, .vec 1 (byteCells (msgB m wide)))]⟩ := by unfold encMR; rw [if_pos h]
theorem encMR_ne {m : PMsg} {wide : Bool} {e : Int} (h : encE m wide = e) (he : e ≠ 0) : encMR m wide = ⟨.tup [.con (.slice none 0 0), .int .i64 e], []⟩ := by unfold encMR; rw [h, if_neg he]
theorem encE_check {m : PMsg} {wide : Bool} (h : checkM m ≠ 0) : encE m wide = checkM m := by unfold encE; rw [if_pos h]
theorem encE_bad {m : PMsg} {wide : Bool} (h : checkM m = 0) (hb : badM m wide) : encE m wide = 5 := by unfold encE; rw [if_neg (by simp [h]), if_pos hb]
theorem encE_long {m : PMsg} {wide : Bool} (h : checkM m = 0) (hb : ¬ badM m wide) (hl : 19 + (bodyB m wide).length > 65535) : encE m wide = 4 := by unfold encE; rw [if_neg (by simp [h]), if_neg hb, if_pos hl]
theorem enc_gives193 (m : PMsg) (h : AM m) (ho : m.ok) (hw : m.withdrawn.length < 2 ^ 30) (hr : m.reach.length < 2 ^ 30) (wide : Bool) : Gives G 193 [.agg m.enc, .bool wide] [] (encMR m wide) := by
  have hc := check_gives144 m h.lenO (sizeS_le h.attrs) ⟨ho.withdrawn, ho.reach⟩
  by_cases h0 : checkM m = 0
  · rw [h0] at hc
    obtain ⟨k1, k2, _⟩ := check_parts h0
    have hk : m.kind = 1 ∨ m.kind = 2 ∨ m.kind = 3 ∨ m.kind = 4 ∨ m.kind = 5 := by omega
    rcases hk with hk | hk | hk | hk | hk
    · have ok := open_ok h0 hk
      have h1 := open_gives196 m ok ho.router
      have hl := openB_length ok
      have hb : bodyB m wide = openB m := by unfold bodyB; rw [if_pos hk]
      rw [encMR_zero (zero_encE h0 (fun q => by have := q.1; omega) (by rw [hb]; omega)), msgB, hb]
      have key := ff_loop86 m ⟨k1, k2⟩ (openB m) (by omega) 16
      generalize openB m = b at *
      refine gives_code (F := f193) rfl rfl (W_ok 300 _ _ _ _ ?_)
      repeat' (first | refine stpA ?_ | (refine condS ?_ ?_ <;> intro h))
      refine ev_keep [60, 10, 7, 2, 59] [121, 86, 66] ?_
      exact key _ _ _ _ _ _ _ _ _ 0 (by omega) (by omega) rfl rfl rfl rfl
    · have ok := upd_ok h0 hk
      have h1 := upd_gives197 m ok ho h.attrs hw hr wide
      have hb : bodyB m wide = updB m wide := by unfold bodyB; rw [if_neg (by omega), if_pos hk]
      unfold updR at h1
      by_cases hbd : m.reach ≠ [] ∧ encBad m.attrs wide = true
      · rw [if_pos hbd] at h1
        rw [encMR_ne (encE_bad h0 ⟨hk, hbd⟩) (by decide)]
        refine gives_code (F := f193) rfl rfl (W_ok 300 _ _ _ _ ?_)
        repeat' (first | refine stpA ?_ | (refine condS ?_ ?_ <;> intro h))
        (first | refine fin1 ?_ | refine fin0 ?_); rfl
      · rw [if_neg hbd] at h1
        have hlen : (updB m wide).length = 4 + (packP m.withdrawn).length + (attsB m wide).length + (packP m.reach).length := by unfold updB; simp; omega
        by_cases hl : 19 + (updB m wide).length > 65535
        · rw [encMR_ne (encE_long h0 (fun q => hbd q.2) (by rw [hb]; exact hl)) (by decide)]
          by_cases hl2 : (packP m.withdrawn).length > 65535 ∨ (attsB m wide).length > 65535
          · rw [if_pos hl2] at h1
            refine gives_code (F := f193) rfl rfl (W_ok 300 _ _ _ _ ?_)
            repeat' (first | refine stpA ?_ | (refine condS ?_ ?_ <;> intro h))
            (first | refine fin1 ?_ | refine fin0 ?_); rfl
          · rw [if_neg hl2] at h1
            have l2 := packP_length (l := m.reach) (fun p hp => by have := valid_mul (ho.reach p hp) (ok.reach p hp); omega)
            have hup : (updB m wide).length < 2 ^ 40 := by omega
            clear hlen l2 hl2
            generalize updB m wide = b at *
            refine gives_code (F := f193) rfl rfl (W_ok 300 _ _ _ _ ?_)
            repeat' (first | refine stpA ?_ | (refine condS ?_ ?_ <;> intro h))
            (first | refine fin1 ?_ | refine fin0 ?_); rfl
        · rw [encMR_zero (zero_encE h0 (fun q => hbd q.2) (by rw [hb]; omega)), msgB, hb]
          rw [if_neg (by omega)] at h1
          have key := ff_loop92 m ⟨k1, k2⟩ (updB m wide) (by omega) 16
          clear hlen
          generalize updB m wide = b at *
          refine gives_code (F := f193) rfl rfl (W_ok 300 _ _ _ _ ?_)
          repeat' (first | refine stpA ?_ | (refine condS ?_ ?_ <;> intro h))
          refine ev_keep [60, 10, 7, 2, 59] [121, 92, 66] ?_
          exact key _ _ _ _ _ _ _ _ _ 0 (by omega) (by omega) rfl rfl rfl rfl
    · have ok := note_ok h0 hk
      have hb : bodyB m wide = noteB m := by unfold bodyB; rw [if_neg (by omega), if_neg (by omega), if_pos hk]
      have hl : (noteB m).length = m.data.length + 2 := by simp [noteB]
      have hd := ok.data
      obtain ⟨c1, c2⟩ := ok.code
      obtain ⟨s1, s2⟩ := ok.sub
      have e1 : ((UInt8.ofNat m.code.toNat).toNat : Int) = m.code := by rw [ofN (by omega)]; omega
      have e2 : ((UInt8.ofNat m.sub.toNat).toNat : Int) = m.sub := by rw [ofN (by omega)]; omega
      have hbl : (byteCells m.data).length = m.data.length := by simp
      rw [encMR_zero (zero_encE h0 (fun q => by have := q.1; omega) (by rw [hb]; omega)), msgB, hb]
      have key := ff_loop107 m ⟨k1, k2⟩ (noteB m) (by omega) 16
      refine gives_code (F := f193) rfl rfl (W_ok 300 _ _ _ _ ?_)
      repeat' (first | refine stpA ?_ | (refine condS ?_ ?_ <;> intro h))
      refine ev_keep [60, 10, 7, 2, 59] [121, 107, 66] ?_
      refine key _ _ _ _ _ _ _ _ _ 0 (by omega) (by omega) rfl rfl (by simp [noteB] <;> omega) ?_
      simp only [noteB, byteCells, List.map_cons, e1, e2]; rfl
    · have hb : bodyB m wide = [] := by unfold bodyB; rw [if_neg (by omega), if_neg (by omega), if_neg (by omega), if_neg (by omega)]
      rw [encMR_zero (zero_encE h0 (fun q => by have := q.1; omega) (by rw [hb]; simp)), msgB, hb]
      have key := ff_loop200 m ⟨k1, k2⟩ [] (by simp) 16
      refine gives_code (F := f193) rfl rfl (W_ok 300 _ _ _ _ ?_)
      repeat' (first | refine stpA ?_ | (refine condS ?_ ?_ <;> intro h))
      refine ev_nil 200 1 [(7, .vs 200 _ 0)] [] ⟨LeP.nilV _ _ _, trivial⟩ trivial ?_
      refine ev_keep [60, 10, 7, 2, 59] [121, 200, 66] ?_
      exact key _ _ _ _ _ _ _ _ _ 0 (by omega) (by omega) rfl rfl rfl rfl
    · have hb : bodyB m wide = [0, 1, 0, 1] := by unfold bodyB; rw [if_neg (by omega), if_neg (by omega), if_neg (by omega), if_pos hk]
      rw [encMR_zero (zero_encE h0 (fun q => by have := q.1; omega) (by rw [hb]; simp)), msgB, hb]
      have key := ff_loop113 m ⟨k1, k2⟩ [0, 1, 0, 1] (by simp) 16
      refine gives_code (F := f193) rfl rfl (W_ok 300 _ _ _ _ ?_)
      repeat' (first | refine stpA ?_ | (refine condS ?_ ?_ <;> intro h))
      refine ev_keep [60, 10, 7, 2, 59] [121, 113, 66] ?_
      exact key _ _ _ _ _ _ _ _ _ 0 (by omega) (by omega) rfl rfl rfl rfl
  · rw [encMR_ne (encE_check h0) h0]
    generalize checkM m = k at *
    refine gives_code (F := f193) rfl rfl (W_ok 300 _ _ _ _ ?_)
    repeat' (first | refine stpA ?_ | (refine condS ?_ ?_ <;> intro h))
    (first | refine fin1 ?_ | refine fin0 ?_); rfl
end Go.AM.IR
set_option maxHeartbeats 4000000
set_option maxRecDepth 20000
namespace Go.AM.IR
theorem awake192_gives : Gives G 192 [] [] ⟨.bool true, []⟩ := gives_run 100000 rfl rfl (by kernel_rfl)
end Go.AM.IR
set_option maxHeartbeats 4000000
set_option maxRecDepth 20000
namespace Go.AM.IR
def lzM : AV := .agg [.int .i64 0, .int .i64 0, .int .i64 0, .int .i64 0, .int .u32 0, nilV, nilV, .int .i64 0, nilV, .int .u32 0, .bool false, .int .i64 0, .bool false, .int .i64 0, .bool false, .bool false, .int .i64 0, .int .u32 0, nilV, .bool false, .int .u32 0, nilV, nilV, nilV, .int .i64 0, .int .i64 0, nilV]
theorem sameZ_gives126 (m : PMsg) (hm : LenM m) : Gives G 126 [.agg m.enc, lzM] [] ⟨.bool (decide (m = zeroM)), []⟩ :=
  gives_le rfl (same_gives126 m zeroM hm lenM_zero) ⟨.refl _, LeP.agg (by repeat' (first | exact trivial | exact LeP.refl _ | exact LeP.nil _ | refine LeP.sl ?_ | refine ⟨?_, ?_⟩)), trivial⟩
end Go.AM.IR
set_option maxHeartbeats 4000000
set_option maxRecDepth 20000
namespace Go.AM.IR
end Go.AM.IR
set_option maxHeartbeats 4000000
set_option maxRecDepth 20000
namespace Go.AM.IR
theorem msg_small (m : PMsg) (h : bkL m.enc ≤ 1048576) : m.withdrawn.length < 2 ^ 30 ∧ m.reach.length < 2 ^ 30 ∧ (flatS m.attrs.path).length < 2 ^ 39 := by
  have h3 := len_bk Pfx.enc pfx1 m.withdrawn
  have h4 := len_bk Pfx.enc pfx1 m.reach
  have h2 := bkLL_map_le Seg.enc (fun s => s.as.length) (fun s => by have := seg_bk s; omega) m.attrs.path
  rw [← flat_len] at h2
  simp only [PMsg.enc, bkL, AV.bk] at h
  generalize bkLL (m.caps.map Cap.enc) = z1 at *
  generalize bkLL (m.withdrawn.map Pfx.enc) = z2 at *
  generalize bkLL (m.reach.map Pfx.enc) = z3 at *
  generalize bkLL (byteCells m.data) = z4 at *
  generalize bkLL (m.attrs.path.map Seg.enc) = z5 at *
  generalize bkLL (m.attrs.comms.map encU) = z6 at *
  generalize bkLL (m.attrs.clusters.map encU) = z7 at *
  generalize bkLL (m.attrs.unknown.map TLV.enc) = z8 at *
  exact ⟨by omega, by omega, by omega⟩
theorem encMR_cases0 (m : PMsg) (wide : Bool) : (∃ e, e ≠ 0 ∧ encMR m wide = ⟨.tup [.con (.slice none 0 0), .int .i64 e], []⟩) ∨ (encE m wide = 0 ∧ encMR m wide = ⟨.tup [.vs 0 0 (msgB m wide).length, .int .i64 0], [(false, .vec 1 (byteCells (msgB m wide)))]⟩) := by
  by_cases h : encE m wide = 0
  · exact .inr ⟨h, encMR_zero h⟩
  · exact .inl ⟨_, h, encMR_ne rfl h⟩
end Go.AM.IR
set_option maxHeartbeats 4000000
set_option maxRecDepth 20000
namespace Go.AM.IR
theorem law188_gives (m : PMsg) (h : AM m) (ho : m.ok) (hw : m.withdrawn.length < 2 ^ 30) (hr : m.reach.length < 2 ^ 30) (wide : Bool) (more : List UInt8) (hm : more.length < 2 ^ 40) : Gives G 188 [.agg m.enc, .bool wide, .sl 1 (byteCells more)] [] ⟨.bool true, []⟩ := by
  have l1 := large_gives130 m h
  have aw := awake192_gives
  have hml := byteCells_length more
  have h1 := enc_gives193 m h ho hw hr wide
  generalize largeM m = lm at *
  by_cases hmore : more.length > 1000
  · cases lm
    · refine gives_code (F := f188) rfl rfl (W_ok 300 _ _ _ _ ?_)
      repeat' (first | refine stpA ?_ | (refine condS ?_ ?_ <;> intro h))
      all_goals try ((first | refine fin1 ?_ | refine fin0 ?_); first | rfl | (simp [Bool.cond_eq_ite, *]; done) | (simp [Bool.cond_eq_ite, *]; omega))
    · refine gives_code (F := f188) rfl rfl (W_ok 300 _ _ _ _ ?_)
      repeat' (first | refine stpA ?_ | (refine condS ?_ ?_ <;> intro h))
      all_goals try ((first | refine fin1 ?_ | refine fin0 ?_); first | rfl | (simp [Bool.cond_eq_ite, *]; done) | (simp [Bool.cond_eq_ite, *]; omega))
  cases lm
  rotate_left
  · refine gives_code (F := f188) rfl rfl (W_ok 300 _ _ _ _ ?_)
    repeat' (first | refine stpA ?_ | (refine condS ?_ ?_ <;> intro h))
    all_goals try ((first | refine fin1 ?_ | refine fin0 ?_); first | rfl | (simp [Bool.cond_eq_ite, *]; done) | (simp [Bool.cond_eq_ite, *]; omega))
  rcases encMR_cases0 m wide with ⟨e, e0, he⟩ | ⟨hE, he⟩
  · rw [he] at h1
    refine gives_code (F := f188) rfl rfl (W_ok 300 _ _ _ _ ?_)
    repeat' (first | refine stpA ?_ | (refine condS ?_ ?_ <;> intro h))
    all_goals try ((first | refine fin1 ?_ | refine fin0 ?_); first | rfl | (simp [Bool.cond_eq_ite, *]; done) | (simp [Bool.cond_eq_ite, *]; omega))
  · rw [he] at h1
    have hlen : (msgB m wide).length ≤ 65535 := by have := (encE_zero hE).2.2; rw [msgB_length]; omega
    have hpos : 19 ≤ (msgB m wide).length := by rw [msgB_length]; omega
    have b1 := decM_back hE ho more
    have b2 := decM_cut hE
    generalize msgB m wide = B at *
    have hBl := byteCells_length B
    have d1 := decode194 (B ++ more) (by rw [List.length_append]; omega) wide
    have d2 := decode194 B.dropLast (by rw [List.length_dropLast]; omega) wide
    rw [b1] at d1
    rw [b2] at d2
    rw [show byteCells (B ++ more) = byteCells B ++ byteCells more from by simp [byteCells]] at d1
    have hcut : ((byteCells B).drop 0).take ((((byteCells B).length : Int) - 1).toNat - 0) = byteCells B.dropLast := by
      rw [List.drop_zero, show (((byteCells B).length : Int) - 1).toNat - 0 = B.length - 1 from by omega, byteCells, ← List.map_take, List.dropLast_eq_take]
      rfl
    rw [← hcut] at d2
    unfold decMR at d1 d2
    simp only at d1 d2
    have s1 := same_refl126 m h.lenO.len
    have hz := sameZ_gives126 zeroM lenM_zero
    rw [show decide (zeroM = zeroM) = true from by simp] at hz
    refine gives_code (F := f188) rfl rfl ?_
    refine ev_seq (b := suf 1 f188.body) ?_
    refine W_okd 1 300 _ _ _ _ ?_
    repeat' (first | refine stpA ?_ | (refine condS ?_ ?_ <;> intro h))
    refine ev_seq (b := suf 2 f188.body) ?_
    refine W_okd 1 300 _ _ _ _ ?_
    repeat' (first | refine stpA ?_ | (refine condS ?_ ?_ <;> intro h))
    refine ev_seq (b := suf 3 f188.body) ?_
    refine W_okd 1 300 _ _ _ _ ?_
    repeat' (first | refine stpA ?_ | (refine condS ?_ ?_ <;> intro h))
    refine ev_frzk [(92, _, _)] [7, 8, 2, 1, 3] [67] ⟨rfl, (by first | rfl | (simp [Blk.pure, pureL, pureLL, AV.pure, *]; done) | fail), trivial⟩ ?_; repeat ((conv => whnf); first | refine And.intro (by first | rfl | omega | (simp [pureL, pureLL, AV.pure]; done) | (simp; omega) | (simp [pureL, pureLL, AV.pure, *]; done) | assumption | fail) ?_ | intro T H)
    refine W_ok 300 _ _ _ _ ?_
    repeat' (first | refine stpA ?_ | (refine condS ?_ ?_ <;> intro h))
    refine .stop ?_
    refine ev_frzk [(99, _, _)] [39, 40, 7, 8, 2, 1, 3] [67] ⟨rfl, (by first | rfl | (simp [Blk.pure, pureL, pureLL, AV.pure, *]; done) | fail), trivial⟩ ?_; repeat ((conv => whnf); first | refine And.intro (by first | rfl | omega | (simp [pureL, pureLL, AV.pure]; done) | (simp; omega) | (simp [pureL, pureLL, AV.pure, *]; done) | assumption | fail) ?_ | intro T H)
    refine W_ok 300 _ _ _ _ ?_
    repeat' (first | refine stpA ?_ | (refine condS ?_ ?_ <;> intro h))
    all_goals try ((first | refine fin1 ?_ | refine fin0 ?_); first | rfl | (simp [Bool.cond_eq_ite, *]; done) | (simp [Bool.cond_eq_ite, *]; omega))
theorem law188_all (ass : List (List AV)) (h : ArgsT [tMsg, .bool, .sl (.int .u8)] ass) (hb : bkLL ass ≤ 1048576) : Gives G 188 (argsA [tMsg, .bool, .sl (.int .u8)] ass) [] ⟨.bool true, []⟩ := by
  obtain ⟨x, s1, rfl, h1, h⟩ := argsT_cons h
  obtain ⟨y, s2, rfl, h2, h⟩ := argsT_cons h
  obtain ⟨z, s3, rfl, h3, h⟩ := argsT_cons h
  obtain rfl := argsT_nil h
  obtain ⟨m, rfl, ho⟩ := T_msg h1
  obtain ⟨w, rfl⟩ := h2
  obtain ⟨b, rfl⟩ := T_bytes h3
  have hl := bk_bytes b
  simp only [bkLL] at hb
  have hbb : bkL [.sl 1 (byteCells b)] = AV.bk (.sl 1 (byteCells b)) + 0 := rfl
  simp only [bkL, AV.bk] at hb
  generalize hq : bkL m.enc = q at hb
  obtain ⟨q1, q2, q3⟩ := msg_small m (by omega)
  exact law188_gives m (am_of m (by omega)) ho q1 q2 w b (by omega)
end Go.AM.IR
