/- What the functions of this program give, on the abstract machine. -/
import Derived.Test.YtcieamgbfameoaaGreatDoorDataD
import Derived.Test.YtcieamgbfameoaaGreatDoorDataC
import Derived.Test.YtcieamgbfameoaaGreatDoorMachineB
import Derived.Test.YtcieamgbfameoaaGreatDoorDataA
set_option linter.unusedVariables false
set_option linter.unusedSimpArgs false
set_option maxHeartbeats 4000000
set_option maxRecDepth 20000
namespace Go.AM.IR
theorem NY (b : List UInt8) (wide : Bool) (hb : b.length < 2 ^ 40) (h2 : 2 ≤ b.length) (hs : b.length < 4 + rd (b.take 2)) : ah G 201 [.sl 1 (byteCells b), .bool wide] [] ⟨.tup [.agg ap.enc, .agg (bc 3 1 []).enc, .int .i64 2], []⟩ := by
 have l1 : (b.drop 2).length = b.length - 2 := List.length_drop
 have hr : rd (b.take 2) < 256 ^ 2 := cn (by simp; omega)
 have h1 : ah G 206 [.ref 0 0 0, .int .i64 2] [.cells [.sl 1 (byteCells b)]] ⟨.int .i64 (rd (b.take 2) : Nat), [(true, .cells [.sl 1 (byteCells (b.drop 2))])]⟩ := bl b hb 2 (by omega) h2
 have h6 : ah G 198 [.int .i64 3, .int .i64 1, .con (.slice none 0 0)] [] ⟨.agg (bc 3 1 []).enc, []⟩ := bP 3 1
 have h7 : ah G 207 [.ref 0 0 0, .int .i64 (((rd (b.take 2) : Nat) : Int) + 2)] [.cells [.sl 1 (byteCells (b.drop 2))]] ⟨.bool false, [(true, .cells [.sl 1 (byteCells (b.drop 2))])]⟩ := by
  have := m8 (b.drop 2) (by omega) (((rd (b.take 2) : Nat) : Int) + 2)
  rwa [decide_eq_false (by omega)] at this
 refine ae (F := dh) rfl rfl (az 300 _ _ _ _ ?_)
 repeat' (first | refine ab ?_ | refine kX [(82, _, _)] [] ⟨rfl, trivial⟩ trivial (h1) ?_ | refine kX [(82, _, _)] [] ⟨rfl, trivial⟩ trivial (h7) ?_ | (refine aa ?_ ?_ <;> intro h))
 refine bm [] [(68, some (_, .cells ap.enc))] trivial ⟨⟨rfl, leA⟩, trivial⟩ ?_
 refine ax ?_
 repeat ((conv => whnf); refine frB ?_)
 rfl
end Go.AM.IR
namespace Go.AM.IR
theorem NX (b : List UInt8) (wide : Bool) (hb : b.length < 2 ^ 40) (n : Nat) (hn : n = rd (b.take 2)) (hs : 4 + n ≤ b.length) (n2 : Nat) (hn2 : n2 = rd (((b.drop 2).drop n).take 2)) (hs2 : ((b.drop 2).drop (n + 2)).length < n2) : ah G 201 [.sl 1 (byteCells b), .bool wide] [] ⟨.tup [.agg ap.enc, .agg (bc 3 1 []).enc, .int .i64 2], []⟩ := by
 have l1 : (b.drop 2).length = b.length - 2 := List.length_drop
 have l2 : ((b.drop 2).drop n).length = b.length - 2 - n := by rw [List.length_drop, l1]
 have l3 : ((b.drop 2).drop (n + 2)).length = b.length - 2 - (n + 2) := by rw [List.length_drop, l1]
 have hr : n < 256 ^ 2 := by rw [hn]; exact cn (by simp; omega)
 have hr2 : n2 < 256 ^ 2 := by rw [hn2]; exact cn (by simp; omega)
 have h1 : ah G 206 [.ref 0 0 0, .int .i64 2] [.cells [.sl 1 (byteCells b)]] ⟨.int .i64 (n : Int), [(true, .cells [.sl 1 (byteCells (b.drop 2))])]⟩ := by rw [hn]; exact bl b hb 2 (by omega) (by omega)
 have h6 : ah G 198 [.int .i64 3, .int .i64 1, .con (.slice none 0 0)] [] ⟨.agg (bc 3 1 []).enc, []⟩ := bP 3 1
 have h7 : ah G 207 [.ref 0 0 0, .int .i64 ((n : Int) + 2)] [.cells [.sl 1 (byteCells (b.drop 2))]] ⟨.bool true, [(true, .cells [.sl 1 (byteCells (b.drop 2))])]⟩ := by
  have := m8 (b.drop 2) (by omega) ((n : Int) + 2)
  rwa [decide_eq_true (by omega)] at this
 have h8 : ah G 209 [.ref 0 0 0, .int .i64 (n : Int)] [.cells [.sl 1 (byteCells (b.drop 2))]] ⟨.vs 1 0 (byteCells ((b.drop 2).take n)).length, [(true, .cells [.sl 1 (byteCells ((b.drop 2).drop n))]), (false, .vec 1 (byteCells ((b.drop 2).take n)))]⟩ := by
  have := sc (b.drop 2) (by omega) n (by omega)
  rwa [show (byteCells ((b.drop 2).take n)).length = n from by rw [au, List.length_take]; omega]
 have h9 : ah G 206 [.ref 0 0 0, .int .i64 2] [.cells [.sl 1 (byteCells ((b.drop 2).drop n))]] ⟨.int .i64 (n2 : Int), [(true, .cells [.sl 1 (byteCells ((b.drop 2).drop (n + 2)))])]⟩ := by
  have := bl ((b.drop 2).drop n) (by omega) 2 (by omega) (by omega)
  rw [← hn2, List.drop_drop (i := 2)] at this
  exact this
 have hc : ah G 207 [.ref 0 0 0, .int .i64 (n2 : Int)] [.cells [.sl 1 (byteCells ((b.drop 2).drop (n + 2)))]] ⟨.bool false, [(true, .cells [.sl 1 (byteCells ((b.drop 2).drop (n + 2)))])]⟩ := by
  have := m8 ((b.drop 2).drop (n + 2)) (by omega) (n2 : Int)
  rwa [decide_eq_false (by omega)] at this
 clear hn hn2
 refine ae (F := dh) rfl rfl (az 300 _ _ _ _ ?_)
 repeat' (first | refine ab ?_ | refine kX [(82, _, _)] [] ⟨rfl, trivial⟩ trivial (h1) ?_ | refine kX [(82, _, _)] [] ⟨rfl, trivial⟩ trivial (h7) ?_ | refine kX [(82, _, _)] [] ⟨rfl, trivial⟩ trivial (h8) ?_ | refine kX [(82, _, _)] [] ⟨rfl, trivial⟩ trivial (h9) ?_ | refine kX [(82, _, _)] [] ⟨rfl, trivial⟩ trivial (hc) ?_ | (refine aa ?_ ?_ <;> intro h))
 refine bm [] [(68, some (_, .cells ap.enc))] trivial ⟨⟨rfl, leA⟩, trivial⟩ ?_
 refine ax ?_
 repeat ((conv => whnf); refine frB ?_)
 rfl
end Go.AM.IR
namespace Go.AM.IR
theorem NW (b : List UInt8) (wide : Bool) (hb : b.length < 2 ^ 40) (n : Nat) (hn : n = rd (b.take 2)) (hs : 4 + n ≤ b.length) (n2 : Nat) (hn2 : n2 = rd (((b.drop 2).drop n).take 2)) (hs2 : n2 ≤ ((b.drop 2).drop (n + 2)).length) (t : Ret) (K : ∀ (g1 g2 g3 g4 : Nat) (T : List (Nat × AV)) (H : aq) (c : Nat), Ev G ⟨[.code (suf 9 dh.body)], ⟨(9, .ref 97 g1 0) :: (11, .ref 113 g2 0) :: (10, .sl 1 (byteCells (((b.drop 2).drop (n + 2)).take n2))) :: (1, .bool wide) :: (4, .ref 68 g3 0) :: (5, .ref 69 g4 0) :: T, (97, some (g1, .cells [.sl 1 (byteCells ((b.drop 2).take n)), .con (.slice none 0 0)])) :: (113, some (g2, .cells [.sl 1 (byteCells (((b.drop 2).drop (n + 2)).drop n2)), .con (.slice none 0 0)])) :: (68, some (g3, .cells ap.enc)) :: (69, some (g4, .cells ap.enc)) :: H, c⟩, [.cell 4 (some 27), .cell 5 (some 27), .t 6], 0⟩ t) : ah G 201 [.sl 1 (byteCells b), .bool wide] [] t := by
 have l1 : (b.drop 2).length = b.length - 2 := List.length_drop
 have l2 : ((b.drop 2).drop n).length = b.length - 2 - n := by rw [List.length_drop, l1]
 have l3 : ((b.drop 2).drop (n + 2)).length = b.length - 2 - (n + 2) := by rw [List.length_drop, l1]
 have hr : n < 256 ^ 2 := by rw [hn]; exact cn (by simp; omega)
 have hr2 : n2 < 256 ^ 2 := by rw [hn2]; exact cn (by simp; omega)
 have h1 : ah G 206 [.ref 0 0 0, .int .i64 2] [.cells [.sl 1 (byteCells b)]] ⟨.int .i64 (n : Int), [(true, .cells [.sl 1 (byteCells (b.drop 2))])]⟩ := by rw [hn]; exact bl b hb 2 (by omega) (by omega)
 have h7 : ah G 207 [.ref 0 0 0, .int .i64 ((n : Int) + 2)] [.cells [.sl 1 (byteCells (b.drop 2))]] ⟨.bool true, [(true, .cells [.sl 1 (byteCells (b.drop 2))])]⟩ := by
  have := m8 (b.drop 2) (by omega) ((n : Int) + 2)
  rwa [decide_eq_true (by omega)] at this
 have h8 : ah G 209 [.ref 0 0 0, .int .i64 (n : Int)] [.cells [.sl 1 (byteCells (b.drop 2))]] ⟨.vs 1 0 (byteCells ((b.drop 2).take n)).length, [(true, .cells [.sl 1 (byteCells ((b.drop 2).drop n))]), (false, .vec 1 (byteCells ((b.drop 2).take n)))]⟩ := by
  have := sc (b.drop 2) (by omega) n (by omega)
  rwa [show (byteCells ((b.drop 2).take n)).length = n from by rw [au, List.length_take]; omega]
 have h9 : ah G 206 [.ref 0 0 0, .int .i64 2] [.cells [.sl 1 (byteCells ((b.drop 2).drop n))]] ⟨.int .i64 (n2 : Int), [(true, .cells [.sl 1 (byteCells ((b.drop 2).drop (n + 2)))])]⟩ := by
  have := bl ((b.drop 2).drop n) (by omega) 2 (by omega) (by omega)
  rw [← hn2, List.drop_drop (i := 2)] at this
  exact this
 have hc : ah G 207 [.ref 0 0 0, .int .i64 (n2 : Int)] [.cells [.sl 1 (byteCells ((b.drop 2).drop (n + 2)))]] ⟨.bool true, [(true, .cells [.sl 1 (byteCells ((b.drop 2).drop (n + 2)))])]⟩ := by
  have := m8 ((b.drop 2).drop (n + 2)) (by omega) (n2 : Int)
  rwa [decide_eq_true (by omega)] at this
 have hd : ah G 209 [.ref 0 0 0, .int .i64 (n2 : Int)] [.cells [.sl 1 (byteCells ((b.drop 2).drop (n + 2)))]] ⟨.vs 1 0 (byteCells (((b.drop 2).drop (n + 2)).take n2)).length, [(true, .cells [.sl 1 (byteCells (((b.drop 2).drop (n + 2)).drop n2))]), (false, .vec 1 (byteCells (((b.drop 2).drop (n + 2)).take n2)))]⟩ := by
  have := sc ((b.drop 2).drop (n + 2)) (by omega) n2 (by omega)
  rwa [show (byteCells (((b.drop 2).drop (n + 2)).take n2)).length = n2 from by rw [au, List.length_take]; omega]
 clear hn hn2
 refine ae (F := dh) rfl rfl ?_
 refine aG (b := suf 1 dh.body) ?_
 refine wd1 ?_
 repeat' (first | refine ab ?_ | (refine aa ?_ ?_ <;> intro h))
 refine aG (b := suf 2 dh.body) ?_
 refine wd1 ?_
 repeat' (first | refine ab ?_ | (refine aa ?_ ?_ <;> intro h))
 refine aG (b := suf 3 dh.body) ?_
 refine wd1 ?_
 repeat' (first | refine ab ?_ | refine kX [(82, _, _)] [] ⟨rfl, trivial⟩ trivial (h1) ?_ | (refine aa ?_ ?_ <;> intro h))
 refine aG (b := suf 4 dh.body) ?_
 refine wd1 ?_
 repeat' (first | refine ab ?_ | refine kX [(82, _, _)] [] ⟨rfl, trivial⟩ trivial (h7) ?_ | (refine aa ?_ ?_ <;> intro h))
 refine aG (b := suf 5 dh.body) ?_
 refine wd1 ?_
 repeat' (first | refine ab ?_ | refine kX [(82, _, _)] [] ⟨rfl, trivial⟩ trivial (h8) ?_ | (refine aa ?_ ?_ <;> intro h))
 refine aG (b := suf 6 dh.body) ?_
 refine wd1 ?_
 repeat' (first | refine ab ?_ | refine kX [(82, _, _)] [] ⟨rfl, trivial⟩ trivial (h9) ?_ | (refine aa ?_ ?_ <;> intro h))
 refine aG (b := suf 7 dh.body) ?_
 refine wd1 ?_
 repeat' (first | refine ab ?_ | refine kX [(82, _, _)] [] ⟨rfl, trivial⟩ trivial (hc) ?_ | (refine aa ?_ ?_ <;> intro h))
 refine aG (b := suf 8 dh.body) ?_
 refine wd1 ?_
 repeat' (first | refine ab ?_ | refine kX [(82, _, _)] [] ⟨rfl, trivial⟩ trivial (hd) ?_ | (refine aa ?_ ?_ <;> intro h))
 refine aG (b := suf 9 dh.body) ?_
 refine wd1 ?_
 repeat' (first | refine ab ?_ | (refine aa ?_ ?_ <;> intro h))
 refine d8 [(94, _, _), (108, _, _)] [9, 11, 10, 1, 4, 5] [97, 113, 68, 69] ⟨rfl, frP, rfl, frP, trivial⟩ ?_; repeat ((conv => whnf); first | refine frA ?_ | intro T H)
 refine bm [] [(68, some (_, .cells ap.enc)), (69, some (_, .cells ap.enc))] trivial ⟨⟨rfl, leA⟩, ⟨rfl, .refl _, .refl _, .refl _, .refl _, .refl _, LeP.nil 2, LeP.nil 2, .refl _, LeP.nil 2, .refl _, .refl _, .refl _, .refl _, .refl _, .refl _, .refl _, .refl _, .refl _, LeP.nil 1, .refl _, .refl _, LeP.nil 1, LeP.nil 2, LeP.nil 2, .refl _, .refl _, LeP.nil 1, trivial⟩, trivial⟩ ?_
 refine ag [9, 11, 10, 1, 4, 5] [97, 113, 68, 69] ?_
 exact K _ _ _ _ _ _ _
end Go.AM.IR
namespace Go.AM.IR
theorem Tw (a p q : List UInt8) (wide : Bool) (g1 g2 g3 g4 : Nat) (T : List (Nat × AV)) (H : aq) (c : Nat) (rp : List UInt8) (lp : List Pfx) (h1 : ah G 210 [.ref 0 0 0] [.cells [.sl 1 (byteCells p), .con (.slice none 0 0)]] ⟨.bool false, [(true, .cells [.sl 1 (byteCells rp), .vs 1 0 lp.length]), (false, .vec 2 (lp.map Pfx.enc))]⟩) : Ev G ⟨[.code (suf 9 dh.body)], ⟨(9, .ref 97 g1 0) :: (11, .ref 113 g2 0) :: (10, .sl 1 (byteCells a)) :: (1, .bool wide) :: (4, .ref 68 g3 0) :: (5, .ref 69 g4 0) :: T, (97, some (g1, .cells [.sl 1 (byteCells p), .con (.slice none 0 0)])) :: (113, some (g2, .cells [.sl 1 (byteCells q), .con (.slice none 0 0)])) :: (68, some (g3, .cells ap.enc)) :: (69, some (g4, .cells ap.enc)) :: H, c⟩, [.cell 4 (some 27), .cell 5 (some 27), .t 6], 0⟩ ⟨.tup [.agg ap.enc, .agg (bc 3 10 []).enc, .int .i64 2], []⟩ := by
 have h6 : ah G 198 [.int .i64 3, .int .i64 10, .con (.slice none 0 0)] [] ⟨.agg (bc 3 10 []).enc, []⟩ := bP 3 10
 refine wk3 ?_
 repeat' (first | refine ab ?_ | refine kX [(97, _, _)] [] ⟨rfl, trivial⟩ trivial (h1) ?_ | (refine aa ?_ ?_ <;> intro h))
 refine bm [] [(68, some (_, .cells ap.enc))] trivial ⟨⟨rfl, leA⟩, trivial⟩ ?_
 refine ax ?_
 repeat ((conv => whnf); refine frB ?_)
 rfl
theorem Tv (a p q : List UInt8) (wide : Bool) (g1 g2 g3 g4 : Nat) (T : List (Nat × AV)) (H : aq) (c : Nat) (rp rq : List UInt8) (lp lq : List Pfx) (h1 : ah G 210 [.ref 0 0 0] [.cells [.sl 1 (byteCells p), .con (.slice none 0 0)]] ⟨.bool true, [(true, .cells [.sl 1 (byteCells rp), .vs 1 0 lp.length]), (false, .vec 2 (lp.map Pfx.enc))]⟩) (h2 : ah G 210 [.ref 0 0 0] [.cells [.sl 1 (byteCells q), .con (.slice none 0 0)]] ⟨.bool false, [(true, .cells [.sl 1 (byteCells rq), .vs 1 0 lq.length]), (false, .vec 2 (lq.map Pfx.enc))]⟩) : Ev G ⟨[.code (suf 9 dh.body)], ⟨(9, .ref 97 g1 0) :: (11, .ref 113 g2 0) :: (10, .sl 1 (byteCells a)) :: (1, .bool wide) :: (4, .ref 68 g3 0) :: (5, .ref 69 g4 0) :: T, (97, some (g1, .cells [.sl 1 (byteCells p), .con (.slice none 0 0)])) :: (113, some (g2, .cells [.sl 1 (byteCells q), .con (.slice none 0 0)])) :: (68, some (g3, .cells ap.enc)) :: (69, some (g4, .cells ap.enc)) :: H, c⟩, [.cell 4 (some 27), .cell 5 (some 27), .t 6], 0⟩ ⟨.tup [.agg ap.enc, .agg (bc 3 10 []).enc, .int .i64 2], []⟩ := by
 have h6 : ah G 198 [.int .i64 3, .int .i64 10, .con (.slice none 0 0)] [] ⟨.agg (bc 3 10 []).enc, []⟩ := bP 3 10
 refine wk3 ?_
 repeat' (first | refine ab ?_ | refine kX [(97, _, _)] [] ⟨rfl, trivial⟩ trivial (h1) ?_ | refine kX [(113, _, _)] [] ⟨rfl, trivial⟩ trivial (h2) ?_ | (refine aa ?_ ?_ <;> intro h))
 refine bm [] [(68, some (_, .cells ap.enc))] trivial ⟨⟨rfl, leA⟩, trivial⟩ ?_
 refine ax ?_
 repeat ((conv => whnf); refine frB ?_)
 rfl
theorem ZC (a p q : List UInt8) (wide : Bool) (g1 g2 g3 g4 : Nat) (T : List (Nat × AV)) (H : aq) (c : Nat) (rp rq : List UInt8) (lp lq : List Pfx) (h1 : ah G 210 [.ref 0 0 0] [.cells [.sl 1 (byteCells p), .con (.slice none 0 0)]] ⟨.bool true, [(true, .cells [.sl 1 (byteCells rp), .vs 1 0 lp.length]), (false, .vec 2 (lp.map Pfx.enc))]⟩) (h2 : ah G 210 [.ref 0 0 0] [.cells [.sl 1 (byteCells q), .con (.slice none 0 0)]] ⟨.bool true, [(true, .cells [.sl 1 (byteCells rq), .vs 1 0 lq.length]), (false, .vec 2 (lq.map Pfx.enc))]⟩) (t : Ret)
  (K : ∀ (g1 g3 g4 : Nat) (T : List (Nat × AV)) (H : aq) (c : Nat), Ev G ⟨[.code (suf 11 dh.body)], ⟨(12, .ref 76 g1 0) :: (10, .sl 1 (byteCells a)) :: (1, .bool wide) :: (4, .ref 68 g3 0) :: (5, .ref 69 g4 0) :: T, (76, some (g1, .cells (bb lp lq zeroA).enc)) :: (68, some (g3, .cells ap.enc)) :: (69, some (g4, .cells ap.enc)) :: H, c⟩, [.cell 4 (some 27), .cell 5 (some 27), .t 6], 0⟩ t) : Ev G ⟨[.code (suf 9 dh.body)], ⟨(9, .ref 97 g1 0) :: (11, .ref 113 g2 0) :: (10, .sl 1 (byteCells a)) :: (1, .bool wide) :: (4, .ref 68 g3 0) :: (5, .ref 69 g4 0) :: T, (97, some (g1, .cells [.sl 1 (byteCells p), .con (.slice none 0 0)])) :: (113, some (g2, .cells [.sl 1 (byteCells q), .con (.slice none 0 0)])) :: (68, some (g3, .cells ap.enc)) :: (69, some (g4, .cells ap.enc)) :: H, c⟩, [.cell 4 (some 27), .cell 5 (some 27), .t 6], 0⟩ t := by
 refine aG (b := suf 10 dh.body) ?_
 refine wd1 ?_
 repeat' (first | refine ab ?_ | refine kX [(97, _, _)] [] ⟨rfl, trivial⟩ trivial (h1) ?_ | refine kX [(113, _, _)] [] ⟨rfl, trivial⟩ trivial (h2) ?_ | (refine aa ?_ ?_ <;> intro h))
 refine d8 [(115, _, _), (119, _, _)] [9, 11, 10, 1, 4, 5] [97, 113, 68, 69] ⟨rfl, frP, rfl, frP, trivial⟩ ?_; repeat ((conv => whnf); first | refine frA ?_ | intro T H)
 refine aG (b := suf 11 dh.body) ?_
 refine wd1 ?_
 repeat' (first | refine ab ?_ | (refine aa ?_ ?_ <;> intro h))
 refine bm [] [(76, some (_, .cells (bb lp lq zeroA).enc))] trivial ⟨⟨rfl, leA⟩, trivial⟩ ?_
 refine ag [12, 10, 1, 4, 5] [76, 68, 69] ?_
 exact K _ _ _ _ _ _
theorem rZ (a : List UInt8) (wide : Bool) (m : PMsg) (g1 g3 g4 : Nat) (T : List (Nat × AV)) (H : aq) (c : Nat) (hc : ah G 144 [.agg m.enc] [] ⟨.int .i64 (bh m), []⟩) : Ev G ⟨[.code (suf 13 dh.body)], ⟨(12, .ref 76 g1 0) :: (10, .sl 1 (byteCells a)) :: (1, .bool wide) :: (4, .ref 68 g3 0) :: (5, .ref 69 g4 0) :: T, (76, some (g1, .cells m.enc)) :: (68, some (g3, .cells ap.enc)) :: (69, some (g4, .cells ap.enc)) :: H, c⟩, [.cell 4 (some 27), .cell 5 (some 27), .t 6], 0⟩ (nu (qg m)) := by
 unfold qg
 generalize bh m = e at *
 by_cases h0 : e = 0
 ·rw [if_pos h0]
  refine wk3 ?_
  repeat' (first | refine ab ?_ | (refine aa ?_ ?_ <;> intro h))
  refine bm [] [(69, some (_, .cells ap.enc))] trivial ⟨⟨rfl, leA⟩, trivial⟩ ?_
  refine ax ?_
  repeat ((conv => whnf); refine frB ?_)
  rfl
 ·rw [if_neg h0]
  have h6 : ah G 198 [.int .i64 3, .int .i64 10, .con (.slice none 0 0)] [] ⟨.agg (bc 3 10 []).enc, []⟩ := bP 3 10
  refine wk3 ?_
  repeat' (first | refine ab ?_ | (refine aa ?_ ?_ <;> intro h))
  refine bm [] [(68, some (_, .cells ap.enc))] trivial ⟨⟨rfl, leA⟩, trivial⟩ ?_
  refine ax ?_
  repeat ((conv => whnf); refine frB ?_)
  rfl
theorem TF (w : List Pfx) (wide : Bool) (g1 g3 g4 : Nat) (T : List (Nat × AV)) (H : aq) (c : Nat) (hc : ah G 144 [.agg (bb w [] zeroA).enc] [] ⟨.int .i64 (bh (bb w [] zeroA)), []⟩) : Ev G ⟨[.code (suf 11 dh.body)], ⟨(12, .ref 76 g1 0) :: (10, .sl 1 (byteCells [])) :: (1, .bool wide) :: (4, .ref 68 g3 0) :: (5, .ref 69 g4 0) :: T, (76, some (g1, .cells (bb w [] zeroA).enc)) :: (68, some (g3, .cells ap.enc)) :: (69, some (g4, .cells ap.enc)) :: H, c⟩, [.cell 4 (some 27), .cell 5 (some 27), .t 6], 0⟩ (nu (qg (bb w [] zeroA))) := by
 refine aG (b := suf 12 dh.body) ?_
 refine wd1 ?_
 repeat' (first | refine ab ?_ | (refine aa ?_ ?_ <;> intro h))
 refine aG (b := suf 13 dh.body) ?_
 refine wd1 ?_
 repeat' (first | refine ab ?_ | (refine aa ?_ ?_ <;> intro h))
 refine ag [12, 10, 1, 4, 5] [76, 68, 69] ?_
 exact rZ [] wide _ _ _ _ _ _ _ hc
theorem TD (a : List UInt8) (w x : List Pfx) (ha : a.length < 2 ^ 40) (hx : x.length < 2 ^ 40) (hne : 0 < a.length ∨ 0 < x.length) (wide : Bool) (e : Int) (y : Attrs) (hd : ah G 69 [.sl 1 (byteCells a), .bool wide] [] ⟨.tup [.agg y.enc, .int .i64 e], []⟩) (g1 g3 g4 : Nat) (T : List (Nat × AV)) (H : aq) (c : Nat) (he : e = 6) : Ev G ⟨[.code (suf 11 dh.body)], ⟨(12, .ref 76 g1 0) :: (10, .sl 1 (byteCells a)) :: (1, .bool wide) :: (4, .ref 68 g3 0) :: (5, .ref 69 g4 0) :: T, (76, some (g1, .cells (bb w x zeroA).enc)) :: (68, some (g3, .cells ap.enc)) :: (69, some (g4, .cells ap.enc)) :: H, c⟩, [.cell 4 (some 27), .cell 5 (some 27), .t 6], 0⟩ ⟨.tup [.agg ap.enc, .agg (bc 3 3 []).enc, .int .i64 6], []⟩ := by
 subst he
 have h6 : ah G 198 [.int .i64 3, .int .i64 3, .con (.slice none 0 0)] [] ⟨.agg (bc 3 3 []).enc, []⟩ := bP 3 3
 have hal := au a
 have hxl : (x.map Pfx.enc).length = x.length := by simp
 have hxl0 : (List.map Pfx.enc (bb w x zeroA).reach).length = x.length := by simp [bb]
 have hxl1 : (List.map Pfx.enc (bb w x y).reach).length = x.length := by simp [bb]
 by_cases hp : 0 < a.length
 ·refine wk3 ?_
  repeat' (first | refine ab ?_ | (refine aa ?_ ?_ <;> intro h))
  refine bm [] [(68, some (_, .cells ap.enc))] trivial ⟨⟨rfl, leA⟩, trivial⟩ ?_
  refine ax ?_
  repeat ((conv => whnf); refine frB ?_)
  rfl
 ·have h0 : 0 < x.length := by omega
  refine wk3 ?_
  repeat' (first | refine ab ?_ | (refine aa ?_ ?_ <;> intro h))
  refine bm [] [(68, some (_, .cells ap.enc))] trivial ⟨⟨rfl, leA⟩, trivial⟩ ?_
  refine ax ?_
  repeat ((conv => whnf); refine frB ?_)
  rfl
theorem TE (a : List UInt8) (w x : List Pfx) (ha : a.length < 2 ^ 40) (hx : x.length < 2 ^ 40) (hne : 0 < a.length ∨ 0 < x.length) (wide : Bool) (e : Int) (y : Attrs) (hd : ah G 69 [.sl 1 (byteCells a), .bool wide] [] ⟨.tup [.agg y.enc, .int .i64 e], []⟩) (g1 g3 g4 : Nat) (T : List (Nat × AV)) (H : aq) (c : Nat) (he : ¬ e = 6) (he0 : ¬ e = 0) : Ev G ⟨[.code (suf 11 dh.body)], ⟨(12, .ref 76 g1 0) :: (10, .sl 1 (byteCells a)) :: (1, .bool wide) :: (4, .ref 68 g3 0) :: (5, .ref 69 g4 0) :: T, (76, some (g1, .cells (bb w x zeroA).enc)) :: (68, some (g3, .cells ap.enc)) :: (69, some (g4, .cells ap.enc)) :: H, c⟩, [.cell 4 (some 27), .cell 5 (some 27), .t 6], 0⟩ ⟨.tup [.agg ap.enc, .agg (bc 3 1 []).enc, .int .i64 e], []⟩ := by
 have h6 : ah G 198 [.int .i64 3, .int .i64 1, .con (.slice none 0 0)] [] ⟨.agg (bc 3 1 []).enc, []⟩ := bP 3 1
 have hal := au a
 have hxl : (x.map Pfx.enc).length = x.length := by simp
 have hxl0 : (List.map Pfx.enc (bb w x zeroA).reach).length = x.length := by simp [bb]
 have hxl1 : (List.map Pfx.enc (bb w x y).reach).length = x.length := by simp [bb]
 by_cases hp : 0 < a.length
 ·refine wk3 ?_
  repeat' (first | refine ab ?_ | (refine aa ?_ ?_ <;> intro h))
  refine bm [] [(68, some (_, .cells ap.enc))] trivial ⟨⟨rfl, leA⟩, trivial⟩ ?_
  refine ax ?_
  repeat ((conv => whnf); refine frB ?_)
  rfl
 ·have h0 : 0 < x.length := by omega
  refine wk3 ?_
  repeat' (first | refine ab ?_ | (refine aa ?_ ?_ <;> intro h))
  refine bm [] [(68, some (_, .cells ap.enc))] trivial ⟨⟨rfl, leA⟩, trivial⟩ ?_
  refine ax ?_
  repeat ((conv => whnf); refine frB ?_)
  rfl
theorem TC (a : List UInt8) (w x : List Pfx) (ha : a.length < 2 ^ 40) (hx : x.length < 2 ^ 40) (hne : 0 < a.length ∨ 0 < x.length) (wide : Bool) (e : Int) (y : Attrs) (hd : ah G 69 [.sl 1 (byteCells a), .bool wide] [] ⟨.tup [.agg y.enc, .int .i64 e], []⟩) (g1 g3 g4 : Nat) (T : List (Nat × AV)) (H : aq) (c : Nat) (he : e = 0) (t : Ret) (K : ∀ (g1 g3 g4 : Nat) (T : List (Nat × AV)) (H : aq) (c : Nat), Ev G ⟨[.code (suf 12 dh.body)], ⟨(12, .ref 76 g1 0) :: (10, .sl 1 (byteCells a)) :: (1, .bool wide) :: (4, .ref 68 g3 0) :: (5, .ref 69 g4 0) :: T, (76, some (g1, .cells (bb w x y).enc)) :: (68, some (g3, .cells ap.enc)) :: (69, some (g4, .cells ap.enc)) :: H, c⟩, [.cell 4 (some 27), .cell 5 (some 27), .t 6], 0⟩ t) : Ev G ⟨[.code (suf 11 dh.body)], ⟨(12, .ref 76 g1 0) :: (10, .sl 1 (byteCells a)) :: (1, .bool wide) :: (4, .ref 68 g3 0) :: (5, .ref 69 g4 0) :: T, (76, some (g1, .cells (bb w x zeroA).enc)) :: (68, some (g3, .cells ap.enc)) :: (69, some (g4, .cells ap.enc)) :: H, c⟩, [.cell 4 (some 27), .cell 5 (some 27), .t 6], 0⟩ t := by
 subst he
 have hal := au a
 have hxl : (x.map Pfx.enc).length = x.length := by simp
 have hxl0 : (List.map Pfx.enc (bb w x zeroA).reach).length = x.length := by simp [bb]
 have hxl1 : (List.map Pfx.enc (bb w x y).reach).length = x.length := by simp [bb]
 by_cases hp : 0 < a.length
 ·refine aG (b := suf 12 dh.body) ?_
  refine wd1 ?_
  repeat' (first | refine ab ?_ | (refine aa ?_ ?_ <;> intro h))
  refine ag [12, 10, 1, 4, 5] [76, 68, 69] ?_
  exact K _ _ _ _ _ _
 ·have h0 : 0 < x.length := by omega
  refine aG (b := suf 12 dh.body) ?_
  refine wd1 ?_
  repeat' (first | refine ab ?_ | (refine aa ?_ ?_ <;> intro h))
  refine ag [12, 10, 1, 4, 5] [76, 68, 69] ?_
  exact K _ _ _ _ _ _
theorem TA (a : List UInt8) (ha : a.length < 2 ^ 40) (hp : 0 < a.length) (wide : Bool) (w : List Pfx) (y : Attrs) (g1 g3 g4 : Nat) (T : List (Nat × AV)) (H : aq) (c : Nat) : Ev G ⟨[.code (suf 12 dh.body)], ⟨(12, .ref 76 g1 0) :: (10, .sl 1 (byteCells a)) :: (1, .bool wide) :: (4, .ref 68 g3 0) :: (5, .ref 69 g4 0) :: T, (76, some (g1, .cells (bb w [] y).enc)) :: (68, some (g3, .cells ap.enc)) :: (69, some (g4, .cells ap.enc)) :: H, c⟩, [.cell 4 (some 27), .cell 5 (some 27), .t 6], 0⟩ ⟨.tup [.agg ap.enc, .agg (bc 3 1 []).enc, .int .i64 2], []⟩ := by
 have h6 : ah G 198 [.int .i64 3, .int .i64 1, .con (.slice none 0 0)] [] ⟨.agg (bc 3 1 []).enc, []⟩ := bP 3 1
 have hal := au a
 refine wk3 ?_
 repeat' (first | refine ab ?_ | (refine aa ?_ ?_ <;> intro h))
 refine bm [] [(68, some (_, .cells ap.enc))] trivial ⟨⟨rfl, leA⟩, trivial⟩ ?_
 refine ax ?_
 repeat ((conv => whnf); refine frB ?_)
 rfl
theorem Tz (a : List UInt8) (ha : a.length < 2 ^ 40) (wide : Bool) (w x : List Pfx) (hx : x.length < 2 ^ 40) (hp : 0 < x.length) (y : Attrs) (hc : ah G 144 [.agg (bb w x y).enc] [] ⟨.int .i64 (bh (bb w x y)), []⟩) (g1 g3 g4 : Nat) (T : List (Nat × AV)) (H : aq) (c : Nat) : Ev G ⟨[.code (suf 12 dh.body)], ⟨(12, .ref 76 g1 0) :: (10, .sl 1 (byteCells a)) :: (1, .bool wide) :: (4, .ref 68 g3 0) :: (5, .ref 69 g4 0) :: T, (76, some (g1, .cells (bb w x y).enc)) :: (68, some (g3, .cells ap.enc)) :: (69, some (g4, .cells ap.enc)) :: H, c⟩, [.cell 4 (some 27), .cell 5 (some 27), .t 6], 0⟩ (nu (qg (bb w x y))) := by
 have hal := au a
 have hxl : (x.map Pfx.enc).length = x.length := by simp
 have hxl0 : (List.map Pfx.enc (bb w x zeroA).reach).length = x.length := by simp [bb]
 have hxl1 : (List.map Pfx.enc (bb w x y).reach).length = x.length := by simp [bb]
 by_cases h0 : 0 < a.length
 ·refine aG (b := suf 13 dh.body) ?_
  refine wd1 ?_
  repeat' (first | refine ab ?_ | (refine aa ?_ ?_ <;> intro h))
  refine ag [12, 10, 1, 4, 5] [76, 68, 69] ?_
  exact rZ a wide _ _ _ _ _ _ _ hc
 ·refine aG (b := suf 13 dh.body) ?_
  refine wd1 ?_
  repeat' (first | refine ab ?_ | (refine aa ?_ ?_ <;> intro h))
  refine ag [12, 10, 1, 4, 5] [76, 68, 69] ?_
  exact rZ a wide _ _ _ _ _ _ _ hc
end Go.AM.IR
namespace Go.AM.IR
theorem BZ (wide : Bool) (w N : Nat) (hw : wd wide = w) (hN : N < 2 ^ 29) (b v rest : List UInt8) (c k : UInt8) (n : Nat) (hb0 : (byteCells b)[0]? = some [.int .u8 (c.toNat : Int)]) (hb1 : (byteCells b)[1]? = some [.int .u8 (k.toNat : Int)]) (hbit : fq c = false) (hlen : b.length < 2 ^ 29) (hh : 3 ≤ b.length)
 (aX : ah G 93 [.sl 1 (byteCells b), .int .i64 2, .int .i64 1] [] ⟨.int .i64 (n : Int), []⟩) (hn : n ≤ 65535) (last : Int) (nd : Nat) (hnd : nd < 2 ^ 40) (a : Attrs) (hu : a.unknown.length < 2 ^ 29) (R : Ret)
 (h1 : b.length < 3 + n → R = lZ (3, zeroA)) (h2 : 3 + n ≤ b.length → (k.toNat : Int) ≤ last → R = lZ (16, zeroA))
 (h3 : 3 + n ≤ b.length → ¬ (k.toNat : Int) ≤ last → di ⟨c, k, false, (b.drop 3).take n, b.drop (3 + n)⟩ → R = lZ (2, zeroA))
 (h4 : 3 + n ≤ b.length → ¬ (k.toNat : Int) ≤ last → ¬ di ⟨c, k, false, (b.drop 3).take n, b.drop (3 + n)⟩ → bz w k.toNat ((b.drop 3).take n) a = none → R = lZ (2, zeroA))
 (go : 3 + n ≤ b.length → ¬ (k.toNat : Int) ≤ last → ¬ di ⟨c, k, false, (b.drop 3).take n, b.drop (3 + n)⟩ → ∀ a', bz w k.toNat ((b.drop 3).take n) a = some a' → ∀ (T : List (Nat × AV)) (H : aq) (c g1 g2 g3 : Nat), Ev G ⟨lX, ⟨(4, .ref 68 g1 0) :: (0, .sl 1 (byteCells (b.drop (3 + n)))) :: (8, .int .i64 ((nd + fV k.toNat : Nat) : Int)) :: (6, .ref 70 g2 0) :: (1, .bool wide) :: (7, .int .i64 (k.toNat : Int)) :: T, (68, some (g1, .cells ta)) :: (70, some (g2, .cells (a'.cellsV (.vs 300 g3 a'.unknown.length)))) :: (300, some (g3, .vec 2 (a'.unknown.map TLV.enc))) :: H, c⟩, [.cell 4 (some 16), .t 5], 0⟩ R)
 (T : List (Nat × AV)) (H : aq) (c_ g1 g2 g3 : Nat) : Ev G ⟨lX, ⟨(4, .ref 68 g1 0) :: (0, .sl 1 (byteCells b)) :: (8, .int .i64 (nd : Int)) :: (6, .ref 70 g2 0) :: (1, .bool wide) :: (7, .int .i64 last) :: T, (68, some (g1, .cells ta)) :: (70, some (g2, .cells (a.cellsV (.vs 300 g3 a.unknown.length)))) :: (300, some (g3, .vec 2 (a.unknown.map TLV.enc))) :: H, c_⟩, [.cell 4 (some 16), .t 5], 0⟩ R := by
 have hbl := au b
 have hk := k.toNat_lt
 have hflag := jz (k.toNat : Int) (by omega)
 have hwg := kC wide
 rw [hw] at hwg
 by_cases c1 : b.length < 3 + n
 ·rw [h1 c1]
  refine evl ?_
  repeat' ((conv => whnf); first | refine kU hbit ?_ | refine gF ?_ | refine dz ?_ | (refine aa ?_ ?_ <;> intro h))
  refine bm [] [(68, some (_, .cells zeroA.enc))] trivial ⟨⟨rfl, leA⟩, trivial⟩ ?_
  refine ax ?_
  (conv => whnf); exact And.intro (by first | rfl | (simp [AV.pure, aZ]; done) | fail) rfl
 have c1 : 3 + n ≤ b.length := by omega
 by_cases c2 : (k.toNat : Int) ≤ last
 ·rw [h2 c1 c2]
  refine evl ?_
  repeat' ((conv => whnf); first | refine kU hbit ?_ | refine gF ?_ | refine dz ?_ | (refine aa ?_ ?_ <;> intro h))
  refine bm [] [(68, some (_, .cells zeroA.enc))] trivial ⟨⟨rfl, leA⟩, trivial⟩ ?_
  refine ax ?_
  (conv => whnf); exact And.intro (by first | rfl | (simp [AV.pure, aZ]; done) | fail) rfl
 have hvl : ((b.drop 3).take n).length = n := by simp; omega
 by_cases c3 : iM c = ((bx (k.toNat : Int)).toNat : Int)
 ·have hnb : ¬ di ⟨c, k, false, (b.drop 3).take n, b.drop (3 + n)⟩ := by simp [di, c3]
  have hsl := yp b 3 n (3 + (n : Int)).toNat (by omega)
  have hwl := fU wide
  rw [hw] at hwl
  have hrd := oD k.toNat (by omega) a ((b.drop 3).take n) (by omega) (by omega) w hwl
  unfold bp at hrd
  cases hs : bz w k.toNat ((b.drop 3).take n) a with
  | none =>
   rw [hs] at hrd
   rw [h4 c1 c2 hnb hs]
   rw [← hsl] at hrd
   refine evl ?_
   repeat' ((conv => whnf); first | refine kU hbit ?_ | refine gF ?_ | refine dz ?_ | refine kX [(70, _, _), (300, _, _)] [] ⟨rfl, rfl, trivial⟩ trivial (hrd) ?_ | (refine aa ?_ ?_ <;> intro h))
   refine bm [] [(68, some (_, .cells zeroA.enc))] trivial ⟨⟨rfl, leA⟩, trivial⟩ ?_
   refine ax ?_
   (conv => whnf); exact And.intro (by first | rfl | (simp [AV.pure, aZ]; done) | fail) rfl
  | some a' =>
   rw [hs] at hrd
   rw [← hsl] at hrd
   have go := go c1 c2 hnb a' hs
   simp only [bB] at hrd
   by_cases hq : 1 ≤ k.toNat ∧ k.toNat ≤ 3
   ·rw [show dy k.toNat = true from by simp [dy]; omega] at hrd
    rw [show ((nd + fV k.toNat : Nat) : Int) = (nd : Int) + 1 from by simp [fV, hq]] at go
    refine evl ?_
    repeat' ((conv => whnf); first | refine kU hbit ?_ | refine gF ?_ | refine dz ?_ | refine kX [(70, _, _), (300, _, _)] [] ⟨rfl, rfl, trivial⟩ trivial (hrd) ?_ | (refine aa ?_ ?_ <;> intro h))
    refine ag [4, 0, 8, 6, 1, 7] [68, 70, 300] ?_
    rw [jI b _ _ (by omega), show (3 + (n : Int)).toNat = 3 + n from by omega]
    exact go _ _ _ _ _ _
   ·rw [show ((nd + fV k.toNat : Nat) : Int) = (nd : Int) from by simp [fV, hq]] at go
    cases hik : dy k.toNat
    ·rw [hik] at hrd
     refine evl ?_
     repeat' ((conv => whnf); first | refine kU hbit ?_ | refine gF ?_ | refine dz ?_ | refine kX [(70, _, _), (300, _, _)] [] ⟨rfl, rfl, trivial⟩ trivial (hrd) ?_ | (refine aa ?_ ?_ <;> intro h))
     all_goals
      refine ag [4, 0, 8, 6, 1, 7] [68, 70, 300] ?_
      rw [jI b _ _ (by omega), show (3 + (n : Int)).toNat = 3 + n from by omega]
      exact go _ _ _ _ _ _
    ·rw [hik] at hrd
     refine evl ?_
     repeat' ((conv => whnf); first | refine kU hbit ?_ | refine gF ?_ | refine dz ?_ | refine kX [(70, _, _), (300, _, _)] [] ⟨rfl, rfl, trivial⟩ trivial (hrd) ?_ | (refine aa ?_ ?_ <;> intro h))
     all_goals
      refine ag [4, 0, 8, 6, 1, 7] [68, 70, 300] ?_
      rw [jI b _ _ (by omega), show (3 + (n : Int)).toNat = 3 + n from by omega]
      exact go _ _ _ _ _ _
 ·rw [h3 c1 c2 (.inl c3)]
  refine evl ?_
  repeat' ((conv => whnf); first | refine kU hbit ?_ | refine gF ?_ | refine dz ?_ | (refine aa ?_ ?_ <;> intro h))
  refine bm [] [(68, some (_, .cells zeroA.enc))] trivial ⟨⟨rfl, leA⟩, trivial⟩ ?_
  refine ax ?_
  (conv => whnf); exact And.intro (by first | rfl | (simp [AV.pure, aZ]; done) | fail) rfl
end Go.AM.IR
namespace Go.AM.IR
theorem JN (wide : Bool) (w N : Nat) (hw : wd wide = w) (hN : N < 2 ^ 29) (b v rest : List UInt8) (c k : UInt8) (n : Nat) (hb0 : (byteCells b)[0]? = some [.int .u8 (c.toNat : Int)]) (hb1 : (byteCells b)[1]? = some [.int .u8 (k.toNat : Int)]) (hbit : fq c = true) (hlen : b.length < 2 ^ 29) (hh : 4 ≤ b.length)
 (aX : ah G 93 [.sl 1 (byteCells b), .int .i64 2, .int .i64 2] [] ⟨.int .i64 (n : Int), []⟩) (hn : n ≤ 65535) (last : Int) (nd : Nat) (hnd : nd < 2 ^ 40) (a : Attrs) (hu : a.unknown.length < 2 ^ 29) (R : Ret)
 (h1 : b.length < 4 + n → R = lZ (3, zeroA)) (h2 : 4 + n ≤ b.length → (k.toNat : Int) ≤ last → R = lZ (16, zeroA))
 (h3 : 4 + n ≤ b.length → ¬ (k.toNat : Int) ≤ last → di ⟨c, k, true, (b.drop 4).take n, b.drop (4 + n)⟩ → R = lZ (2, zeroA))
 (h4 : 4 + n ≤ b.length → ¬ (k.toNat : Int) ≤ last → ¬ di ⟨c, k, true, (b.drop 4).take n, b.drop (4 + n)⟩ → bz w k.toNat ((b.drop 4).take n) a = none → R = lZ (2, zeroA))
 (go : 4 + n ≤ b.length → ¬ (k.toNat : Int) ≤ last → ¬ di ⟨c, k, true, (b.drop 4).take n, b.drop (4 + n)⟩ → ∀ a', bz w k.toNat ((b.drop 4).take n) a = some a' → ∀ (T : List (Nat × AV)) (H : aq) (c g1 g2 g3 : Nat), Ev G ⟨lX, ⟨(4, .ref 68 g1 0) :: (0, .sl 1 (byteCells (b.drop (4 + n)))) :: (8, .int .i64 ((nd + fV k.toNat : Nat) : Int)) :: (6, .ref 70 g2 0) :: (1, .bool wide) :: (7, .int .i64 (k.toNat : Int)) :: T, (68, some (g1, .cells ta)) :: (70, some (g2, .cells (a'.cellsV (.vs 300 g3 a'.unknown.length)))) :: (300, some (g3, .vec 2 (a'.unknown.map TLV.enc))) :: H, c⟩, [.cell 4 (some 16), .t 5], 0⟩ R)
 (T : List (Nat × AV)) (H : aq) (c_ g1 g2 g3 : Nat) : Ev G ⟨lX, ⟨(4, .ref 68 g1 0) :: (0, .sl 1 (byteCells b)) :: (8, .int .i64 (nd : Int)) :: (6, .ref 70 g2 0) :: (1, .bool wide) :: (7, .int .i64 last) :: T, (68, some (g1, .cells ta)) :: (70, some (g2, .cells (a.cellsV (.vs 300 g3 a.unknown.length)))) :: (300, some (g3, .vec 2 (a.unknown.map TLV.enc))) :: H, c_⟩, [.cell 4 (some 16), .t 5], 0⟩ R := by
 have hbl := au b
 have hk := k.toNat_lt
 have hflag := jz (k.toNat : Int) (by omega)
 have hwg := kC wide
 rw [hw] at hwg
 by_cases c1 : b.length < 4 + n
 ·rw [h1 c1]
  refine evl ?_
  repeat' ((conv => whnf); first | refine jm hbit ?_ | refine gF ?_ | refine dz ?_ | (refine aa ?_ ?_ <;> intro h))
  refine bm [] [(68, some (_, .cells zeroA.enc))] trivial ⟨⟨rfl, leA⟩, trivial⟩ ?_
  refine ax ?_
  (conv => whnf); exact And.intro (by first | rfl | (simp [AV.pure, aZ]; done) | fail) rfl
 have c1 : 4 + n ≤ b.length := by omega
 by_cases c2 : (k.toNat : Int) ≤ last
 ·rw [h2 c1 c2]
  refine evl ?_
  repeat' ((conv => whnf); first | refine jm hbit ?_ | refine gF ?_ | refine dz ?_ | (refine aa ?_ ?_ <;> intro h))
  refine bm [] [(68, some (_, .cells zeroA.enc))] trivial ⟨⟨rfl, leA⟩, trivial⟩ ?_
  refine ax ?_
  (conv => whnf); exact And.intro (by first | rfl | (simp [AV.pure, aZ]; done) | fail) rfl
 have hvl : ((b.drop 4).take n).length = n := by simp; omega
 by_cases c3 : iM c = ((bx (k.toNat : Int)).toNat : Int)
 ·by_cases c4 : n ≤ 255
  ·rw [h3 c1 c2 (.inr ⟨rfl, by simp only; omega⟩)]
   refine evl ?_
   repeat' ((conv => whnf); first | refine jm hbit ?_ | refine gF ?_ | refine dz ?_ | (refine aa ?_ ?_ <;> intro h))
   refine bm [] [(68, some (_, .cells zeroA.enc))] trivial ⟨⟨rfl, leA⟩, trivial⟩ ?_
   refine ax ?_
   (conv => whnf); exact And.intro (by first | rfl | (simp [AV.pure, aZ]; done) | fail) rfl
  ·have hnb : ¬ di ⟨c, k, true, (b.drop 4).take n, b.drop (4 + n)⟩ := by simp [di, c3]; omega
   have hsl := yp b 4 n (4 + (n : Int)).toNat (by omega)
   have hwl := fU wide
   rw [hw] at hwl
   have hrd := oD k.toNat (by omega) a ((b.drop 4).take n) (by omega) (by omega) w hwl
   unfold bp at hrd
   cases hs : bz w k.toNat ((b.drop 4).take n) a with
   | none =>
    rw [hs] at hrd
    rw [h4 c1 c2 hnb hs]
    rw [← hsl] at hrd
    refine evl ?_
    repeat' ((conv => whnf); first | refine jm hbit ?_ | refine gF ?_ | refine dz ?_ | refine kX [(70, _, _), (300, _, _)] [] ⟨rfl, rfl, trivial⟩ trivial (hrd) ?_ | (refine aa ?_ ?_ <;> intro h))
    refine bm [] [(68, some (_, .cells zeroA.enc))] trivial ⟨⟨rfl, leA⟩, trivial⟩ ?_
    refine ax ?_
    (conv => whnf); exact And.intro (by first | rfl | (simp [AV.pure, aZ]; done) | fail) rfl
   | some a' =>
    rw [hs] at hrd
    rw [← hsl] at hrd
    have go := go c1 c2 hnb a' hs
    simp only [bB] at hrd
    by_cases hq : 1 ≤ k.toNat ∧ k.toNat ≤ 3
    ·rw [show dy k.toNat = true from by simp [dy]; omega] at hrd
     rw [show ((nd + fV k.toNat : Nat) : Int) = (nd : Int) + 1 from by simp [fV, hq]] at go
     refine evl ?_
     repeat' ((conv => whnf); first | refine jm hbit ?_ | refine gF ?_ | refine dz ?_ | refine kX [(70, _, _), (300, _, _)] [] ⟨rfl, rfl, trivial⟩ trivial (hrd) ?_ | (refine aa ?_ ?_ <;> intro h))
     refine ag [4, 0, 8, 6, 1, 7] [68, 70, 300] ?_
     rw [jI b _ _ (by omega), show (4 + (n : Int)).toNat = 4 + n from by omega]
     exact go _ _ _ _ _ _
    ·rw [show ((nd + fV k.toNat : Nat) : Int) = (nd : Int) from by simp [fV, hq]] at go
     cases hik : dy k.toNat
     ·rw [hik] at hrd
      refine evl ?_
      repeat' ((conv => whnf); first | refine jm hbit ?_ | refine gF ?_ | refine dz ?_ | refine kX [(70, _, _), (300, _, _)] [] ⟨rfl, rfl, trivial⟩ trivial (hrd) ?_ | (refine aa ?_ ?_ <;> intro h))
      all_goals
       refine ag [4, 0, 8, 6, 1, 7] [68, 70, 300] ?_
       rw [jI b _ _ (by omega), show (4 + (n : Int)).toNat = 4 + n from by omega]
       exact go _ _ _ _ _ _
     ·rw [hik] at hrd
      refine evl ?_
      repeat' ((conv => whnf); first | refine jm hbit ?_ | refine gF ?_ | refine dz ?_ | refine kX [(70, _, _), (300, _, _)] [] ⟨rfl, rfl, trivial⟩ trivial (hrd) ?_ | (refine aa ?_ ?_ <;> intro h))
      all_goals
       refine ag [4, 0, 8, 6, 1, 7] [68, 70, 300] ?_
       rw [jI b _ _ (by omega), show (4 + (n : Int)).toNat = 4 + n from by omega]
       exact go _ _ _ _ _ _
 ·rw [h3 c1 c2 (.inl c3)]
  refine evl ?_
  repeat' ((conv => whnf); first | refine jm hbit ?_ | refine gF ?_ | refine dz ?_ | (refine aa ?_ ?_ <;> intro h))
  refine bm [] [(68, some (_, .cells zeroA.enc))] trivial ⟨⟨rfl, leA⟩, trivial⟩ ?_
  refine ax ?_
  (conv => whnf); exact And.intro (by first | rfl | (simp [AV.pure, aZ]; done) | fail) rfl
end Go.AM.IR
namespace Go.AM.IR
theorem J8 (c k n : UInt8) (r : List UInt8) (hb : fq c = false) : gY (c :: k :: n :: r) = if r.length < n.toNat then none else some ⟨c, k, false, r.take n.toNat, r.drop n.toNat⟩ := by
 simp [gY, hb]
theorem OB (c k n m : UInt8) (r : List UInt8) (hb : fq c = true) : gY (c :: k :: n :: m :: r) = if r.length < n.toNat * 256 + m.toNat then none else some ⟨c, k, true, r.take (n.toNat * 256 + m.toNat), r.drop (n.toNat * 256 + m.toNat)⟩ := by
 simp [gY, hb]
theorem P8 (k : Nat) : fV k ≤ 1 := by unfold fV; split <;> omega
theorem NR (c k n : UInt8) (r : List UInt8) (x : Nat) : (c :: k :: n :: r).drop (3 + x) = r.drop x := by rw [Nat.add_comm]; rfl
theorem NQ (c k n m : UInt8) (r : List UInt8) (x : Nat) : (c :: k :: n :: m :: r).drop (4 + x) = r.drop x := by rw [Nat.add_comm]; rfl
theorem nR (wide : Bool) (w N : Nat) (hw : wd wide = w) (hN : N < 2 ^ 29) : ∀ (f : Nat) (b : List UInt8) (last : Int) (nd : Nat) (a : Attrs) (T : List (Nat × AV)) (H : aq) (c g1 g2 g3 : Nat) (hf : b.length ≤ f) (hu : a.unknown.length + b.length ≤ N) (hnd : nd + b.length ≤ N) (hD : DB N a),
  Ev G ⟨lX, ⟨(4, .ref 68 g1 0) :: (0, .sl 1 (byteCells b)) :: (8, .int .i64 (nd : Int)) :: (6, .ref 70 g2 0) :: (1, .bool wide) :: (7, .int .i64 last) :: T, (68, some (g1, .cells ta)) :: (70, some (g2, .cells (a.cellsV (.vs 300 g3 a.unknown.length)))) :: (300, some (g3, .vec 2 (a.unknown.map TLV.enc))) :: H, c⟩, [.cell 4 (some 16), .t 5], 0⟩ (lZ (jC w f b last nd a))
 | f, [], last, nd, a, T, H, c_, g1, g2, g3, hf, hu, hnd, hD => by
  rw [show jC w f [] last nd a = kH nd a from by cases f <;> rfl]
  have hul : (a.unknown.map TLV.enc).length = a.unknown.length := by simp
  have hck := i6 a (hD.lenB (by omega) (by omega))
  refine d8 [(300, _, _)] [4, 0, 8, 6, 1, 7] [68, 70] ⟨rfl, frP, trivial⟩ ?_; repeat ((conv => whnf); first | refine frA ?_ | intro T H)
  by_cases h3 : nd < 3
  ·rw [show kH nd a = (6, zeroA) from by rw [kH, if_pos h3]]
   refine evl ?_
   repeat' (first | refine ab ?_ | (refine aa ?_ ?_ <;> intro h))
   refine bm [] [(68, some (_, .cells zeroA.enc))] trivial ⟨⟨rfl, leA⟩, trivial⟩ ?_
   refine ax ?_
   (conv => whnf); exact And.intro (by first | rfl | (simp [AV.pure, aZ]; done) | fail) rfl
  ·by_cases h0 : bW a = 0
   ·rw [show kH nd a = (0, a) from by rw [kH, if_neg h3, if_pos h0]]
    rw [h0] at hck
    refine evl ?_
    repeat' (first | refine ab ?_ | (refine aa ?_ ?_ <;> intro h))
    refine ax ?_
    (conv => whnf); exact And.intro (by simp [AV.pure, aZ]) rfl
   ·rw [show kH nd a = (bW a, zeroA) from by rw [kH, if_neg h3, if_neg h0]]
    refine evl ?_
    repeat' (first | refine ab ?_ | (refine aa ?_ ?_ <;> intro h))
    refine bm [] [(68, some (_, .cells zeroA.enc))] trivial ⟨⟨rfl, leA⟩, trivial⟩ ?_
    refine ax ?_
    (conv => whnf); exact And.intro (by first | rfl | (simp [AV.pure, aZ]; done) | fail) rfl
 | 0, c :: r, last, nd, a, T, H, c_, g1, g2, g3, hf, hu, hnd, hD => absurd hf (by simp)
 | f + 1, [c], last, nd, a, T, H, c_, g1, g2, g3, hf, hu, hnd, hD => by
  rw [iv rfl]
  cases hbit : fq c
  ·refine evl ?_
   repeat' ((conv => whnf); first | refine kU hbit ?_ | refine dz ?_ | (refine aa ?_ ?_ <;> intro h))
   refine bm [] [(68, some (_, .cells zeroA.enc))] trivial ⟨⟨rfl, leA⟩, trivial⟩ ?_
   refine ax ?_
   (conv => whnf); exact And.intro (by first | rfl | (simp [AV.pure, aZ]; done) | fail) rfl
  ·refine evl ?_
   repeat' ((conv => whnf); first | refine jm hbit ?_ | refine dz ?_ | (refine aa ?_ ?_ <;> intro h))
   refine bm [] [(68, some (_, .cells zeroA.enc))] trivial ⟨⟨rfl, leA⟩, trivial⟩ ?_
   refine ax ?_
   (conv => whnf); exact And.intro (by first | rfl | (simp [AV.pure, aZ]; done) | fail) rfl
 | f + 1, [c, k], last, nd, a, T, H, c_, g1, g2, g3, hf, hu, hnd, hD => by
  rw [iv rfl]
  cases hbit : fq c
  ·refine evl ?_
   repeat' ((conv => whnf); first | refine kU hbit ?_ | refine dz ?_ | (refine aa ?_ ?_ <;> intro h))
   refine bm [] [(68, some (_, .cells zeroA.enc))] trivial ⟨⟨rfl, leA⟩, trivial⟩ ?_
   refine ax ?_
   (conv => whnf); exact And.intro (by first | rfl | (simp [AV.pure, aZ]; done) | fail) rfl
  ·refine evl ?_
   repeat' ((conv => whnf); first | refine jm hbit ?_ | refine dz ?_ | (refine aa ?_ ?_ <;> intro h))
   refine bm [] [(68, some (_, .cells zeroA.enc))] trivial ⟨⟨rfl, leA⟩, trivial⟩ ?_
   refine ax ?_
   (conv => whnf); exact And.intro (by first | rfl | (simp [AV.pure, aZ]; done) | fail) rfl
 | f + 1, c :: k :: n :: r, last, nd, a, T, H, c_, g1, g2, g3, hf, hu, hnd, hD => by
  have hn := n.toNat_lt
  have hle : (c :: k :: n :: r).length = r.length + 3 := rfl
  have hrq := P8 k.toNat
  cases hbit : fq c
  ·have aX := fb (c :: k :: n :: r) (by omega) 2 1 (by omega) (by omega) (by omega) (by omega)
   rw [show rd (((c :: k :: n :: r).drop (2 : Int).toNat).take (1 : Int).toNat) = n.toNat from by simp [rd]] at aX
   have hat := J8 c k n r hbit
   refine BZ wide w N hw hN (c :: k :: n :: r) [] [] c k n.toNat rfl rfl hbit (by omega) (by omega) aX (by omega) last nd (by omega) a (by omega) _ ?_ ?_ ?_ ?_ ?_ T H c_ g1 g2 g3
   all_goals try simp only [NR, show ∀ x : List UInt8, (c :: k :: n :: x).drop 3 = x from fun _ => rfl]
   ·intro q; rw [if_pos (by omega)] at hat; rw [iv hat]
   ·intro q q2; rw [if_neg (by omega)] at hat; rw [fj hat, if_pos q2]
   ·intro q q2 q3; rw [if_neg (by omega)] at hat; rw [fj hat, if_neg q2, if_pos q3]
   ·intro q q2 q3 q4; rw [if_neg (by omega)] at hat; rw [fj hat, if_neg q2, if_neg q3]; simp only [q4]
   ·intro q q2 q3 a' q4 T H c_ g1 g2 g3
    rw [if_neg (by omega)] at hat; rw [fj hat, if_neg q2, if_neg q3]; simp only [q4]
    obtain ⟨d1, d2⟩ := uQ hD (by simp; omega) q4
    exact nR wide w N hw hN f _ _ _ a' T H c_ g1 g2 g3 (by simp; omega) (by simp; omega) (by simp; omega) d1
  ·cases r with
   | nil =>
    rw [iv (show gY [c, k, n] = none from by simp [gY, hbit])]
    refine evl ?_
    repeat' ((conv => whnf); first | refine jm hbit ?_ | refine dz ?_ | (refine aa ?_ ?_ <;> intro h))
    refine bm [] [(68, some (_, .cells zeroA.enc))] trivial ⟨⟨rfl, leA⟩, trivial⟩ ?_
    refine ax ?_
    (conv => whnf); exact And.intro (by first | rfl | (simp [AV.pure, aZ]; done) | fail) rfl
   | cons m r =>
    have hm := m.toNat_lt
    simp only [List.length_cons] at hle
    have aX := fb (c :: k :: n :: m :: r) (by simp only [List.length_cons] at hf hu hnd ⊢; omega) 2 2 (by omega) (by omega) (by omega) (by simp only [List.length_cons]; omega)
    rw [show rd (((c :: k :: n :: m :: r).drop (2 : Int).toNat).take (2 : Int).toNat) = n.toNat * 256 + m.toNat from by simp [rd]] at aX
    have hat := OB c k n m r hbit
    simp only [List.length_cons] at hf hu hnd
    refine JN wide w N hw hN (c :: k :: n :: m :: r) [] [] c k (n.toNat * 256 + m.toNat) rfl rfl hbit (by simp only [List.length_cons]; omega) (by simp only [List.length_cons]; omega) aX (by omega) last nd (by omega) a (by omega) _ ?_ ?_ ?_ ?_ ?_ T H c_ g1 g2 g3
    all_goals try simp only [NQ, List.length_cons, show ∀ x : List UInt8, (c :: k :: n :: m :: x).drop 4 = x from fun _ => rfl]
    ·intro q; rw [if_pos (by omega)] at hat; rw [iv hat]
    ·intro q q2; rw [if_neg (by omega)] at hat; rw [fj hat, if_pos q2]
    ·intro q q2 q3; rw [if_neg (by omega)] at hat; rw [fj hat, if_neg q2, if_pos q3]
    ·intro q q2 q3 q4; rw [if_neg (by omega)] at hat; rw [fj hat, if_neg q2, if_neg q3]; simp only [q4]
    ·intro q q2 q3 a' q4 T H c_ g1 g2 g3
     rw [if_neg (by omega)] at hat; rw [fj hat, if_neg q2, if_neg q3]; simp only [q4]
     obtain ⟨d1, d2⟩ := uQ hD (by simp; omega) q4
     exact nR wide w N hw hN f _ _ _ a' T H c_ g1 g2 g3 (by simp; omega) (by simp; omega) (by simp; omega) d1
theorem vN (b : List UInt8) (wide : Bool) (hb : b.length < 2 ^ 28) : ah G 69 [.sl 1 (byteCells b), .bool wide] [] (lZ (jV (wd wide) b)) := by
 refine ae (F := f69) rfl rfl (az 300 _ _ _ _ ?_)
 repeat' (first | refine ab ?_ | (refine aa ?_ ?_ <;> intro h))
 refine cH 300 2 [] [(70, some (_, .cells (zeroA.cellsV (.vs 300 _ 0))))] trivial ⟨⟨rfl, .refl _, LeP.nil 2, .refl _, .refl _, .refl _, .refl _, .refl _, .refl _, .refl _, .refl _, .refl _, LeP.nil 1, .refl _, .refl _, LeP.nil 1, LeP.nilV _ _ _, trivial⟩, trivial⟩ ?_
 refine ag [4, 0, 8, 6, 1, 7] [68, 70, 300] ?_
 exact nR wide (wd wide) b.length rfl (by omega) b.length b (-1) 0 zeroA _ _ _ _ _ _ (Nat.le_refl _) (by simp [zeroA]) (by simp) ⟨by simp [zeroA], by simp [zeroA], by simp [zeroA], by simp [zeroA], by simp [zeroA]⟩
end Go.AM.IR
namespace Go.AM.IR
theorem DB.ab2 {N : Nat} {a : Attrs} (h : DB N a) (hN : N ≤ 65535) (hu : a.unknown.length ≤ N) : AB a := by
 have h1 := ud a.path h.segs
 have h2 := yh a.unknown h.vals
 have h3 := h.path
 have h4 := h.comms
 have h5 := h.clusters
 have h6 : N * a.unknown.length ≤ 65535 * 65535 := Nat.mul_le_mul hN (by omega)
 exact ⟨by omega, by omega, by omega, by omega, by omega, fun t ht => by have := h.vals t ht; omega, by omega⟩
theorem Ui {a : Attrs} (h : AB a) : LenC a where
 path := h.path
 segs s hs := by
  have h1 := h.flat
  have h2 : s.as.length ≤ (bC a.path).length := by
   unfold bC
   obtain ⟨p, q, e⟩ := List.append_of_mem hs
   rw [e]; simp; omega
  omega
 comms := h.comms
 clusters := h.clusters
 unknown := h.unknown
theorem ale {a : List UInt8} {wide : Bool} (ha : a.length ≤ 65535) {e : Int} {A : Attrs} (h : jV (wd wide) a = (e, A)) : A.ok ∧ AB A := by
 unfold jV at h
 obtain ⟨r, d, u⟩ := II (N := a.length) (by unfold wd; split <;> omega) _ _ _ _ _ h (rY _) (Cy _) (by simp [zeroA]) (rY _) (Cy _)
 exact ⟨r.ok, d.ab2 ha u⟩
theorem sk : ∀ l : List Pfx, l.length ≤ (bi l).length
 | [] => Nat.zero_le _
 | p :: r => by
  have := sk r
  simp only [bi, List.flatMap_cons, List.length_append, List.length_cons, js] at *
  omega
theorem ye {w x : List Pfx} {a : Attrs} (hw : w.length < 2 ^ 40) (hx : x.length < 2 ^ 40) (ha : AB a) : LenO (bb w x a) ∧ LenB (bb w x a).attrs := ⟨⟨⟨by simp [bb, ap], hw, hx, Ui ha⟩, by simp [bb, ap, capT]⟩, dY ha⟩
theorem OW (a p q : List UInt8) (wide : Bool) (ha : a.length ≤ 65535) (hp : p.length < 2 ^ 30) (hq : q.length < 2 ^ 30) (g1 g2 g3 g4 : Nat) (T : List (Nat × AV)) (H : aq) (c : Nat) : Ev G ⟨[.code (suf 9 dh.body)], ⟨(9, .ref 97 g1 0) :: (11, .ref 113 g2 0) :: (10, .sl 1 (byteCells a)) :: (1, .bool wide) :: (4, .ref 68 g3 0) :: (5, .ref 69 g4 0) :: T, (97, some (g1, .cells [.sl 1 (byteCells p), .con (.slice none 0 0)])) :: (113, some (g2, .cells [.sl 1 (byteCells q), .con (.slice none 0 0)])) :: (68, some (g3, .cells ap.enc)) :: (69, some (g4, .cells ap.enc)) :: H, c⟩, [.cell 4 (some 27), .cell 5 (some 27), .t 6], 0⟩ (nu (JP wide a (unP p.length p) (unP q.length q))) := by
 have hp1 := Dc p (by omega)
 have hq1 := Dc q (by omega)
 have pu := sg p.length p []
 have qu := sg q.length q []
 cases hup : unP p.length p with
 | none =>
  have h0 := pu.2 hup
  rw [show i9 p.length p [] = (false, (i9 p.length p []).2.1, (i9 p.length p []).2.2) from Prod.ext h0 rfl] at hp1
  exact Tw a p q wide g1 g2 g3 g4 T H c _ _ hp1
 | some w =>
  have h0 := pu.1 w hup
  rw [h0, List.nil_append] at hp1
  cases huq : unP q.length q with
  | none =>
   have h1 := qu.2 huq
   rw [show i9 q.length q [] = (false, (i9 q.length q []).2.1, (i9 q.length q []).2.2) from Prod.ext h1 rfl] at hq1
   exact Tv a p q wide g1 g2 g3 g4 T H c _ _ _ _ hp1 hq1
  | some x =>
   have h1 := qu.1 x huq
   rw [h1, List.nil_append] at hq1
   obtain ⟨e1, o1⟩ := sj _ _ _ hup
   obtain ⟨e2, o2⟩ := sj _ _ _ huq
   have n1 := sk w
   have n2 := sk x
   rw [e1] at n1
   rw [e2] at n2
   have hok : ∀ A : Attrs, (bb w x A).okP := fun A => ⟨fun y hy => (o1 y hy).1, fun y hy => (o2 y hy).1⟩
   have hz : AB zeroA := ⟨by simp [zeroA], by simp [zeroA, bC], by simp [zeroA], by simp [zeroA], by simp [zeroA], by simp [zeroA], by simp [zeroA, fY]⟩
   refine ZC a p q wide g1 g2 g3 g4 T H c [] [] w x hp1 hq1 _ ?_
   intro g1 g3 g4 T H c
   show Ev G _ (nu (xN wide a w x))
   unfold xN
   by_cases he : a = [] ∧ x = []
   ·rw [if_pos he]
    obtain ⟨ea, ex⟩ := he
    subst ea ex
    obtain ⟨l1, l2⟩ := ye (w := w) (x := []) (by omega) (by simp) hz
    exact TF w wide g1 g3 g4 T H c (fK _ l1 l2 (hok _))
   ·rw [if_neg he]
    have hne : 0 < a.length ∨ 0 < x.length := by
     rcases Nat.eq_zero_or_pos a.length with h | h
     ·rcases Nat.eq_zero_or_pos x.length with h' | h'
      ·exact absurd ⟨List.length_eq_zero_iff.1 h, List.length_eq_zero_iff.1 h'⟩ he
      ·exact .inr h'
     ·exact .inl h
    have hd := vN a wide (by omega)
    cases hD : jV (wd wide) a with
    | mk e y =>
     rw [hD, lZ] at hd
     simp only at hd ⊢
     obtain ⟨oy, ay⟩ := ale ha hD
     by_cases e6 : e = 6
     ·rw [if_pos e6]; exact TD a w x (by omega) (by omega) hne wide e y hd g1 g3 g4 T H c e6
     ·rw [if_neg e6]
      by_cases e0 : e = 0
      ·rw [if_neg (by simp [e0])]
       refine TC a w x (by omega) (by omega) hne wide e y hd g1 g3 g4 T H c e0 _ ?_
       intro g1 g3 g4 T H c
       by_cases hx : x = []
       ·rw [if_pos hx]; subst hx
        exact TA a (by omega) (by rcases hne with h | h; exact h; simp at h) wide w y g1 g3 g4 T H c
       ·rw [if_neg hx]
        obtain ⟨l1, l2⟩ := ye (w := w) (x := x) (by omega) (by omega) ay
        exact Tz a (by omega) wide w x (by omega) (List.length_pos_iff.2 hx) y (fK _ l1 l2 (hok _)) g1 g3 g4 T H c
      ·rw [if_pos e0]; exact TE a w x (by omega) (by omega) hne wide e y hd g1 g3 g4 T H c e6 e0
theorem Zf (b : List UInt8) (hb : b.length < 2 ^ 28) (h4 : 4 ≤ b.length) (wide : Bool) : ah G 201 [.sl 1 (byteCells b), .bool wide] [] (nu (Bg wide b)) := by
 unfold Bg
 by_cases h : b.length < 4 + rd (b.take 2)
 ·rw [if_pos h]; exact NY b wide (by omega) (by omega) h
 ·rw [if_neg h]
  have l1 : (b.drop 2).length = b.length - 2 := List.length_drop
  have l3 : ((b.drop 2).drop (rd (b.take 2) + 2)).length = b.length - 2 - (rd (b.take 2) + 2) := by rw [List.length_drop, l1]
  unfold JO
  by_cases h2 : ((b.drop 2).drop (rd (b.take 2) + 2)).length < rd (((b.drop 2).drop (rd (b.take 2))).take 2)
  ·rw [if_pos h2]; exact NX b wide (by omega) _ rfl (by omega) _ rfl h2
  ·rw [if_neg h2]
   refine NW b wide (by omega) _ rfl (by omega) _ rfl (by omega) _ ?_
   intro g1 g2 g3 g4 T H c
   have hr : rd (((b.drop 2).drop (rd (b.take 2))).take 2) < 256 ^ 2 := cn (by simp; omega)
   exact OW _ _ _ wide (by rw [List.length_take]; omega) (by rw [List.length_take]; omega) (by rw [List.length_drop]; omega) g1 g2 g3 g4 T H c
end Go.AM.IR
namespace Go.AM.IR
theorem E8 (m : PMsg) (g0 g1 g2 g3 g4 : Nat) (T : List (Nat × AV)) (H : aq) (c : Nat) (hc : ah G 148 [.agg m.enc] [] ⟨.int .i64 (bh m), []⟩) : Ev G ⟨[.code (suf 14 a8.body)], ⟨(11, .ref 75 g0 0) :: (4, .ref 68 g1 0) :: (5, .ref 69 g2 0) :: (7, .ref 71 g3 0) :: (8, .ref 72 g4 0) :: T, (75, some (g0, .cells m.enc)) :: (68, some (g1, .cells ap.enc)) :: (69, some (g2, .cells ap.enc)) :: (71, some (g3, .cells ap.enc)) :: (72, some (g4, .cells (bc 3 1 []).enc)) :: H, c⟩, [.cell 4 (some 27), .cell 5 (some 27), .t 6], 0⟩ (nu (qg m)) := by
 unfold qg
 generalize bh m = e at *
 by_cases h0 : e = 0
 ·rw [if_pos h0]
  refine wk3 ?_
  repeat' (first | refine ab ?_ | (refine aa ?_ ?_ <;> intro h))
  refine ax ?_
  repeat ((conv => whnf); refine frB ?_)
  rfl
 ·rw [if_neg h0]
  have h6 : ah G 359 [.int .i64 3, .int .i64 10, .con (.slice none 0 0)] [] ⟨.agg (bc 3 10 []).enc, []⟩ := b7 3 10
  refine wk3 ?_
  repeat' (first | refine ab ?_ | (refine aa ?_ ?_ <;> intro h))
  refine ax ?_
  repeat ((conv => whnf); refine frB ?_)
  rfl
theorem atn (oq : List UInt8) (w : List Pfx) (su : Nat) (wide : Bool) (g0 g1 g2 g3 g4 : Nat) (T : List (Nat × AV)) (H : aq) (c : Nat) (hc : ah G 148 [.agg (bb w [] zeroA).enc] [] ⟨.int .i64 (bh (bb w [] zeroA)), []⟩) : Ev G ⟨[.code (suf 13 a8.body)], ⟨(11, .ref 75 g0 0) :: (0, .sl 1 (byteCells oq)) :: (1, .bool wide) :: (9, .int .i64 (su : Nat)) :: (10, .int .i64 0) :: (14, .sl 2 (([] : List Pfx).map Pfx.enc)) :: (4, .ref 68 g1 0) :: (5, .ref 69 g2 0) :: (7, .ref 71 g3 0) :: (8, .ref 72 g4 0) :: T, (75, some (g0, .cells (bb w [] zeroA).enc)) :: (68, some (g1, .cells ap.enc)) :: (69, some (g2, .cells ap.enc)) :: (71, some (g3, .cells ap.enc)) :: (72, some (g4, .cells (bc 3 1 []).enc)) :: H, c⟩, [.cell 4 (some 27), .cell 5 (some 27), .t 6], 0⟩ (nu (qg (bb w [] zeroA))) := by
 refine aG (b := suf 14 a8.body) ?_
 refine wd1 ?_
 repeat' (first | refine ab ?_ | (refine aa ?_ ?_ <;> intro h))
 refine ag [11, 4, 5, 7, 8] [75, 68, 69, 71, 72] ?_
 exact E8 _ _ _ _ _ _ _ _ _ hc
theorem atl (oq a : List UInt8) (w x : List Pfx) (su n : Nat) (wide : Bool) (hb : oq.length < 2 ^ 38) (hs : 23 + su + n ≤ oq.length) (hx : x.length < 2 ^ 38) (hne : 0 < n ∨ 0 < x.length) (e : Int) (y : Attrs) (hd : ah G 71 [.sl 1 (List.take ((23 + (su : Int) + (n : Int)).toNat - (23 + (su : Int)).toNat) (List.drop (23 + (su : Int)).toNat (byteCells oq))), .bool wide] [] ⟨.tup [.agg y.enc, .int .i64 e], []⟩) (he : e = 6) (g0 g1 g2 g3 g4 : Nat) (T : List (Nat × AV)) (H : aq) (c : Nat) : Ev G ⟨[.code (suf 13 a8.body)], ⟨(11, .ref 75 g0 0) :: (0, .sl 1 (byteCells oq)) :: (1, .bool wide) :: (9, .int .i64 (su : Nat)) :: (10, .int .i64 (n : Nat)) :: (14, .sl 2 (x.map Pfx.enc)) :: (4, .ref 68 g1 0) :: (5, .ref 69 g2 0) :: (7, .ref 71 g3 0) :: (8, .ref 72 g4 0) :: T, (75, some (g0, .cells (bb w x zeroA).enc)) :: (68, some (g1, .cells ap.enc)) :: (69, some (g2, .cells ap.enc)) :: (71, some (g3, .cells ap.enc)) :: (72, some (g4, .cells (bc 3 1 []).enc)) :: H, c⟩, [.cell 4 (some 27), .cell 5 (some 27), .t 6], 0⟩ ⟨.tup [.agg ap.enc, .agg (bc 3 3 []).enc, .int .i64 6], []⟩ := by
 subst he
 have hbl := au oq
 have hxl : (x.map Pfx.enc).length = x.length := by simp
 have h6 : ah G 359 [.int .i64 3, .int .i64 3, .con (.slice none 0 0)] [] ⟨.agg (bc 3 3 []).enc, []⟩ := b7 3 3
 by_cases hp : 0 < n
 ·refine wk3 ?_
  repeat' (first | refine ab ?_ | refine ox ?_ | (refine aa ?_ ?_ <;> intro h))
  refine ax ?_
  repeat ((conv => whnf); refine frB ?_)
  rfl
 ·have h0 : 0 < x.length := by omega
  refine wk3 ?_
  repeat' (first | refine ab ?_ | refine ox ?_ | (refine aa ?_ ?_ <;> intro h))
  refine ax ?_
  repeat ((conv => whnf); refine frB ?_)
  rfl
theorem atm (oq a : List UInt8) (w x : List Pfx) (su n : Nat) (wide : Bool) (hb : oq.length < 2 ^ 38) (hs : 23 + su + n ≤ oq.length) (hx : x.length < 2 ^ 38) (hne : 0 < n ∨ 0 < x.length) (e : Int) (y : Attrs) (hd : ah G 71 [.sl 1 (List.take ((23 + (su : Int) + (n : Int)).toNat - (23 + (su : Int)).toNat) (List.drop (23 + (su : Int)).toNat (byteCells oq))), .bool wide] [] ⟨.tup [.agg y.enc, .int .i64 e], []⟩) (he : ¬ e = 6) (he0 : ¬ e = 0) (g0 g1 g2 g3 g4 : Nat) (T : List (Nat × AV)) (H : aq) (c : Nat) : Ev G ⟨[.code (suf 13 a8.body)], ⟨(11, .ref 75 g0 0) :: (0, .sl 1 (byteCells oq)) :: (1, .bool wide) :: (9, .int .i64 (su : Nat)) :: (10, .int .i64 (n : Nat)) :: (14, .sl 2 (x.map Pfx.enc)) :: (4, .ref 68 g1 0) :: (5, .ref 69 g2 0) :: (7, .ref 71 g3 0) :: (8, .ref 72 g4 0) :: T, (75, some (g0, .cells (bb w x zeroA).enc)) :: (68, some (g1, .cells ap.enc)) :: (69, some (g2, .cells ap.enc)) :: (71, some (g3, .cells ap.enc)) :: (72, some (g4, .cells (bc 3 1 []).enc)) :: H, c⟩, [.cell 4 (some 27), .cell 5 (some 27), .t 6], 0⟩ ⟨.tup [.agg ap.enc, .agg (bc 3 1 []).enc, .int .i64 e], []⟩ := by
 have hbl := au oq
 have hxl : (x.map Pfx.enc).length = x.length := by simp
 by_cases hp : 0 < n
 ·refine wk3 ?_
  repeat' (first | refine ab ?_ | refine ox ?_ | (refine aa ?_ ?_ <;> intro h))
  refine ax ?_
  repeat ((conv => whnf); refine frB ?_)
  rfl
 ·have h0 : 0 < x.length := by omega
  refine wk3 ?_
  repeat' (first | refine ab ?_ | refine ox ?_ | (refine aa ?_ ?_ <;> intro h))
  refine ax ?_
  repeat ((conv => whnf); refine frB ?_)
  rfl
theorem atj (oq a : List UInt8) (w : List Pfx) (su n : Nat) (wide : Bool) (hb : oq.length < 2 ^ 38) (hs : 23 + su + n ≤ oq.length) (hp : 0 < n) (y : Attrs) (hd : ah G 71 [.sl 1 (List.take ((23 + (su : Int) + (n : Int)).toNat - (23 + (su : Int)).toNat) (List.drop (23 + (su : Int)).toNat (byteCells oq))), .bool wide] [] ⟨.tup [.agg y.enc, .int .i64 0], []⟩) (g0 g1 g2 g3 g4 : Nat) (T : List (Nat × AV)) (H : aq) (c : Nat) : Ev G ⟨[.code (suf 13 a8.body)], ⟨(11, .ref 75 g0 0) :: (0, .sl 1 (byteCells oq)) :: (1, .bool wide) :: (9, .int .i64 (su : Nat)) :: (10, .int .i64 (n : Nat)) :: (14, .sl 2 (([] : List Pfx).map Pfx.enc)) :: (4, .ref 68 g1 0) :: (5, .ref 69 g2 0) :: (7, .ref 71 g3 0) :: (8, .ref 72 g4 0) :: T, (75, some (g0, .cells (bb w [] zeroA).enc)) :: (68, some (g1, .cells ap.enc)) :: (69, some (g2, .cells ap.enc)) :: (71, some (g3, .cells ap.enc)) :: (72, some (g4, .cells (bc 3 1 []).enc)) :: H, c⟩, [.cell 4 (some 27), .cell 5 (some 27), .t 6], 0⟩ ⟨.tup [.agg ap.enc, .agg (bc 3 1 []).enc, .int .i64 2], []⟩ := by
 have hbl := au oq
 refine wk3 ?_
 repeat' (first | refine ab ?_ | refine ox ?_ | (refine aa ?_ ?_ <;> intro h))
 refine ax ?_
 repeat ((conv => whnf); refine frB ?_)
 rfl
theorem ati (oq a : List UInt8) (w x : List Pfx) (su n : Nat) (wide : Bool) (hb : oq.length < 2 ^ 38) (hs : 23 + su + n ≤ oq.length) (hx : x.length < 2 ^ 38) (hpx : 0 < x.length) (y : Attrs) (hd : ah G 71 [.sl 1 (List.take ((23 + (su : Int) + (n : Int)).toNat - (23 + (su : Int)).toNat) (List.drop (23 + (su : Int)).toNat (byteCells oq))), .bool wide] [] ⟨.tup [.agg y.enc, .int .i64 0], []⟩) (hc : ah G 148 [.agg (bb w x y).enc] [] ⟨.int .i64 (bh (bb w x y)), []⟩) (g0 g1 g2 g3 g4 : Nat) (T : List (Nat × AV)) (H : aq) (c : Nat) : Ev G ⟨[.code (suf 13 a8.body)], ⟨(11, .ref 75 g0 0) :: (0, .sl 1 (byteCells oq)) :: (1, .bool wide) :: (9, .int .i64 (su : Nat)) :: (10, .int .i64 (n : Nat)) :: (14, .sl 2 (x.map Pfx.enc)) :: (4, .ref 68 g1 0) :: (5, .ref 69 g2 0) :: (7, .ref 71 g3 0) :: (8, .ref 72 g4 0) :: T, (75, some (g0, .cells (bb w x zeroA).enc)) :: (68, some (g1, .cells ap.enc)) :: (69, some (g2, .cells ap.enc)) :: (71, some (g3, .cells ap.enc)) :: (72, some (g4, .cells (bc 3 1 []).enc)) :: H, c⟩, [.cell 4 (some 27), .cell 5 (some 27), .t 6], 0⟩ (nu (qg (bb w x y))) := by
 have hbl := au oq
 have hxl : (x.map Pfx.enc).length = x.length := by simp
 have hxz : ¬ (((x.map Pfx.enc).length : Int) = 0) := by omega
 by_cases hp : 0 < n
 ·refine aG (b := suf 14 a8.body) ?_
  refine wd1 ?_
  repeat' (first | refine ab ?_ | refine ox ?_ | (refine aa ?_ ?_ <;> intro h))
  refine ag [11, 4, 5, 7, 8] [75, 68, 69, 71, 72] ?_
  exact E8 _ _ _ _ _ _ _ _ _ hc
 ·refine aG (b := suf 14 a8.body) ?_
  refine wd1 ?_
  repeat' (first | refine ab ?_ | refine ox ?_ | (refine aa ?_ ?_ <;> intro h))
  refine ag [11, 4, 5, 7, 8] [75, 68, 69, 71, 72] ?_
  exact E8 _ _ _ _ _ _ _ _ _ hc
theorem auH (oq : List UInt8) (hb : oq.length < 2 ^ 28) (h23 : 23 ≤ oq.length) (wide : Bool) (su : Nat) (hwn : su = rd ((oq.drop 19).take 2)) (h1 : oq.length < 23 + su) : ah G 363 [.sl 1 (byteCells oq), .bool wide] [] ⟨.tup [.agg ap.enc, .agg (bc 3 1 []).enc, .int .i64 2], []⟩ := by
 have hbl := au oq
 have hw16 : su < 256 ^ 2 := by rw [hwn]; exact cn (by rw [List.length_take]; omega)
 have n1 : ah G 360 [.sl 1 (byteCells oq), .int .i64 19, .int .i64 2] [] ⟨.int .i64 (su : Nat), []⟩ := by rw [hwn]; exact a9 oq (by omega) 19 2 (by omega) (by omega) (by omega) (by omega)
 have h6 : ah G 359 [.int .i64 3, .int .i64 1, .con (.slice none 0 0)] [] ⟨.agg (bc 3 1 []).enc, []⟩ := b7 3 1
 clear hwn
 refine ae (F := a8) rfl rfl ?_
 refine aG (b := suf 1 a8.body) ?_
 refine wd1 ?_
 repeat' (first | refine ab ?_ | (refine aa ?_ ?_ <;> intro h))
 refine aG (b := suf 2 a8.body) ?_
 refine wd1 ?_
 repeat' (first | refine ab ?_ | (refine aa ?_ ?_ <;> intro h))
 refine aG (b := suf 3 a8.body) ?_
 refine wd1 ?_
 repeat' (first | refine ab ?_ | (refine aa ?_ ?_ <;> intro h))
 refine bm [] [(68, some (_, .cells ap.enc)), (69, some (_, .cells ap.enc)), (71, some (_, .cells ap.enc))] trivial ⟨⟨rfl, leA⟩, ⟨rfl, .refl _, .refl _, .refl _, .refl _, .refl _, LeP.nil 2, LeP.nil 2, .refl _, LeP.nil 2, .refl _, .refl _, .refl _, .refl _, .refl _, .refl _, .refl _, .refl _, .refl _, LeP.nil 1, .refl _, .refl _, LeP.nil 1, LeP.nil 2, LeP.nil 2, .refl _, .refl _, LeP.nil 1, trivial⟩, ⟨rfl, .refl _, .refl _, .refl _, .refl _, .refl _, LeP.nil 2, LeP.nil 2, .refl _, LeP.nil 2, .refl _, .refl _, .refl _, .refl _, .refl _, .refl _, .refl _, .refl _, .refl _, LeP.nil 1, .refl _, .refl _, LeP.nil 1, LeP.nil 2, LeP.nil 2, .refl _, .refl _, LeP.nil 1, trivial⟩, trivial⟩ ?_
 refine wk3 ?_
 repeat' (first | refine ab ?_ | (refine aa ?_ ?_ <;> intro h))
 refine ax ?_
 repeat ((conv => whnf); refine frB ?_)
 rfl
theorem auG (oq : List UInt8) (hb : oq.length < 2 ^ 28) (h23 : 23 ≤ oq.length) (wide : Bool) (su : Nat) (hwn : su = rd ((oq.drop 19).take 2)) (h1 : 23 + su ≤ oq.length) (n : Nat) (hn : n = rd ((oq.drop (21 + su)).take 2)) (h2 : oq.length < 23 + su + n) : ah G 363 [.sl 1 (byteCells oq), .bool wide] [] ⟨.tup [.agg ap.enc, .agg (bc 3 1 []).enc, .int .i64 2], []⟩ := by
 have hbl := au oq
 have hw16 : su < 256 ^ 2 := by rw [hwn]; exact cn (by rw [List.length_take]; omega)
 have n1 : ah G 360 [.sl 1 (byteCells oq), .int .i64 19, .int .i64 2] [] ⟨.int .i64 (su : Nat), []⟩ := by rw [hwn]; exact a9 oq (by omega) 19 2 (by omega) (by omega) (by omega) (by omega)
 have hn16 : n < 256 ^ 2 := by rw [hn]; exact cn (by rw [List.length_take]; omega)
 have n2 : ah G 360 [.sl 1 (byteCells oq), .int .i64 (21 + (su : Int)), .int .i64 2] [] ⟨.int .i64 (n : Nat), []⟩ := by
  have := a9 oq (by omega) (21 + (su : Int)) 2 (by omega) (by omega) (by omega) (by omega)
  rw [show (21 + (su : Int)).toNat = 21 + su from by omega] at this
  rw [hn]; exact this
 have h6 : ah G 359 [.int .i64 3, .int .i64 1, .con (.slice none 0 0)] [] ⟨.agg (bc 3 1 []).enc, []⟩ := b7 3 1
 clear hwn hn
 refine ae (F := a8) rfl rfl ?_
 refine aG (b := suf 1 a8.body) ?_
 refine wd1 ?_
 repeat' (first | refine ab ?_ | (refine aa ?_ ?_ <;> intro h))
 refine aG (b := suf 2 a8.body) ?_
 refine wd1 ?_
 repeat' (first | refine ab ?_ | (refine aa ?_ ?_ <;> intro h))
 refine aG (b := suf 3 a8.body) ?_
 refine wd1 ?_
 repeat' (first | refine ab ?_ | (refine aa ?_ ?_ <;> intro h))
 refine bm [] [(68, some (_, .cells ap.enc)), (69, some (_, .cells ap.enc)), (71, some (_, .cells ap.enc))] trivial ⟨⟨rfl, leA⟩, ⟨rfl, .refl _, .refl _, .refl _, .refl _, .refl _, LeP.nil 2, LeP.nil 2, .refl _, LeP.nil 2, .refl _, .refl _, .refl _, .refl _, .refl _, .refl _, .refl _, .refl _, .refl _, LeP.nil 1, .refl _, .refl _, LeP.nil 1, LeP.nil 2, LeP.nil 2, .refl _, .refl _, LeP.nil 1, trivial⟩, ⟨rfl, .refl _, .refl _, .refl _, .refl _, .refl _, LeP.nil 2, LeP.nil 2, .refl _, LeP.nil 2, .refl _, .refl _, .refl _, .refl _, .refl _, .refl _, .refl _, .refl _, .refl _, LeP.nil 1, .refl _, .refl _, LeP.nil 1, LeP.nil 2, LeP.nil 2, .refl _, .refl _, LeP.nil 1, trivial⟩, trivial⟩ ?_
 refine wk3 ?_
 repeat' (first | refine ab ?_ | (refine aa ?_ ?_ <;> intro h))
 refine ax ?_
 repeat ((conv => whnf); refine frB ?_)
 rfl
theorem ath (oq : List UInt8) (hb : oq.length < 2 ^ 28) (h23 : 23 ≤ oq.length) (wide : Bool) (su : Nat) (hwn : su = rd ((oq.drop 19).take 2)) (h1 : 23 + su ≤ oq.length) (n : Nat) (hn : n = rd ((oq.drop (21 + su)).take 2)) (h2 : 23 + su + n ≤ oq.length) (u1 : ah G 367 [.sl 1 (List.take ((21 + (su : Int)).toNat - Int.toNat 21) (List.drop (Int.toNat 21) (byteCells oq)))] [] ⟨.tup [.con (.slice none 0 0), .bool false], []⟩) (q : Option (List Pfx)) (u2 : ah G 367 [.sl 1 (List.take ((byteCells oq).length - (23 + (su : Int) + (n : Int)).toNat) (List.drop (23 + (su : Int) + (n : Int)).toNat (byteCells oq)))] [] (unR q)) : ah G 363 [.sl 1 (byteCells oq), .bool wide] [] ⟨.tup [.agg ap.enc, .agg (bc 3 10 []).enc, .int .i64 2], []⟩ := by
 have hbl := au oq
 have hw16 : su < 256 ^ 2 := by rw [hwn]; exact cn (by rw [List.length_take]; omega)
 have n1 : ah G 360 [.sl 1 (byteCells oq), .int .i64 19, .int .i64 2] [] ⟨.int .i64 (su : Nat), []⟩ := by rw [hwn]; exact a9 oq (by omega) 19 2 (by omega) (by omega) (by omega) (by omega)
 have hn16 : n < 256 ^ 2 := by rw [hn]; exact cn (by rw [List.length_take]; omega)
 have n2 : ah G 360 [.sl 1 (byteCells oq), .int .i64 (21 + (su : Int)), .int .i64 2] [] ⟨.int .i64 (n : Nat), []⟩ := by
  have := a9 oq (by omega) (21 + (su : Int)) 2 (by omega) (by omega) (by omega) (by omega)
  rw [show (21 + (su : Int)).toNat = 21 + su from by omega] at this
  rw [hn]; exact this
 have h7 : ah G 359 [.int .i64 3, .int .i64 10, .con (.slice none 0 0)] [] ⟨.agg (bc 3 10 []).enc, []⟩ := b7 3 10
 have h6 : ah G 359 [.int .i64 3, .int .i64 1, .con (.slice none 0 0)] [] ⟨.agg (bc 3 1 []).enc, []⟩ := b7 3 1
 clear hwn hn
 cases q with
 | none =>
  have u3 : ah G 367 [.sl 1 (List.take ((byteCells oq).length - (23 + (su : Int) + (n : Int)).toNat) (List.drop (23 + (su : Int) + (n : Int)).toNat (byteCells oq)))] [] ⟨.tup [.con (.slice none 0 0), .bool false], []⟩ := u2
  clear u2
  refine ae (F := a8) rfl rfl ?_
  refine aG (b := suf 1 a8.body) ?_
  refine wd1 ?_
  repeat' (first | refine ab ?_ | (refine aa ?_ ?_ <;> intro h))
  refine aG (b := suf 2 a8.body) ?_
  refine wd1 ?_
  repeat' (first | refine ab ?_ | (refine aa ?_ ?_ <;> intro h))
  refine aG (b := suf 3 a8.body) ?_
  refine wd1 ?_
  repeat' (first | refine ab ?_ | (refine aa ?_ ?_ <;> intro h))
  refine bm [] [(68, some (_, .cells ap.enc)), (69, some (_, .cells ap.enc)), (71, some (_, .cells ap.enc))] trivial ⟨⟨rfl, leA⟩, ⟨rfl, .refl _, .refl _, .refl _, .refl _, .refl _, LeP.nil 2, LeP.nil 2, .refl _, LeP.nil 2, .refl _, .refl _, .refl _, .refl _, .refl _, .refl _, .refl _, .refl _, .refl _, LeP.nil 1, .refl _, .refl _, LeP.nil 1, LeP.nil 2, LeP.nil 2, .refl _, .refl _, LeP.nil 1, trivial⟩, ⟨rfl, .refl _, .refl _, .refl _, .refl _, .refl _, LeP.nil 2, LeP.nil 2, .refl _, LeP.nil 2, .refl _, .refl _, .refl _, .refl _, .refl _, .refl _, .refl _, .refl _, .refl _, LeP.nil 1, .refl _, .refl _, LeP.nil 1, LeP.nil 2, LeP.nil 2, .refl _, .refl _, LeP.nil 1, trivial⟩, trivial⟩ ?_
  refine wk3 ?_
  repeat' (first | refine ab ?_ | refine ox ?_ | (refine aa ?_ ?_ <;> intro h))
  refine ax ?_
  repeat ((conv => whnf); refine frB ?_)
  rfl
 | some l =>
  have u3 : ah G 367 [.sl 1 (List.take ((byteCells oq).length - (23 + (su : Int) + (n : Int)).toNat) (List.drop (23 + (su : Int) + (n : Int)).toNat (byteCells oq)))] [] ⟨.tup [.sl 2 (l.map Pfx.enc), .bool true], []⟩ := u2
  clear u2
  refine ae (F := a8) rfl rfl ?_
  refine aG (b := suf 1 a8.body) ?_
  refine wd1 ?_
  repeat' (first | refine ab ?_ | (refine aa ?_ ?_ <;> intro h))
  refine aG (b := suf 2 a8.body) ?_
  refine wd1 ?_
  repeat' (first | refine ab ?_ | (refine aa ?_ ?_ <;> intro h))
  refine aG (b := suf 3 a8.body) ?_
  refine wd1 ?_
  repeat' (first | refine ab ?_ | (refine aa ?_ ?_ <;> intro h))
  refine bm [] [(68, some (_, .cells ap.enc)), (69, some (_, .cells ap.enc)), (71, some (_, .cells ap.enc))] trivial ⟨⟨rfl, leA⟩, ⟨rfl, .refl _, .refl _, .refl _, .refl _, .refl _, LeP.nil 2, LeP.nil 2, .refl _, LeP.nil 2, .refl _, .refl _, .refl _, .refl _, .refl _, .refl _, .refl _, .refl _, .refl _, LeP.nil 1, .refl _, .refl _, LeP.nil 1, LeP.nil 2, LeP.nil 2, .refl _, .refl _, LeP.nil 1, trivial⟩, ⟨rfl, .refl _, .refl _, .refl _, .refl _, .refl _, LeP.nil 2, LeP.nil 2, .refl _, LeP.nil 2, .refl _, .refl _, .refl _, .refl _, .refl _, .refl _, .refl _, .refl _, .refl _, LeP.nil 1, .refl _, .refl _, LeP.nil 1, LeP.nil 2, LeP.nil 2, .refl _, .refl _, LeP.nil 1, trivial⟩, trivial⟩ ?_
  refine wk3 ?_
  repeat' (first | refine ab ?_ | refine ox ?_ | (refine aa ?_ ?_ <;> intro h))
  refine ax ?_
  repeat ((conv => whnf); refine frB ?_)
  rfl
theorem atg (oq : List UInt8) (hb : oq.length < 2 ^ 28) (h23 : 23 ≤ oq.length) (wide : Bool) (su : Nat) (hwn : su = rd ((oq.drop 19).take 2)) (h1 : 23 + su ≤ oq.length) (n : Nat) (hn : n = rd ((oq.drop (21 + su)).take 2)) (h2 : 23 + su + n ≤ oq.length) (w : List Pfx) (u1 : ah G 367 [.sl 1 (List.take ((21 + (su : Int)).toNat - Int.toNat 21) (List.drop (Int.toNat 21) (byteCells oq)))] [] ⟨.tup [.sl 2 (w.map Pfx.enc), .bool true], []⟩) (u2 : ah G 367 [.sl 1 (List.take ((byteCells oq).length - (23 + (su : Int) + (n : Int)).toNat) (List.drop (23 + (su : Int) + (n : Int)).toNat (byteCells oq)))] [] ⟨.tup [.con (.slice none 0 0), .bool false], []⟩) : ah G 363 [.sl 1 (byteCells oq), .bool wide] [] ⟨.tup [.agg ap.enc, .agg (bc 3 10 []).enc, .int .i64 2], []⟩ := by
 have hbl := au oq
 have hw16 : su < 256 ^ 2 := by rw [hwn]; exact cn (by rw [List.length_take]; omega)
 have n1 : ah G 360 [.sl 1 (byteCells oq), .int .i64 19, .int .i64 2] [] ⟨.int .i64 (su : Nat), []⟩ := by rw [hwn]; exact a9 oq (by omega) 19 2 (by omega) (by omega) (by omega) (by omega)
 have hn16 : n < 256 ^ 2 := by rw [hn]; exact cn (by rw [List.length_take]; omega)
 have n2 : ah G 360 [.sl 1 (byteCells oq), .int .i64 (21 + (su : Int)), .int .i64 2] [] ⟨.int .i64 (n : Nat), []⟩ := by
  have := a9 oq (by omega) (21 + (su : Int)) 2 (by omega) (by omega) (by omega) (by omega)
  rw [show (21 + (su : Int)).toNat = 21 + su from by omega] at this
  rw [hn]; exact this
 have h7 : ah G 359 [.int .i64 3, .int .i64 10, .con (.slice none 0 0)] [] ⟨.agg (bc 3 10 []).enc, []⟩ := b7 3 10
 have h6 : ah G 359 [.int .i64 3, .int .i64 1, .con (.slice none 0 0)] [] ⟨.agg (bc 3 1 []).enc, []⟩ := b7 3 1
 clear hwn hn
 refine ae (F := a8) rfl rfl ?_
 refine aG (b := suf 1 a8.body) ?_
 refine wd1 ?_
 repeat' (first | refine ab ?_ | (refine aa ?_ ?_ <;> intro h))
 refine aG (b := suf 2 a8.body) ?_
 refine wd1 ?_
 repeat' (first | refine ab ?_ | (refine aa ?_ ?_ <;> intro h))
 refine aG (b := suf 3 a8.body) ?_
 refine wd1 ?_
 repeat' (first | refine ab ?_ | (refine aa ?_ ?_ <;> intro h))
 refine bm [] [(68, some (_, .cells ap.enc)), (69, some (_, .cells ap.enc)), (71, some (_, .cells ap.enc))] trivial ⟨⟨rfl, leA⟩, ⟨rfl, .refl _, .refl _, .refl _, .refl _, .refl _, LeP.nil 2, LeP.nil 2, .refl _, LeP.nil 2, .refl _, .refl _, .refl _, .refl _, .refl _, .refl _, .refl _, .refl _, .refl _, LeP.nil 1, .refl _, .refl _, LeP.nil 1, LeP.nil 2, LeP.nil 2, .refl _, .refl _, LeP.nil 1, trivial⟩, ⟨rfl, .refl _, .refl _, .refl _, .refl _, .refl _, LeP.nil 2, LeP.nil 2, .refl _, LeP.nil 2, .refl _, .refl _, .refl _, .refl _, .refl _, .refl _, .refl _, .refl _, .refl _, LeP.nil 1, .refl _, .refl _, LeP.nil 1, LeP.nil 2, LeP.nil 2, .refl _, .refl _, LeP.nil 1, trivial⟩, trivial⟩ ?_
 refine wk3 ?_
 repeat' (first | refine ab ?_ | refine ox ?_ | (refine aa ?_ ?_ <;> intro h))
 refine ax ?_
 repeat ((conv => whnf); refine frB ?_)
 rfl
theorem auF (oq : List UInt8) (hb : oq.length < 2 ^ 28) (h23 : 23 ≤ oq.length) (wide : Bool) (su : Nat) (hwn : su = rd ((oq.drop 19).take 2)) (h1 : 23 + su ≤ oq.length) (n : Nat) (hn : n = rd ((oq.drop (21 + su)).take 2)) (h2 : 23 + su + n ≤ oq.length) (w x : List Pfx) (u1 : ah G 367 [.sl 1 (List.take ((21 + (su : Int)).toNat - Int.toNat 21) (List.drop (Int.toNat 21) (byteCells oq)))] [] ⟨.tup [.sl 2 (w.map Pfx.enc), .bool true], []⟩) (u2 : ah G 367 [.sl 1 (List.take ((byteCells oq).length - (23 + (su : Int) + (n : Int)).toNat) (List.drop (23 + (su : Int) + (n : Int)).toNat (byteCells oq)))] [] ⟨.tup [.sl 2 (x.map Pfx.enc), .bool true], []⟩) (t : Ret) (K : ∀ (g0 g1 g2 g3 g4 : Nat) (T : List (Nat × AV)) (H : aq) (c : Nat), Ev G ⟨[.code (suf 13 a8.body)], ⟨(11, .ref 75 g0 0) :: (0, .sl 1 (byteCells oq)) :: (1, .bool wide) :: (9, .int .i64 (su : Nat)) :: (10, .int .i64 (n : Nat)) :: (14, .sl 2 (x.map Pfx.enc)) :: (4, .ref 68 g1 0) :: (5, .ref 69 g2 0) :: (7, .ref 71 g3 0) :: (8, .ref 72 g4 0) :: T, (75, some (g0, .cells (bb w x zeroA).enc)) :: (68, some (g1, .cells ap.enc)) :: (69, some (g2, .cells ap.enc)) :: (71, some (g3, .cells ap.enc)) :: (72, some (g4, .cells (bc 3 1 []).enc)) :: H, c⟩, [.cell 4 (some 27), .cell 5 (some 27), .t 6], 0⟩ t) : ah G 363 [.sl 1 (byteCells oq), .bool wide] [] t := by
 have hbl := au oq
 have hw16 : su < 256 ^ 2 := by rw [hwn]; exact cn (by rw [List.length_take]; omega)
 have n1 : ah G 360 [.sl 1 (byteCells oq), .int .i64 19, .int .i64 2] [] ⟨.int .i64 (su : Nat), []⟩ := by rw [hwn]; exact a9 oq (by omega) 19 2 (by omega) (by omega) (by omega) (by omega)
 have hn16 : n < 256 ^ 2 := by rw [hn]; exact cn (by rw [List.length_take]; omega)
 have n2 : ah G 360 [.sl 1 (byteCells oq), .int .i64 (21 + (su : Int)), .int .i64 2] [] ⟨.int .i64 (n : Nat), []⟩ := by
  have := a9 oq (by omega) (21 + (su : Int)) 2 (by omega) (by omega) (by omega) (by omega)
  rw [show (21 + (su : Int)).toNat = 21 + su from by omega] at this
  rw [hn]; exact this
 have h6 : ah G 359 [.int .i64 3, .int .i64 1, .con (.slice none 0 0)] [] ⟨.agg (bc 3 1 []).enc, []⟩ := b7 3 1
 clear hwn hn
 refine ae (F := a8) rfl rfl ?_
 refine aG (b := suf 1 a8.body) ?_
 refine wd1 ?_
 repeat' (first | refine ab ?_ | (refine aa ?_ ?_ <;> intro h))
 refine aG (b := suf 2 a8.body) ?_
 refine wd1 ?_
 repeat' (first | refine ab ?_ | (refine aa ?_ ?_ <;> intro h))
 refine aG (b := suf 3 a8.body) ?_
 refine wd1 ?_
 repeat' (first | refine ab ?_ | (refine aa ?_ ?_ <;> intro h))
 refine bm [] [(68, some (_, .cells ap.enc)), (69, some (_, .cells ap.enc)), (71, some (_, .cells ap.enc))] trivial ⟨⟨rfl, leA⟩, ⟨rfl, .refl _, .refl _, .refl _, .refl _, .refl _, LeP.nil 2, LeP.nil 2, .refl _, LeP.nil 2, .refl _, .refl _, .refl _, .refl _, .refl _, .refl _, .refl _, .refl _, .refl _, LeP.nil 1, .refl _, .refl _, LeP.nil 1, LeP.nil 2, LeP.nil 2, .refl _, .refl _, LeP.nil 1, trivial⟩, ⟨rfl, .refl _, .refl _, .refl _, .refl _, .refl _, LeP.nil 2, LeP.nil 2, .refl _, LeP.nil 2, .refl _, .refl _, .refl _, .refl _, .refl _, .refl _, .refl _, .refl _, .refl _, LeP.nil 1, .refl _, .refl _, LeP.nil 1, LeP.nil 2, LeP.nil 2, .refl _, .refl _, LeP.nil 1, trivial⟩, trivial⟩ ?_
 refine aG (b := suf 4 a8.body) ?_
 refine wd1 ?_
 repeat' (first | refine ab ?_ | refine ox ?_ | (refine aa ?_ ?_ <;> intro h))
 refine aG (b := suf 5 a8.body) ?_
 refine wd1 ?_
 repeat' (first | refine ab ?_ | refine ox ?_ | (refine aa ?_ ?_ <;> intro h))
 refine aG (b := suf 6 a8.body) ?_
 refine wd1 ?_
 repeat' (first | refine ab ?_ | refine ox ?_ | (refine aa ?_ ?_ <;> intro h))
 refine aG (b := suf 7 a8.body) ?_
 refine wd1 ?_
 repeat' (first | refine ab ?_ | refine ox ?_ | (refine aa ?_ ?_ <;> intro h))
 refine aG (b := suf 8 a8.body) ?_
 refine wd1 ?_
 repeat' (first | refine ab ?_ | refine ox ?_ | (refine aa ?_ ?_ <;> intro h))
 refine aG (b := suf 9 a8.body) ?_
 refine wd1 ?_
 repeat' (first | refine ab ?_ | refine ox ?_ | (refine aa ?_ ?_ <;> intro h))
 refine aG (b := suf 10 a8.body) ?_
 refine wd1 ?_
 repeat' (first | refine ab ?_ | refine ox ?_ | (refine aa ?_ ?_ <;> intro h))
 refine aG (b := suf 11 a8.body) ?_
 refine wd1 ?_
 repeat' (first | refine ab ?_ | refine ox ?_ | (refine aa ?_ ?_ <;> intro h))
 refine aG (b := suf 12 a8.body) ?_
 refine wd1 ?_
 repeat' (first | refine ab ?_ | refine ox ?_ | (refine aa ?_ ?_ <;> intro h))
 refine aG (b := suf 13 a8.body) ?_
 refine wd1 ?_
 repeat' (first | refine ab ?_ | refine ox ?_ | (refine aa ?_ ?_ <;> intro h))
 refine bm [] [(75, some (_, .cells (bb w x zeroA).enc))] trivial ⟨⟨rfl, leA⟩, trivial⟩ ?_
 refine ag [11, 0, 1, 9, 10, 14, 4, 5, 7, 8] [75, 68, 69, 71, 72] ?_
 exact K _ _ _ _ _ _ _ _
end Go.AM.IR
namespace Go.AM.IR
def l8 (m : Nat → Bool) : List AV := (List.range 256).map fun i => .bool (m i)
theorem b8 {K : Eff → Prop} {n s g key kk ph o : Nat} {x i : Opd} {j : Int} {q : IntKind} {hg : Nat → Option (Nat × Blk)} (hk : K { res := .ref kk ph (o + j.toNat * s) }) (h1 : 0 ≤ j := by omega) (h2 : j.toNat < n := by omega) : ∃ e, aQ (.iarr n s x i) g key [.ref kk ph o, .int q j] hg = some e ∧ K e :=
 ⟨_, by simp only [aQ, if_pos (And.intro h1 h2)], hk⟩
@[simp] theorem awV (m : Nat → Bool) : (l8 m).length = 256 := by simp [l8]
theorem x5 (m : Nat → Bool) (k : Nat) : (l8 m).set k (.bool true) = l8 (b9 m k) := by
 apply List.ext_getElem?
 intro i
 unfold l8 b9
 rw [List.getElem?_set]
 by_cases h : k = i
 ·subst h
  by_cases h2 : k < 256 <;> simp [h2]
 ·rw [if_neg h]
  by_cases h2 : i < 256
  ·simp [h2, Ne.symm h]
  ·simp [h2]
theorem ask (k : Int) (h0 : 0 ≤ k) : ah G 102 [.int .i64 k] [] ⟨.int .i64 ((bx k).toNat : Int), []⟩ := by
 by_cases h : k > 10
 ·rw [show bx k = 224 from by simp [bx, h]]
  refine ae (F := JL) rfl rfl (az 300 _ _ _ _ ?_)
  repeat' (first | refine ab ?_ | (refine aa ?_ ?_ <;> intro h))
  all_goals (refine ax ?_; rfl)
 ·have h2 : k = 0 ∨ k = 1 ∨ k = 2 ∨ k = 3 ∨ k = 4 ∨ k = 5 ∨ k = 6 ∨ k = 7 ∨ k = 8 ∨ k = 9 ∨ k = 10 := by omega
  rcases h2 with rfl | rfl | rfl | rfl | rfl | rfl | rfl | rfl | rfl | rfl | rfl
  all_goals
   refine ae (F := JL) rfl rfl (az 300 _ _ _ _ ?_)
   repeat' (first | refine ab ?_ | (refine aa ?_ ?_ <;> intro h))
   all_goals (refine ax ?_; rfl)
theorem jT (k : UInt8) : ah G 102 [.int .i64 (k.toNat : Int)] [] ⟨.int .i64 ((bx (k.toNat : Int)).toNat : Int), []⟩ := ask _ (by omega)
end Go.AM.IR
