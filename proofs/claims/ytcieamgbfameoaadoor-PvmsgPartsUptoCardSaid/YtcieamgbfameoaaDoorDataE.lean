/- What the functions of this program give, on the abstract machine. -/
import Derived.Test.YtcieamgbfameoaaDoorDataD
import Derived.Test.YtcieamgbfameoaaDoorDataA
import Derived.Test.YtcieamgbfameoaaDoorDataC
import Derived.Test.YtcieamgbfameoaaDoorMachineC
set_option linter.unusedVariables false
set_option linter.unusedSimpArgs false
set_option maxHeartbeats 4000000
set_option maxRecDepth 20000
namespace Go.AM.IR
theorem updU_f1 (a p q : List UInt8) (wide : Bool) (g1 g2 g3 g4 : Nat) (T : List (Nat × AV)) (H : Heap) (c : Nat) (rp : List UInt8) (lp : List Pfx) (h1 : Gives G 210 [.ref 0 0 0] [.cells [.sl 1 (byteCells p), .con (.slice none 0 0)]] ⟨.bool false, [(true, .cells [.sl 1 (byteCells rp), .vs 1 0 lp.length]), (false, .vec 2 (lp.map Pfx.enc))]⟩) : Ev G ⟨[.code (suf 9 f201.body)], ⟨(9, .ref 97 g1 0) :: (11, .ref 113 g2 0) :: (10, .sl 1 (byteCells a)) :: (1, .bool wide) :: (4, .ref 68 g3 0) :: (5, .ref 69 g4 0) :: T, (97, some (g1, .cells [.sl 1 (byteCells p), .con (.slice none 0 0)])) :: (113, some (g2, .cells [.sl 1 (byteCells q), .con (.slice none 0 0)])) :: (68, some (g3, .cells zeroM.enc)) :: (69, some (g4, .cells zeroM.enc)) :: H, c⟩, [.cell 4 (some 27), .cell 5 (some 27), .t 6], 0⟩ ⟨.tup [.agg zeroM.enc, .agg (noteM 3 10 []).enc, .int .i64 2], []⟩ := by
  have h6 : Gives G 198 [.int .i64 3, .int .i64 10, .con (.slice none 0 0)] [] ⟨.agg (noteM 3 10 []).enc, []⟩ := notify198n 3 10
  refine W_ok 300 _ _ _ _ ?_
  repeat' (first | refine stpA ?_ | refine kX [(97, _, _)] [] ⟨rfl, trivial⟩ trivial (h1) ?_ | (refine condS ?_ ?_ <;> intro h))
  refine ev_le [] [(68, some (_, .cells zeroM.enc))] trivial ⟨⟨rfl, .refl _, .refl _, .refl _, .refl _, .refl _, LeP.nil 2, LeP.nil 2, .refl _, LeP.nil 2, .refl _, .refl _, .refl _, .refl _, .refl _, .refl _, .refl _, .refl _, .refl _, LeP.nil 1, .refl _, .refl _, LeP.nil 1, LeP.nil 2, LeP.nil 2, .refl _, .refl _, LeP.nil 1, trivial⟩, trivial⟩ ?_
  (first | refine fin1 ?_ | refine fin0 ?_)
  repeat ((conv => whnf); refine And.intro (by first | rfl | (simp [AV.pure, pureL]; done) | fail) ?_)
  rfl
theorem updU_f2 (a p q : List UInt8) (wide : Bool) (g1 g2 g3 g4 : Nat) (T : List (Nat × AV)) (H : Heap) (c : Nat) (rp rq : List UInt8) (lp lq : List Pfx) (h1 : Gives G 210 [.ref 0 0 0] [.cells [.sl 1 (byteCells p), .con (.slice none 0 0)]] ⟨.bool true, [(true, .cells [.sl 1 (byteCells rp), .vs 1 0 lp.length]), (false, .vec 2 (lp.map Pfx.enc))]⟩) (h2 : Gives G 210 [.ref 0 0 0] [.cells [.sl 1 (byteCells q), .con (.slice none 0 0)]] ⟨.bool false, [(true, .cells [.sl 1 (byteCells rq), .vs 1 0 lq.length]), (false, .vec 2 (lq.map Pfx.enc))]⟩) : Ev G ⟨[.code (suf 9 f201.body)], ⟨(9, .ref 97 g1 0) :: (11, .ref 113 g2 0) :: (10, .sl 1 (byteCells a)) :: (1, .bool wide) :: (4, .ref 68 g3 0) :: (5, .ref 69 g4 0) :: T, (97, some (g1, .cells [.sl 1 (byteCells p), .con (.slice none 0 0)])) :: (113, some (g2, .cells [.sl 1 (byteCells q), .con (.slice none 0 0)])) :: (68, some (g3, .cells zeroM.enc)) :: (69, some (g4, .cells zeroM.enc)) :: H, c⟩, [.cell 4 (some 27), .cell 5 (some 27), .t 6], 0⟩ ⟨.tup [.agg zeroM.enc, .agg (noteM 3 10 []).enc, .int .i64 2], []⟩ := by
  have h6 : Gives G 198 [.int .i64 3, .int .i64 10, .con (.slice none 0 0)] [] ⟨.agg (noteM 3 10 []).enc, []⟩ := notify198n 3 10
  refine W_ok 300 _ _ _ _ ?_
  repeat' (first | refine stpA ?_ | refine kX [(97, _, _)] [] ⟨rfl, trivial⟩ trivial (h1) ?_ | refine kX [(113, _, _)] [] ⟨rfl, trivial⟩ trivial (h2) ?_ | (refine condS ?_ ?_ <;> intro h))
  refine ev_le [] [(68, some (_, .cells zeroM.enc))] trivial ⟨⟨rfl, .refl _, .refl _, .refl _, .refl _, .refl _, LeP.nil 2, LeP.nil 2, .refl _, LeP.nil 2, .refl _, .refl _, .refl _, .refl _, .refl _, .refl _, .refl _, .refl _, .refl _, LeP.nil 1, .refl _, .refl _, LeP.nil 1, LeP.nil 2, LeP.nil 2, .refl _, .refl _, LeP.nil 1, trivial⟩, trivial⟩ ?_
  (first | refine fin1 ?_ | refine fin0 ?_)
  repeat ((conv => whnf); refine And.intro (by first | rfl | (simp [AV.pure, pureL]; done) | fail) ?_)
  rfl
theorem updU_t (a p q : List UInt8) (wide : Bool) (g1 g2 g3 g4 : Nat) (T : List (Nat × AV)) (H : Heap) (c : Nat) (rp rq : List UInt8) (lp lq : List Pfx) (h1 : Gives G 210 [.ref 0 0 0] [.cells [.sl 1 (byteCells p), .con (.slice none 0 0)]] ⟨.bool true, [(true, .cells [.sl 1 (byteCells rp), .vs 1 0 lp.length]), (false, .vec 2 (lp.map Pfx.enc))]⟩) (h2 : Gives G 210 [.ref 0 0 0] [.cells [.sl 1 (byteCells q), .con (.slice none 0 0)]] ⟨.bool true, [(true, .cells [.sl 1 (byteCells rq), .vs 1 0 lq.length]), (false, .vec 2 (lq.map Pfx.enc))]⟩) (t : Ret)
    (K : ∀ (g1 g3 g4 : Nat) (T : List (Nat × AV)) (H : Heap) (c : Nat), Ev G ⟨[.code (suf 11 f201.body)], ⟨(12, .ref 76 g1 0) :: (10, .sl 1 (byteCells a)) :: (1, .bool wide) :: (4, .ref 68 g3 0) :: (5, .ref 69 g4 0) :: T, (76, some (g1, .cells (updM lp lq zeroA).enc)) :: (68, some (g3, .cells zeroM.enc)) :: (69, some (g4, .cells zeroM.enc)) :: H, c⟩, [.cell 4 (some 27), .cell 5 (some 27), .t 6], 0⟩ t) : Ev G ⟨[.code (suf 9 f201.body)], ⟨(9, .ref 97 g1 0) :: (11, .ref 113 g2 0) :: (10, .sl 1 (byteCells a)) :: (1, .bool wide) :: (4, .ref 68 g3 0) :: (5, .ref 69 g4 0) :: T, (97, some (g1, .cells [.sl 1 (byteCells p), .con (.slice none 0 0)])) :: (113, some (g2, .cells [.sl 1 (byteCells q), .con (.slice none 0 0)])) :: (68, some (g3, .cells zeroM.enc)) :: (69, some (g4, .cells zeroM.enc)) :: H, c⟩, [.cell 4 (some 27), .cell 5 (some 27), .t 6], 0⟩ t := by
  refine ev_seq (b := suf 10 f201.body) ?_
  refine W_okd 1 300 _ _ _ _ ?_
  repeat' (first | refine stpA ?_ | refine kX [(97, _, _)] [] ⟨rfl, trivial⟩ trivial (h1) ?_ | refine kX [(113, _, _)] [] ⟨rfl, trivial⟩ trivial (h2) ?_ | (refine condS ?_ ?_ <;> intro h))
  refine ev_frzk [(115, _, _), (119, _, _)] [9, 11, 10, 1, 4, 5] [97, 113, 68, 69] ⟨rfl, (by first | rfl | (simp [Blk.pure, pureL, pureLL, AV.pure, *]; done) | fail), rfl, (by first | rfl | (simp [Blk.pure, pureL, pureLL, AV.pure, *]; done) | fail), trivial⟩ ?_; repeat ((conv => whnf); first | refine And.intro (by first | rfl | omega | (simp [pureL, pureLL, AV.pure]; done) | (simp; omega) | (simp [pureL, pureLL, AV.pure, *]; done) | assumption | fail) ?_ | intro T H)
  refine ev_seq (b := suf 11 f201.body) ?_
  refine W_okd 1 300 _ _ _ _ ?_
  repeat' (first | refine stpA ?_ | (refine condS ?_ ?_ <;> intro h))
  refine ev_le [] [(76, some (_, .cells (updM lp lq zeroA).enc))] trivial ⟨⟨rfl, .refl _, .refl _, .refl _, .refl _, .refl _, LeP.nil 2, .refl _, .refl _, LeP.nil 2, .refl _, .refl _, .refl _, .refl _, .refl _, .refl _, .refl _, .refl _, .refl _, LeP.nil 1, .refl _, .refl _, LeP.nil 1, LeP.nil 2, .refl _, .refl _, .refl _, LeP.nil 1, trivial⟩, trivial⟩ ?_
  refine ev_keep [12, 10, 1, 4, 5] [76, 68, 69] ?_
  exact K _ _ _ _ _ _
theorem updU_chk (a : List UInt8) (wide : Bool) (m : PMsg) (g1 g3 g4 : Nat) (T : List (Nat × AV)) (H : Heap) (c : Nat) (hc : Gives G 144 [.agg m.enc] [] ⟨.int .i64 (checkM m), []⟩) : Ev G ⟨[.code (suf 13 f201.body)], ⟨(12, .ref 76 g1 0) :: (10, .sl 1 (byteCells a)) :: (1, .bool wide) :: (4, .ref 68 g3 0) :: (5, .ref 69 g4 0) :: T, (76, some (g1, .cells m.enc)) :: (68, some (g3, .cells zeroM.enc)) :: (69, some (g4, .cells zeroM.enc)) :: H, c⟩, [.cell 4 (some 27), .cell 5 (some 27), .t 6], 0⟩ (triR (chkU m)) := by
  unfold chkU
  generalize checkM m = e at *
  by_cases h0 : e = 0
  · rw [if_pos h0]
    refine W_ok 300 _ _ _ _ ?_
    repeat' (first | refine stpA ?_ | (refine condS ?_ ?_ <;> intro h))
    refine ev_le [] [(69, some (_, .cells zeroM.enc))] trivial ⟨⟨rfl, .refl _, .refl _, .refl _, .refl _, .refl _, LeP.nil 2, LeP.nil 2, .refl _, LeP.nil 2, .refl _, .refl _, .refl _, .refl _, .refl _, .refl _, .refl _, .refl _, .refl _, LeP.nil 1, .refl _, .refl _, LeP.nil 1, LeP.nil 2, LeP.nil 2, .refl _, .refl _, LeP.nil 1, trivial⟩, trivial⟩ ?_
    (first | refine fin1 ?_ | refine fin0 ?_)
    repeat ((conv => whnf); refine And.intro (by first | rfl | (simp [AV.pure, pureL]; done) | fail) ?_)
    rfl
  · rw [if_neg h0]
    have h6 : Gives G 198 [.int .i64 3, .int .i64 10, .con (.slice none 0 0)] [] ⟨.agg (noteM 3 10 []).enc, []⟩ := notify198n 3 10
    refine W_ok 300 _ _ _ _ ?_
    repeat' (first | refine stpA ?_ | (refine condS ?_ ?_ <;> intro h))
    refine ev_le [] [(68, some (_, .cells zeroM.enc))] trivial ⟨⟨rfl, .refl _, .refl _, .refl _, .refl _, .refl _, LeP.nil 2, LeP.nil 2, .refl _, LeP.nil 2, .refl _, .refl _, .refl _, .refl _, .refl _, .refl _, .refl _, .refl _, .refl _, LeP.nil 1, .refl _, .refl _, LeP.nil 1, LeP.nil 2, LeP.nil 2, .refl _, .refl _, LeP.nil 1, trivial⟩, trivial⟩ ?_
    (first | refine fin1 ?_ | refine fin0 ?_)
    repeat ((conv => whnf); refine And.intro (by first | rfl | (simp [AV.pure, pureL]; done) | fail) ?_)
    rfl
theorem updU_d0 (w : List Pfx) (wide : Bool) (g1 g3 g4 : Nat) (T : List (Nat × AV)) (H : Heap) (c : Nat) (hc : Gives G 144 [.agg (updM w [] zeroA).enc] [] ⟨.int .i64 (checkM (updM w [] zeroA)), []⟩) : Ev G ⟨[.code (suf 11 f201.body)], ⟨(12, .ref 76 g1 0) :: (10, .sl 1 (byteCells [])) :: (1, .bool wide) :: (4, .ref 68 g3 0) :: (5, .ref 69 g4 0) :: T, (76, some (g1, .cells (updM w [] zeroA).enc)) :: (68, some (g3, .cells zeroM.enc)) :: (69, some (g4, .cells zeroM.enc)) :: H, c⟩, [.cell 4 (some 27), .cell 5 (some 27), .t 6], 0⟩ (triR (chkU (updM w [] zeroA))) := by
  refine ev_seq (b := suf 12 f201.body) ?_
  refine W_okd 1 300 _ _ _ _ ?_
  repeat' (first | refine stpA ?_ | (refine condS ?_ ?_ <;> intro h))
  refine ev_seq (b := suf 13 f201.body) ?_
  refine W_okd 1 300 _ _ _ _ ?_
  repeat' (first | refine stpA ?_ | (refine condS ?_ ?_ <;> intro h))
  refine ev_keep [12, 10, 1, 4, 5] [76, 68, 69] ?_
  exact updU_chk [] wide _ _ _ _ _ _ _ hc
theorem updU_d6 (a : List UInt8) (w x : List Pfx) (ha : a.length < 2 ^ 40) (hx : x.length < 2 ^ 40) (hne : 0 < a.length ∨ 0 < x.length) (wide : Bool) (e : Int) (y : Attrs) (hd : Gives G 69 [.sl 1 (byteCells a), .bool wide] [] ⟨.tup [.agg y.enc, .int .i64 e], []⟩) (g1 g3 g4 : Nat) (T : List (Nat × AV)) (H : Heap) (c : Nat) (he : e = 6) : Ev G ⟨[.code (suf 11 f201.body)], ⟨(12, .ref 76 g1 0) :: (10, .sl 1 (byteCells a)) :: (1, .bool wide) :: (4, .ref 68 g3 0) :: (5, .ref 69 g4 0) :: T, (76, some (g1, .cells (updM w x zeroA).enc)) :: (68, some (g3, .cells zeroM.enc)) :: (69, some (g4, .cells zeroM.enc)) :: H, c⟩, [.cell 4 (some 27), .cell 5 (some 27), .t 6], 0⟩ ⟨.tup [.agg zeroM.enc, .agg (noteM 3 3 []).enc, .int .i64 6], []⟩ := by
  subst he
  have h6 : Gives G 198 [.int .i64 3, .int .i64 3, .con (.slice none 0 0)] [] ⟨.agg (noteM 3 3 []).enc, []⟩ := notify198n 3 3
  have hal := byteCells_length a
  have hxl : (x.map Pfx.enc).length = x.length := by simp
  have hxl0 : (List.map Pfx.enc (updM w x zeroA).reach).length = x.length := by simp [updM]
  have hxl1 : (List.map Pfx.enc (updM w x y).reach).length = x.length := by simp [updM]
  by_cases hp : 0 < a.length
  · refine W_ok 300 _ _ _ _ ?_
    repeat' (first | refine stpA ?_ | (refine condS ?_ ?_ <;> intro h))
    refine ev_le [] [(68, some (_, .cells zeroM.enc))] trivial ⟨⟨rfl, .refl _, .refl _, .refl _, .refl _, .refl _, LeP.nil 2, LeP.nil 2, .refl _, LeP.nil 2, .refl _, .refl _, .refl _, .refl _, .refl _, .refl _, .refl _, .refl _, .refl _, LeP.nil 1, .refl _, .refl _, LeP.nil 1, LeP.nil 2, LeP.nil 2, .refl _, .refl _, LeP.nil 1, trivial⟩, trivial⟩ ?_
    (first | refine fin1 ?_ | refine fin0 ?_)
    repeat ((conv => whnf); refine And.intro (by first | rfl | (simp [AV.pure, pureL]; done) | fail) ?_)
    rfl
  · have h0 : 0 < x.length := by omega
    refine W_ok 300 _ _ _ _ ?_
    repeat' (first | refine stpA ?_ | (refine condS ?_ ?_ <;> intro h))
    refine ev_le [] [(68, some (_, .cells zeroM.enc))] trivial ⟨⟨rfl, .refl _, .refl _, .refl _, .refl _, .refl _, LeP.nil 2, LeP.nil 2, .refl _, LeP.nil 2, .refl _, .refl _, .refl _, .refl _, .refl _, .refl _, .refl _, .refl _, .refl _, LeP.nil 1, .refl _, .refl _, LeP.nil 1, LeP.nil 2, LeP.nil 2, .refl _, .refl _, LeP.nil 1, trivial⟩, trivial⟩ ?_
    (first | refine fin1 ?_ | refine fin0 ?_)
    repeat ((conv => whnf); refine And.intro (by first | rfl | (simp [AV.pure, pureL]; done) | fail) ?_)
    rfl
theorem updU_d1 (a : List UInt8) (w x : List Pfx) (ha : a.length < 2 ^ 40) (hx : x.length < 2 ^ 40) (hne : 0 < a.length ∨ 0 < x.length) (wide : Bool) (e : Int) (y : Attrs) (hd : Gives G 69 [.sl 1 (byteCells a), .bool wide] [] ⟨.tup [.agg y.enc, .int .i64 e], []⟩) (g1 g3 g4 : Nat) (T : List (Nat × AV)) (H : Heap) (c : Nat) (he : ¬ e = 6) (he0 : ¬ e = 0) : Ev G ⟨[.code (suf 11 f201.body)], ⟨(12, .ref 76 g1 0) :: (10, .sl 1 (byteCells a)) :: (1, .bool wide) :: (4, .ref 68 g3 0) :: (5, .ref 69 g4 0) :: T, (76, some (g1, .cells (updM w x zeroA).enc)) :: (68, some (g3, .cells zeroM.enc)) :: (69, some (g4, .cells zeroM.enc)) :: H, c⟩, [.cell 4 (some 27), .cell 5 (some 27), .t 6], 0⟩ ⟨.tup [.agg zeroM.enc, .agg (noteM 3 1 []).enc, .int .i64 e], []⟩ := by
  have h6 : Gives G 198 [.int .i64 3, .int .i64 1, .con (.slice none 0 0)] [] ⟨.agg (noteM 3 1 []).enc, []⟩ := notify198n 3 1
  have hal := byteCells_length a
  have hxl : (x.map Pfx.enc).length = x.length := by simp
  have hxl0 : (List.map Pfx.enc (updM w x zeroA).reach).length = x.length := by simp [updM]
  have hxl1 : (List.map Pfx.enc (updM w x y).reach).length = x.length := by simp [updM]
  by_cases hp : 0 < a.length
  · refine W_ok 300 _ _ _ _ ?_
    repeat' (first | refine stpA ?_ | (refine condS ?_ ?_ <;> intro h))
    refine ev_le [] [(68, some (_, .cells zeroM.enc))] trivial ⟨⟨rfl, .refl _, .refl _, .refl _, .refl _, .refl _, LeP.nil 2, LeP.nil 2, .refl _, LeP.nil 2, .refl _, .refl _, .refl _, .refl _, .refl _, .refl _, .refl _, .refl _, .refl _, LeP.nil 1, .refl _, .refl _, LeP.nil 1, LeP.nil 2, LeP.nil 2, .refl _, .refl _, LeP.nil 1, trivial⟩, trivial⟩ ?_
    (first | refine fin1 ?_ | refine fin0 ?_)
    repeat ((conv => whnf); refine And.intro (by first | rfl | (simp [AV.pure, pureL]; done) | fail) ?_)
    rfl
  · have h0 : 0 < x.length := by omega
    refine W_ok 300 _ _ _ _ ?_
    repeat' (first | refine stpA ?_ | (refine condS ?_ ?_ <;> intro h))
    refine ev_le [] [(68, some (_, .cells zeroM.enc))] trivial ⟨⟨rfl, .refl _, .refl _, .refl _, .refl _, .refl _, LeP.nil 2, LeP.nil 2, .refl _, LeP.nil 2, .refl _, .refl _, .refl _, .refl _, .refl _, .refl _, .refl _, .refl _, .refl _, LeP.nil 1, .refl _, .refl _, LeP.nil 1, LeP.nil 2, LeP.nil 2, .refl _, .refl _, LeP.nil 1, trivial⟩, trivial⟩ ?_
    (first | refine fin1 ?_ | refine fin0 ?_)
    repeat ((conv => whnf); refine And.intro (by first | rfl | (simp [AV.pure, pureL]; done) | fail) ?_)
    rfl
theorem updU_dx (a : List UInt8) (w x : List Pfx) (ha : a.length < 2 ^ 40) (hx : x.length < 2 ^ 40) (hne : 0 < a.length ∨ 0 < x.length) (wide : Bool) (e : Int) (y : Attrs) (hd : Gives G 69 [.sl 1 (byteCells a), .bool wide] [] ⟨.tup [.agg y.enc, .int .i64 e], []⟩) (g1 g3 g4 : Nat) (T : List (Nat × AV)) (H : Heap) (c : Nat) (he : e = 0) (t : Ret) (K : ∀ (g1 g3 g4 : Nat) (T : List (Nat × AV)) (H : Heap) (c : Nat), Ev G ⟨[.code (suf 12 f201.body)], ⟨(12, .ref 76 g1 0) :: (10, .sl 1 (byteCells a)) :: (1, .bool wide) :: (4, .ref 68 g3 0) :: (5, .ref 69 g4 0) :: T, (76, some (g1, .cells (updM w x y).enc)) :: (68, some (g3, .cells zeroM.enc)) :: (69, some (g4, .cells zeroM.enc)) :: H, c⟩, [.cell 4 (some 27), .cell 5 (some 27), .t 6], 0⟩ t) : Ev G ⟨[.code (suf 11 f201.body)], ⟨(12, .ref 76 g1 0) :: (10, .sl 1 (byteCells a)) :: (1, .bool wide) :: (4, .ref 68 g3 0) :: (5, .ref 69 g4 0) :: T, (76, some (g1, .cells (updM w x zeroA).enc)) :: (68, some (g3, .cells zeroM.enc)) :: (69, some (g4, .cells zeroM.enc)) :: H, c⟩, [.cell 4 (some 27), .cell 5 (some 27), .t 6], 0⟩ t := by
  subst he
  have hal := byteCells_length a
  have hxl : (x.map Pfx.enc).length = x.length := by simp
  have hxl0 : (List.map Pfx.enc (updM w x zeroA).reach).length = x.length := by simp [updM]
  have hxl1 : (List.map Pfx.enc (updM w x y).reach).length = x.length := by simp [updM]
  by_cases hp : 0 < a.length
  · refine ev_seq (b := suf 12 f201.body) ?_
    refine W_okd 1 300 _ _ _ _ ?_
    repeat' (first | refine stpA ?_ | (refine condS ?_ ?_ <;> intro h))
    refine ev_keep [12, 10, 1, 4, 5] [76, 68, 69] ?_
    exact K _ _ _ _ _ _
  · have h0 : 0 < x.length := by omega
    refine ev_seq (b := suf 12 f201.body) ?_
    refine W_okd 1 300 _ _ _ _ ?_
    repeat' (first | refine stpA ?_ | (refine condS ?_ ?_ <;> intro h))
    refine ev_keep [12, 10, 1, 4, 5] [76, 68, 69] ?_
    exact K _ _ _ _ _ _
theorem updU_e1 (a : List UInt8) (ha : a.length < 2 ^ 40) (hp : 0 < a.length) (wide : Bool) (w : List Pfx) (y : Attrs) (g1 g3 g4 : Nat) (T : List (Nat × AV)) (H : Heap) (c : Nat) : Ev G ⟨[.code (suf 12 f201.body)], ⟨(12, .ref 76 g1 0) :: (10, .sl 1 (byteCells a)) :: (1, .bool wide) :: (4, .ref 68 g3 0) :: (5, .ref 69 g4 0) :: T, (76, some (g1, .cells (updM w [] y).enc)) :: (68, some (g3, .cells zeroM.enc)) :: (69, some (g4, .cells zeroM.enc)) :: H, c⟩, [.cell 4 (some 27), .cell 5 (some 27), .t 6], 0⟩ ⟨.tup [.agg zeroM.enc, .agg (noteM 3 1 []).enc, .int .i64 2], []⟩ := by
  have h6 : Gives G 198 [.int .i64 3, .int .i64 1, .con (.slice none 0 0)] [] ⟨.agg (noteM 3 1 []).enc, []⟩ := notify198n 3 1
  have hal := byteCells_length a
  refine W_ok 300 _ _ _ _ ?_
  repeat' (first | refine stpA ?_ | (refine condS ?_ ?_ <;> intro h))
  refine ev_le [] [(68, some (_, .cells zeroM.enc))] trivial ⟨⟨rfl, .refl _, .refl _, .refl _, .refl _, .refl _, LeP.nil 2, LeP.nil 2, .refl _, LeP.nil 2, .refl _, .refl _, .refl _, .refl _, .refl _, .refl _, .refl _, .refl _, .refl _, LeP.nil 1, .refl _, .refl _, LeP.nil 1, LeP.nil 2, LeP.nil 2, .refl _, .refl _, LeP.nil 1, trivial⟩, trivial⟩ ?_
  (first | refine fin1 ?_ | refine fin0 ?_)
  repeat ((conv => whnf); refine And.intro (by first | rfl | (simp [AV.pure, pureL]; done) | fail) ?_)
  rfl
theorem updU_e2 (a : List UInt8) (ha : a.length < 2 ^ 40) (wide : Bool) (w x : List Pfx) (hx : x.length < 2 ^ 40) (hp : 0 < x.length) (y : Attrs) (hc : Gives G 144 [.agg (updM w x y).enc] [] ⟨.int .i64 (checkM (updM w x y)), []⟩) (g1 g3 g4 : Nat) (T : List (Nat × AV)) (H : Heap) (c : Nat) : Ev G ⟨[.code (suf 12 f201.body)], ⟨(12, .ref 76 g1 0) :: (10, .sl 1 (byteCells a)) :: (1, .bool wide) :: (4, .ref 68 g3 0) :: (5, .ref 69 g4 0) :: T, (76, some (g1, .cells (updM w x y).enc)) :: (68, some (g3, .cells zeroM.enc)) :: (69, some (g4, .cells zeroM.enc)) :: H, c⟩, [.cell 4 (some 27), .cell 5 (some 27), .t 6], 0⟩ (triR (chkU (updM w x y))) := by
  have hal := byteCells_length a
  have hxl : (x.map Pfx.enc).length = x.length := by simp
  have hxl0 : (List.map Pfx.enc (updM w x zeroA).reach).length = x.length := by simp [updM]
  have hxl1 : (List.map Pfx.enc (updM w x y).reach).length = x.length := by simp [updM]
  by_cases h0 : 0 < a.length
  · refine ev_seq (b := suf 13 f201.body) ?_
    refine W_okd 1 300 _ _ _ _ ?_
    repeat' (first | refine stpA ?_ | (refine condS ?_ ?_ <;> intro h))
    refine ev_keep [12, 10, 1, 4, 5] [76, 68, 69] ?_
    exact updU_chk a wide _ _ _ _ _ _ _ hc
  · refine ev_seq (b := suf 13 f201.body) ?_
    refine W_okd 1 300 _ _ _ _ ?_
    repeat' (first | refine stpA ?_ | (refine condS ?_ ?_ <;> intro h))
    refine ev_keep [12, 10, 1, 4, 5] [76, 68, 69] ?_
    exact updU_chk a wide _ _ _ _ _ _ _ hc
end Go.AM.IR
set_option maxHeartbeats 4000000
set_option maxRecDepth 20000
namespace Go.AM.IR
theorem mark_loop194 (b : List UInt8) (wide : Bool) (t : Ret) (l0 : List UInt8) (hl0 : l0.length < 2 ^ 40) (g1 g2 : Nat) : ∀ (l d : List UInt8) (T : List (Nat × AV)) (H : Heap) (c : Nat) (n : Int), d ++ l = l0 → n = d.length →
    (l.any (fun c => c != 255) = false → ∀ (T : List (Nat × AV)) (H : Heap) (c : Nat), Ev G ⟨[.code (suf 3 f194.body)], ⟨(0, .sl 1 (byteCells b)) :: (1, .bool wide) :: (4, .ref 68 g1 0) :: (6, .ref 70 g2 0) :: (7, .int .i64 0) :: T, (68, some (g1, .cells zeroM.enc)) :: (70, some (g2, .cells zeroM.enc)) :: H, c⟩, [.cell 4 (some 27), .t 5, .cell 6 (some 27), .t 7], 0⟩ t) → (l.any (fun c => c != 255) = true → decMR (zeroM, 0, noteM 1 1 [], 2) = t) →
    Ev G ⟨f194x9LH, ⟨(23, .int .i64 n) :: (22, .int .i64 l0.length) :: (21, .sl 1 (byteCells l0)) :: (0, .sl 1 (byteCells b)) :: (1, .bool wide) :: (4, .ref 68 g1 0) :: (6, .ref 70 g2 0) :: (7, .int .i64 0) :: T, (68, some (g1, .cells zeroM.enc)) :: (70, some (g2, .cells zeroM.enc)) :: H, c⟩, [.cell 4 (some 27), .t 5, .cell 6 (some 27), .t 7], 0⟩ t
  | [], d, T, H, c, n, e, hn, K, B => by
    have hd : l0.length = d.length := by rw [← e]; simp
    have hle : ¬ (n < (l0.length : Int)) := by omega
    refine ev_loop' (W_okd 1 300 _ _ _ _ ?_)
    repeat' (first | refine stpA ?_ | (refine condS ?_ ?_ <;> intro h))
    refine ev_keep [0, 1, 4, 6, 7] [68, 70] ?_
    exact K rfl _ _ _
  | x :: r, d, T, H, c, n, e, hn, K, B => by
    have hd : l0.length = d.length + (r.length + 1) := by rw [← e]; simp
    have hlt : n < (l0.length : Int) := by omega
    have hx : (byteCells l0)[n.toNat]? = some [.int .u8 x.toNat] := by
      rw [← e, show n.toNat = d.length from by omega]
      simp [byteCells]
    have hx8 := x.toNat_lt
    by_cases h : x = 255
    · subst h
      have hx' : (byteCells l0)[n.toNat]? = some [.int .u8 255] := hx
      clear hx
      refine ev_loop' (W_okd 1 300 _ _ _ _ ?_)
      repeat' (first | refine stpA ?_ | (refine condS ?_ ?_ <;> intro h))
      refine ev_keep [23, 22, 21, 0, 1, 4, 6, 7] [68, 70] ?_
      exact mark_loop194 b wide t l0 hl0 g1 g2 r (d ++ [255]) _ _ _ (n + 1) (by rw [← e]; simp) (by rw [List.length_append]; simp only [List.length_cons, List.length_nil]; omega) (fun q => K (by simpa using q)) (fun q => B (by simpa using q))
    · have hne : ¬ ((x.toNat : Int) = 255) := fun q => h (UInt8.toNat_inj.1 (by simp; omega))
      rw [← B (by simp [h])]
      have h6 : Gives G 198 [.int .i64 1, .int .i64 1, .con (.slice none 0 0)] [] ⟨.agg (noteM 1 1 []).enc, []⟩ := notify198n 1 1
      refine ev_loop' (W_okd 1 300 _ _ _ _ ?_)
      repeat' (first | refine stpA ?_ | (refine condS ?_ ?_ <;> intro h))
      refine ev_le [] [(68, some (_, .cells zeroM.enc))] trivial ⟨⟨rfl, .refl _, .refl _, .refl _, .refl _, .refl _, LeP.nil 2, LeP.nil 2, .refl _, LeP.nil 2, .refl _, .refl _, .refl _, .refl _, .refl _, .refl _, .refl _, .refl _, .refl _, LeP.nil 1, .refl _, .refl _, LeP.nil 1, LeP.nil 2, LeP.nil 2, .refl _, .refl _, LeP.nil 1, trivial⟩, trivial⟩ ?_
      (first | refine fin1 ?_ | refine fin0 ?_)
      repeat ((conv => whnf); refine And.intro (by first | rfl | (simp [AV.pure, pureL]; done) | fail) ?_)
      rfl
theorem dec194_0 (b : List UInt8) (hb : b.length < 2 ^ 40) (wide : Bool) (h : b.length < 19) : Gives G 194 [.sl 1 (byteCells b), .bool wide] [] (decMR (zeroM, 0, zeroM, 3)) := by
  have hbl := byteCells_length b
  refine gives_code (F := f194) rfl rfl (W_ok 300 _ _ _ _ ?_)
  repeat' (first | refine stpA ?_ | (refine condS ?_ ?_ <;> intro h))
  refine ev_le [] [(68, some (_, .cells zeroM.enc)), (70, some (_, .cells zeroM.enc))] trivial ⟨⟨rfl, .refl _, .refl _, .refl _, .refl _, .refl _, LeP.nil 2, LeP.nil 2, .refl _, LeP.nil 2, .refl _, .refl _, .refl _, .refl _, .refl _, .refl _, .refl _, .refl _, .refl _, LeP.nil 1, .refl _, .refl _, LeP.nil 1, LeP.nil 2, LeP.nil 2, .refl _, .refl _, LeP.nil 1, trivial⟩, ⟨rfl, .refl _, .refl _, .refl _, .refl _, .refl _, LeP.nil 2, LeP.nil 2, .refl _, LeP.nil 2, .refl _, .refl _, .refl _, .refl _, .refl _, .refl _, .refl _, .refl _, .refl _, LeP.nil 1, .refl _, .refl _, LeP.nil 1, LeP.nil 2, LeP.nil 2, .refl _, .refl _, LeP.nil 1, trivial⟩, trivial⟩ ?_
  (first | refine fin1 ?_ | refine fin0 ?_)
  repeat ((conv => whnf); refine And.intro (by first | rfl | (simp [AV.pure, pureL]; done) | fail) ?_)
  rfl
theorem dec194_A (b : List UInt8) (hb : b.length < 2 ^ 40) (wide : Bool) (h : 19 ≤ b.length) (t : Ret)
    (K : (b.take 16).any (fun c => c != 255) = false → ∀ (g1 g2 : Nat) (T : List (Nat × AV)) (H : Heap) (c : Nat), Ev G ⟨[.code (suf 3 f194.body)], ⟨(0, .sl 1 (byteCells b)) :: (1, .bool wide) :: (4, .ref 68 g1 0) :: (6, .ref 70 g2 0) :: (7, .int .i64 0) :: T, (68, some (g1, .cells zeroM.enc)) :: (70, some (g2, .cells zeroM.enc)) :: H, c⟩, [.cell 4 (some 27), .t 5, .cell 6 (some 27), .t 7], 0⟩ t) (B : (b.take 16).any (fun c => c != 255) = true → decMR (zeroM, 0, noteM 1 1 [], 2) = t) : Gives G 194 [.sl 1 (byteCells b), .bool wide] [] t := by
  have hbl := byteCells_length b
  have hcut : List.take (Int.toNat 16 - 0) (List.drop 0 (byteCells b)) = byteCells (b.take 16) := by simp [byteCells]
  have hln : (List.take (Int.toNat 16 - 0) (List.drop 0 (byteCells b))).length = (b.take 16).length := by rw [hcut, byteCells_length]
  have hl16 : (b.take 16).length = 16 := by rw [List.length_take]; omega
  refine gives_code (F := f194) rfl rfl (W_ok 300 _ _ _ _ ?_)
  repeat' (first | refine stpA ?_ | (refine condS ?_ ?_ <;> intro h))
  refine ev_le [] [(68, some (_, .cells zeroM.enc)), (70, some (_, .cells zeroM.enc))] trivial ⟨⟨rfl, .refl _, .refl _, .refl _, .refl _, .refl _, LeP.nil 2, LeP.nil 2, .refl _, LeP.nil 2, .refl _, .refl _, .refl _, .refl _, .refl _, .refl _, .refl _, .refl _, .refl _, LeP.nil 1, .refl _, .refl _, LeP.nil 1, LeP.nil 2, LeP.nil 2, .refl _, .refl _, LeP.nil 1, trivial⟩, ⟨rfl, .refl _, .refl _, .refl _, .refl _, .refl _, LeP.nil 2, LeP.nil 2, .refl _, LeP.nil 2, .refl _, .refl _, .refl _, .refl _, .refl _, .refl _, .refl _, .refl _, .refl _, LeP.nil 1, .refl _, .refl _, LeP.nil 1, LeP.nil 2, LeP.nil 2, .refl _, .refl _, LeP.nil 1, trivial⟩, trivial⟩ ?_
  refine ev_keep [23, 22, 21, 0, 1, 4, 6, 7] [68, 70] ?_
  rw [hln, hcut]
  exact mark_loop194 b wide t (b.take 16) (by omega) _ _ (b.take 16) [] _ _ _ 0 rfl rfl (fun q => K q _ _) B
theorem dec194_e1 (b : List UInt8) (hb : b.length < 2 ^ 40) (wide : Bool) (h19 : 19 ≤ b.length) (x y k : UInt8) (hx : (byteCells b)[16]? = some [.int .u8 x.toNat]) (hy : (byteCells b)[17]? = some [.int .u8 y.toNat]) (hk : (byteCells b)[18]? = some [.int .u8 k.toNat]) (n : Nat) (hn : n = rd ((b.drop 16).take 2)) (q : n < 19) (g1 g2 : Nat) (T : List (Nat × AV)) (H : Heap) (c : Nat) : Ev G ⟨[.code (suf 3 f194.body)], ⟨(0, .sl 1 (byteCells b)) :: (1, .bool wide) :: (4, .ref 68 g1 0) :: (6, .ref 70 g2 0) :: (7, .int .i64 0) :: T, (68, some (g1, .cells zeroM.enc)) :: (70, some (g2, .cells zeroM.enc)) :: H, c⟩, [.cell 4 (some 27), .t 5, .cell 6 (some 27), .t 7], 0⟩ (decMR (zeroM, 0, noteM 1 2 [x, y], 2)) := by
  have hbl := byteCells_length b
  have hx8 := x.toNat_lt
  have hy8 := y.toNat_lt
  have hk8 := k.toNat_lt
  have hr : n < 256 ^ 2 := by rw [hn]; exact rd_le (by simp; omega)
  have hg : Gives G 110 [.sl 1 (byteCells b), .int .i64 16, .int .i64 2] [] ⟨.tup [.int .u64 (n : Nat), .bool true], []⟩ := by
    rw [hn]; exact get_gives110 b hb 16 2 (by omega) (by omega) (by omega) (by omega)
  have hN : Gives G 198 [.int .i64 1, .int .i64 2, .sl 1 [[.int .u8 x.toNat], [.int .u8 y.toNat]]] [] ⟨.agg (noteM 1 2 [x, y]).enc, []⟩ := notify198 1 2 [x, y]
  clear hn
  refine W_ok 300 _ _ _ _ ?_
  repeat' (first | refine stpA ?_ | refine kX [] [(113, _, _)] trivial ⟨rfl, pz trivial⟩ (hN) ?_ | (refine condS ?_ ?_ <;> intro h))
  refine ev_le [] [(68, some (_, .cells zeroM.enc))] trivial ⟨⟨rfl, .refl _, .refl _, .refl _, .refl _, .refl _, LeP.nil 2, LeP.nil 2, .refl _, LeP.nil 2, .refl _, .refl _, .refl _, .refl _, .refl _, .refl _, .refl _, .refl _, .refl _, LeP.nil 1, .refl _, .refl _, LeP.nil 1, LeP.nil 2, LeP.nil 2, .refl _, .refl _, LeP.nil 1, trivial⟩, trivial⟩ ?_
  (first | refine fin1 ?_ | refine fin0 ?_)
  repeat ((conv => whnf); refine And.intro (by first | rfl | (simp [AV.pure, pureL]; done) | fail) ?_)
  rfl
theorem dec194_e2 (b : List UInt8) (hb : b.length < 2 ^ 40) (wide : Bool) (h19 : 19 ≤ b.length) (x y k : UInt8) (hx : (byteCells b)[16]? = some [.int .u8 x.toNat]) (hy : (byteCells b)[17]? = some [.int .u8 y.toNat]) (hk : (byteCells b)[18]? = some [.int .u8 k.toNat]) (n : Nat) (hn : n = rd ((b.drop 16).take 2)) (q : ¬ n < 19) (qk : k.toNat < 1 ∨ k.toNat > 5) (g1 g2 : Nat) (T : List (Nat × AV)) (H : Heap) (c : Nat) : Ev G ⟨[.code (suf 3 f194.body)], ⟨(0, .sl 1 (byteCells b)) :: (1, .bool wide) :: (4, .ref 68 g1 0) :: (6, .ref 70 g2 0) :: (7, .int .i64 0) :: T, (68, some (g1, .cells zeroM.enc)) :: (70, some (g2, .cells zeroM.enc)) :: H, c⟩, [.cell 4 (some 27), .t 5, .cell 6 (some 27), .t 7], 0⟩ (decMR (zeroM, 0, noteM 1 3 [k], 15)) := by
  have hbl := byteCells_length b
  have hx8 := x.toNat_lt
  have hy8 := y.toNat_lt
  have hk8 := k.toNat_lt
  have hr : n < 256 ^ 2 := by rw [hn]; exact rd_le (by simp; omega)
  have hg : Gives G 110 [.sl 1 (byteCells b), .int .i64 16, .int .i64 2] [] ⟨.tup [.int .u64 (n : Nat), .bool true], []⟩ := by
    rw [hn]; exact get_gives110 b hb 16 2 (by omega) (by omega) (by omega) (by omega)
  have hN : Gives G 198 [.int .i64 1, .int .i64 2, .sl 1 [[.int .u8 x.toNat], [.int .u8 y.toNat]]] [] ⟨.agg (noteM 1 2 [x, y]).enc, []⟩ := notify198 1 2 [x, y]
  have hM : Gives G 198 [.int .i64 1, .int .i64 3, .sl 1 [[.int .u8 k.toNat]]] [] ⟨.agg (noteM 1 3 [k]).enc, []⟩ := notify198 1 3 [k]
  clear hn
  by_cases k1 : k.toNat < 1
  · refine W_ok 300 _ _ _ _ ?_
    repeat' (first | refine stpA ?_ | refine kX [] [(113, _, _)] trivial ⟨rfl, pz trivial⟩ (hN) ?_ | refine kX [] [(131, _, _)] trivial ⟨rfl, pz trivial⟩ (hM) ?_ | (refine condS ?_ ?_ <;> intro h))
    refine ev_le [] [(68, some (_, .cells zeroM.enc))] trivial ⟨⟨rfl, .refl _, .refl _, .refl _, .refl _, .refl _, LeP.nil 2, LeP.nil 2, .refl _, LeP.nil 2, .refl _, .refl _, .refl _, .refl _, .refl _, .refl _, .refl _, .refl _, .refl _, LeP.nil 1, .refl _, .refl _, LeP.nil 1, LeP.nil 2, LeP.nil 2, .refl _, .refl _, LeP.nil 1, trivial⟩, trivial⟩ ?_
    (first | refine fin1 ?_ | refine fin0 ?_)
    repeat ((conv => whnf); refine And.intro (by first | rfl | (simp [AV.pure, pureL]; done) | fail) ?_)
    rfl
  · have k5 : k.toNat > 5 := by omega
    refine W_ok 300 _ _ _ _ ?_
    repeat' (first | refine stpA ?_ | refine kX [] [(113, _, _)] trivial ⟨rfl, pz trivial⟩ (hN) ?_ | refine kX [] [(131, _, _)] trivial ⟨rfl, pz trivial⟩ (hM) ?_ | (refine condS ?_ ?_ <;> intro h))
    refine ev_le [] [(68, some (_, .cells zeroM.enc))] trivial ⟨⟨rfl, .refl _, .refl _, .refl _, .refl _, .refl _, LeP.nil 2, LeP.nil 2, .refl _, LeP.nil 2, .refl _, .refl _, .refl _, .refl _, .refl _, .refl _, .refl _, .refl _, .refl _, LeP.nil 1, .refl _, .refl _, LeP.nil 1, LeP.nil 2, LeP.nil 2, .refl _, .refl _, LeP.nil 1, trivial⟩, trivial⟩ ?_
    (first | refine fin1 ?_ | refine fin0 ?_)
    repeat ((conv => whnf); refine And.intro (by first | rfl | (simp [AV.pure, pureL]; done) | fail) ?_)
    rfl
theorem dec194_e3 (b : List UInt8) (hb : b.length < 2 ^ 40) (wide : Bool) (h19 : 19 ≤ b.length) (x y k : UInt8) (hx : (byteCells b)[16]? = some [.int .u8 x.toNat]) (hy : (byteCells b)[17]? = some [.int .u8 y.toNat]) (hk : (byteCells b)[18]? = some [.int .u8 k.toNat]) (n : Nat) (hn : n = rd ((b.drop 16).take 2)) (q : ¬ n < 19) (k1 : ¬ k.toNat < 1) (k5 : ¬ k.toNat > 5) (qb : badLen (k.toNat : Nat) (n : Nat) = true) (g1 g2 : Nat) (T : List (Nat × AV)) (H : Heap) (c : Nat) : Ev G ⟨[.code (suf 3 f194.body)], ⟨(0, .sl 1 (byteCells b)) :: (1, .bool wide) :: (4, .ref 68 g1 0) :: (6, .ref 70 g2 0) :: (7, .int .i64 0) :: T, (68, some (g1, .cells zeroM.enc)) :: (70, some (g2, .cells zeroM.enc)) :: H, c⟩, [.cell 4 (some 27), .t 5, .cell 6 (some 27), .t 7], 0⟩ (decMR (zeroM, 0, noteM 1 2 [x, y], 2)) := by
  have hbl := byteCells_length b
  have hx8 := x.toNat_lt
  have hy8 := y.toNat_lt
  have hk8 := k.toNat_lt
  have hr : n < 256 ^ 2 := by rw [hn]; exact rd_le (by simp; omega)
  have hg : Gives G 110 [.sl 1 (byteCells b), .int .i64 16, .int .i64 2] [] ⟨.tup [.int .u64 (n : Nat), .bool true], []⟩ := by
    rw [hn]; exact get_gives110 b hb 16 2 (by omega) (by omega) (by omega) (by omega)
  have hN : Gives G 198 [.int .i64 1, .int .i64 2, .sl 1 [[.int .u8 x.toNat], [.int .u8 y.toNat]]] [] ⟨.agg (noteM 1 2 [x, y]).enc, []⟩ := notify198 1 2 [x, y]
  have hB := badLength199 (k.toNat : Nat) (n : Nat) (by omega)
  rw [qb] at hB
  clear hn
  refine W_ok 300 _ _ _ _ ?_
  repeat' (first | refine stpA ?_ | refine kX [] [(113, _, _)] trivial ⟨rfl, pz trivial⟩ (hN) ?_ | (refine condS ?_ ?_ <;> intro h))
  refine ev_le [] [(68, some (_, .cells zeroM.enc))] trivial ⟨⟨rfl, .refl _, .refl _, .refl _, .refl _, .refl _, LeP.nil 2, LeP.nil 2, .refl _, LeP.nil 2, .refl _, .refl _, .refl _, .refl _, .refl _, .refl _, .refl _, .refl _, .refl _, LeP.nil 1, .refl _, .refl _, LeP.nil 1, LeP.nil 2, LeP.nil 2, .refl _, .refl _, LeP.nil 1, trivial⟩, trivial⟩ ?_
  (first | refine fin1 ?_ | refine fin0 ?_)
  repeat ((conv => whnf); refine And.intro (by first | rfl | (simp [AV.pure, pureL]; done) | fail) ?_)
  rfl
theorem dec194_e4 (b : List UInt8) (hb : b.length < 2 ^ 40) (wide : Bool) (h19 : 19 ≤ b.length) (x y k : UInt8) (hx : (byteCells b)[16]? = some [.int .u8 x.toNat]) (hy : (byteCells b)[17]? = some [.int .u8 y.toNat]) (hk : (byteCells b)[18]? = some [.int .u8 k.toNat]) (n : Nat) (hn : n = rd ((b.drop 16).take 2)) (q : ¬ n < 19) (k1 : ¬ k.toNat < 1) (k5 : ¬ k.toNat > 5) (qb : badLen (k.toNat : Nat) (n : Nat) = false) (ql : b.length < n) (g1 g2 : Nat) (T : List (Nat × AV)) (H : Heap) (c : Nat) : Ev G ⟨[.code (suf 3 f194.body)], ⟨(0, .sl 1 (byteCells b)) :: (1, .bool wide) :: (4, .ref 68 g1 0) :: (6, .ref 70 g2 0) :: (7, .int .i64 0) :: T, (68, some (g1, .cells zeroM.enc)) :: (70, some (g2, .cells zeroM.enc)) :: H, c⟩, [.cell 4 (some 27), .t 5, .cell 6 (some 27), .t 7], 0⟩ (decMR (zeroM, 0, zeroM, 3)) := by
  have hbl := byteCells_length b
  have hx8 := x.toNat_lt
  have hy8 := y.toNat_lt
  have hk8 := k.toNat_lt
  have hr : n < 256 ^ 2 := by rw [hn]; exact rd_le (by simp; omega)
  have hg : Gives G 110 [.sl 1 (byteCells b), .int .i64 16, .int .i64 2] [] ⟨.tup [.int .u64 (n : Nat), .bool true], []⟩ := by
    rw [hn]; exact get_gives110 b hb 16 2 (by omega) (by omega) (by omega) (by omega)
  have hN : Gives G 198 [.int .i64 1, .int .i64 2, .sl 1 [[.int .u8 x.toNat], [.int .u8 y.toNat]]] [] ⟨.agg (noteM 1 2 [x, y]).enc, []⟩ := notify198 1 2 [x, y]
  have hB := badLength199 (k.toNat : Nat) (n : Nat) (by omega)
  rw [qb] at hB
  clear hn
  refine W_ok 300 _ _ _ _ ?_
  repeat' (first | refine stpA ?_ | refine kX [] [(113, _, _)] trivial ⟨rfl, pz trivial⟩ (hN) ?_ | (refine condS ?_ ?_ <;> intro h))
  refine ev_le [] [(68, some (_, .cells zeroM.enc)), (70, some (_, .cells zeroM.enc))] trivial ⟨⟨rfl, .refl _, .refl _, .refl _, .refl _, .refl _, LeP.nil 2, LeP.nil 2, .refl _, LeP.nil 2, .refl _, .refl _, .refl _, .refl _, .refl _, .refl _, .refl _, .refl _, .refl _, LeP.nil 1, .refl _, .refl _, LeP.nil 1, LeP.nil 2, LeP.nil 2, .refl _, .refl _, LeP.nil 1, trivial⟩, ⟨rfl, .refl _, .refl _, .refl _, .refl _, .refl _, LeP.nil 2, LeP.nil 2, .refl _, LeP.nil 2, .refl _, .refl _, .refl _, .refl _, .refl _, .refl _, .refl _, .refl _, .refl _, LeP.nil 1, .refl _, .refl _, LeP.nil 1, LeP.nil 2, LeP.nil 2, .refl _, .refl _, LeP.nil 1, trivial⟩, trivial⟩ ?_
  (first | refine fin1 ?_ | refine fin0 ?_)
  repeat ((conv => whnf); refine And.intro (by first | rfl | (simp [AV.pure, pureL]; done) | fail) ?_)
  rfl
theorem dec194_e5 (b : List UInt8) (hb : b.length < 2 ^ 40) (wide : Bool) (h19 : 19 ≤ b.length) (x y k : UInt8) (hx : (byteCells b)[16]? = some [.int .u8 x.toNat]) (hy : (byteCells b)[17]? = some [.int .u8 y.toNat]) (hk : (byteCells b)[18]? = some [.int .u8 k.toNat]) (n : Nat) (hn : n = rd ((b.drop 16).take 2)) (q : ¬ n < 19) (k1 : ¬ k.toNat < 1) (k5 : ¬ k.toNat > 5) (qb : badLen (k.toNat : Nat) (n : Nat) = false) (ql : ¬ b.length < n) (d : List UInt8) (hd : d = (b.take n).drop 19) (t : Ret) (K : ∀ (g1 g2 g3 : Nat) (T : List (Nat × AV)) (H : Heap) (c : Nat), Ev G ⟨[.code (suf 9 f194.body)], ⟨(14, .sl 1 (byteCells d)) :: (5, .int .i64 (n : Nat)) :: (12, .int .i64 (k.toNat : Nat)) :: (13, .ref 77 g3 0) :: (1, .bool wide) :: (4, .ref 68 g1 0) :: (6, .ref 70 g2 0) :: (7, .int .i64 0) :: T, (77, some (g3, .cells (noteM 1 2 [x, y]).enc)) :: (68, some (g1, .cells zeroM.enc)) :: (70, some (g2, .cells zeroM.enc)) :: H, c⟩, [.cell 4 (some 27), .t 5, .cell 6 (some 27), .t 7], 0⟩ t) (g1 g2 : Nat) (T : List (Nat × AV)) (H : Heap) (c : Nat) : Ev G ⟨[.code (suf 3 f194.body)], ⟨(0, .sl 1 (byteCells b)) :: (1, .bool wide) :: (4, .ref 68 g1 0) :: (6, .ref 70 g2 0) :: (7, .int .i64 0) :: T, (68, some (g1, .cells zeroM.enc)) :: (70, some (g2, .cells zeroM.enc)) :: H, c⟩, [.cell 4 (some 27), .t 5, .cell 6 (some 27), .t 7], 0⟩ t := by
  have hbl := byteCells_length b
  have hx8 := x.toNat_lt
  have hy8 := y.toNat_lt
  have hk8 := k.toNat_lt
  have hr : n < 256 ^ 2 := by rw [hn]; exact rd_le (by simp; omega)
  have hg : Gives G 110 [.sl 1 (byteCells b), .int .i64 16, .int .i64 2] [] ⟨.tup [.int .u64 (n : Nat), .bool true], []⟩ := by
    rw [hn]; exact get_gives110 b hb 16 2 (by omega) (by omega) (by omega) (by omega)
  have hN : Gives G 198 [.int .i64 1, .int .i64 2, .sl 1 [[.int .u8 x.toNat], [.int .u8 y.toNat]]] [] ⟨.agg (noteM 1 2 [x, y]).enc, []⟩ := notify198 1 2 [x, y]
  have hB := badLength199 (k.toNat : Nat) (n : Nat) (by omega)
  rw [qb] at hB
  have hcut : List.take (((n : Nat) : Int).toNat - Int.toNat 19) (List.drop (Int.toNat 19) (byteCells b)) = byteCells d := by
    rw [hd, List.drop_take]; simp [byteCells]
  clear hn
  refine ev_seq (b := suf 4 f194.body) ?_
  refine W_okd 1 300 _ _ _ _ ?_
  repeat' (first | refine stpA ?_ | refine kX [] [(113, _, _)] trivial ⟨rfl, pz trivial⟩ (hN) ?_ | (refine condS ?_ ?_ <;> intro h))
  refine ev_seq (b := suf 5 f194.body) ?_
  refine W_okd 1 300 _ _ _ _ ?_
  repeat' (first | refine stpA ?_ | refine kX [] [(113, _, _)] trivial ⟨rfl, pz trivial⟩ (hN) ?_ | (refine condS ?_ ?_ <;> intro h))
  refine ev_seq (b := suf 6 f194.body) ?_
  refine W_okd 1 300 _ _ _ _ ?_
  repeat' (first | refine stpA ?_ | refine kX [] [(113, _, _)] trivial ⟨rfl, pz trivial⟩ (hN) ?_ | (refine condS ?_ ?_ <;> intro h))
  refine ev_seq (b := suf 7 f194.body) ?_
  refine W_okd 1 300 _ _ _ _ ?_
  repeat' (first | refine stpA ?_ | refine kX [] [(113, _, _)] trivial ⟨rfl, pz trivial⟩ (hN) ?_ | (refine condS ?_ ?_ <;> intro h))
  refine ev_seq (b := suf 8 f194.body) ?_
  refine W_okd 1 300 _ _ _ _ ?_
  repeat' (first | refine stpA ?_ | refine kX [] [(113, _, _)] trivial ⟨rfl, pz trivial⟩ (hN) ?_ | (refine condS ?_ ?_ <;> intro h))
  refine ev_seq (b := suf 9 f194.body) ?_
  refine W_okd 1 300 _ _ _ _ ?_
  repeat' (first | refine stpA ?_ | refine kX [] [(113, _, _)] trivial ⟨rfl, pz trivial⟩ (hN) ?_ | (refine condS ?_ ?_ <;> intro h))
  rw [hcut]
  refine ev_keep [14, 5, 12, 13, 1, 4, 6, 7] [77, 68, 70] ?_
  exact K _ _ _ _ _ _
end Go.AM.IR
set_option maxHeartbeats 4000000
set_option maxRecDepth 20000
namespace Go.AM.IR
theorem leEq {a b : AV} (h : a = b) : LeP Any a b := h ▸ LeP.refl _
theorem dec194_end (m f : PMsg) (e : Int) (n : Nat) (g1 g2 : Nat) (T : List (Nat × AV)) (H : Heap) (c : Nat) : Ev G ⟨[.code (suf 11 f194.body)], ⟨(4, .ref 68 g1 0) :: (5, .int .i64 (n : Nat)) :: (6, .ref 70 g2 0) :: (7, .int .i64 e) :: T, (68, some (g1, .cells m.enc)) :: (70, some (g2, .cells f.enc)) :: H, c⟩, [.cell 4 (some 27), .t 5, .cell 6 (some 27), .t 7], 0⟩ (decMR (finM n (m, f, e))) := by
  unfold finM
  by_cases h : e = 0
  · subst h
    rw [if_pos rfl]
    refine W_ok 300 _ _ _ _ ?_
    repeat' (first | refine stpA ?_ | (refine condS ?_ ?_ <;> intro h))
    refine ev_le [] [(70, some (_, .cells zeroM.enc))] trivial ⟨⟨rfl, .refl _, .refl _, .refl _, .refl _, .refl _, LeP.nil 2, LeP.nil 2, .refl _, LeP.nil 2, .refl _, .refl _, .refl _, .refl _, .refl _, .refl _, .refl _, .refl _, .refl _, LeP.nil 1, .refl _, .refl _, LeP.nil 1, LeP.nil 2, LeP.nil 2, .refl _, .refl _, LeP.nil 1, trivial⟩, trivial⟩ ?_
    (first | refine fin1 ?_ | refine fin0 ?_)
    repeat ((conv => whnf); refine And.intro (by first | rfl | (simp [AV.pure, pureL]; done) | fail) ?_)
    rfl
  · rw [if_neg h]
    refine W_ok 300 _ _ _ _ ?_
    repeat' (first | refine stpA ?_ | (refine condS ?_ ?_ <;> intro h))
    refine ev_le [] [(68, some (_, .cells zeroM.enc))] trivial ⟨⟨rfl, .refl _, .refl _, .refl _, .refl _, .refl _, LeP.nil 2, LeP.nil 2, .refl _, LeP.nil 2, .refl _, .refl _, .refl _, .refl _, .refl _, .refl _, .refl _, .refl _, .refl _, LeP.nil 1, .refl _, .refl _, LeP.nil 1, LeP.nil 2, LeP.nil 2, .refl _, .refl _, LeP.nil 1, trivial⟩, trivial⟩ ?_
    (first | refine fin1 ?_ | refine fin0 ?_)
    repeat ((conv => whnf); refine And.intro (by first | rfl | (simp [AV.pure, pureL]; done) | fail) ?_)
    rfl
theorem dec194_k1 (d : List UInt8) (wide : Bool) (x y : UInt8) (n : Nat) (m f : PMsg) (e : Int) (h : Gives G 200 [.sl 1 (byteCells d)] [] ⟨.tup [.agg m.enc, .agg f.enc, .int .i64 e], []⟩) (t : Ret) (K : ∀ (g1 g2 : Nat) (T : List (Nat × AV)) (H : Heap) (c : Nat), Ev G ⟨[.code (suf 11 f194.body)], ⟨(4, .ref 68 g1 0) :: (5, .int .i64 (n : Nat)) :: (6, .ref 70 g2 0) :: (7, .int .i64 e) :: T, (68, some (g1, .cells m.enc)) :: (70, some (g2, .cells f.enc)) :: H, c⟩, [.cell 4 (some 27), .t 5, .cell 6 (some 27), .t 7], 0⟩ t) (g1 g2 g3 : Nat) (T : List (Nat × AV)) (H : Heap) (c : Nat) : Ev G ⟨[.code (suf 9 f194.body)], ⟨(14, .sl 1 (byteCells d)) :: (5, .int .i64 (n : Nat)) :: (12, .int .i64 1) :: (13, .ref 77 g3 0) :: (1, .bool wide) :: (4, .ref 68 g1 0) :: (6, .ref 70 g2 0) :: (7, .int .i64 0) :: T, (77, some (g3, .cells (noteM 1 2 [x, y]).enc)) :: (68, some (g1, .cells zeroM.enc)) :: (70, some (g2, .cells zeroM.enc)) :: H, c⟩, [.cell 4 (some 27), .t 5, .cell 6 (some 27), .t 7], 0⟩ t := by
  refine ev_seq (b := suf 10 f194.body) ?_
  refine W_okd 1 300 _ _ _ _ ?_
  repeat' (first | refine stpA ?_ | (refine condS ?_ ?_ <;> intro h))
  refine ev_seq (b := suf 11 f194.body) ?_
  refine W_okd 1 300 _ _ _ _ ?_
  repeat' (first | refine stpA ?_ | (refine condS ?_ ?_ <;> intro h))
  refine ev_keep [4, 5, 6, 7] [68, 70] ?_
  exact K _ _ _ _ _
theorem dec194_k2 (d : List UInt8) (wide : Bool) (x y : UInt8) (n : Nat) (m f : PMsg) (e : Int) (h : Gives G 201 [.sl 1 (byteCells d), .bool wide] [] ⟨.tup [.agg m.enc, .agg f.enc, .int .i64 e], []⟩) (t : Ret) (K : ∀ (g1 g2 : Nat) (T : List (Nat × AV)) (H : Heap) (c : Nat), Ev G ⟨[.code (suf 11 f194.body)], ⟨(4, .ref 68 g1 0) :: (5, .int .i64 (n : Nat)) :: (6, .ref 70 g2 0) :: (7, .int .i64 e) :: T, (68, some (g1, .cells m.enc)) :: (70, some (g2, .cells f.enc)) :: H, c⟩, [.cell 4 (some 27), .t 5, .cell 6 (some 27), .t 7], 0⟩ t) (g1 g2 g3 : Nat) (T : List (Nat × AV)) (H : Heap) (c : Nat) : Ev G ⟨[.code (suf 9 f194.body)], ⟨(14, .sl 1 (byteCells d)) :: (5, .int .i64 (n : Nat)) :: (12, .int .i64 2) :: (13, .ref 77 g3 0) :: (1, .bool wide) :: (4, .ref 68 g1 0) :: (6, .ref 70 g2 0) :: (7, .int .i64 0) :: T, (77, some (g3, .cells (noteM 1 2 [x, y]).enc)) :: (68, some (g1, .cells zeroM.enc)) :: (70, some (g2, .cells zeroM.enc)) :: H, c⟩, [.cell 4 (some 27), .t 5, .cell 6 (some 27), .t 7], 0⟩ t := by
  refine ev_seq (b := suf 10 f194.body) ?_
  refine W_okd 1 300 _ _ _ _ ?_
  repeat' (first | refine stpA ?_ | (refine condS ?_ ?_ <;> intro h))
  refine ev_seq (b := suf 11 f194.body) ?_
  refine W_okd 1 300 _ _ _ _ ?_
  repeat' (first | refine stpA ?_ | (refine condS ?_ ?_ <;> intro h))
  refine ev_keep [4, 5, 6, 7] [68, 70] ?_
  exact K _ _ _ _ _
theorem dec194_k3 (c0 s0 : UInt8) (r : List UInt8) (hr : r.length < 2 ^ 40) (wide : Bool) (x y : UInt8) (n : Nat) (e : Int) (hc : Gives G 144 [.agg (noteM (c0.toNat : Nat) (s0.toNat : Nat) r).enc] [] ⟨.int .i64 e, []⟩) (t : Ret) (K : ∀ (g1 g2 : Nat) (T : List (Nat × AV)) (H : Heap) (c : Nat), Ev G ⟨[.code (suf 11 f194.body)], ⟨(4, .ref 68 g1 0) :: (5, .int .i64 (n : Nat)) :: (6, .ref 70 g2 0) :: (7, .int .i64 e) :: T, (68, some (g1, .cells (noteM (c0.toNat : Nat) (s0.toNat : Nat) r).enc)) :: (70, some (g2, .cells (if e = 0 then zeroM else noteM 1 2 [x, y]).enc)) :: H, c⟩, [.cell 4 (some 27), .t 5, .cell 6 (some 27), .t 7], 0⟩ t) (g1 g2 g3 : Nat) (T : List (Nat × AV)) (H : Heap) (c : Nat) : Ev G ⟨[.code (suf 9 f194.body)], ⟨(14, .sl 1 (byteCells (c0 :: s0 :: r))) :: (5, .int .i64 (n : Nat)) :: (12, .int .i64 3) :: (13, .ref 77 g3 0) :: (1, .bool wide) :: (4, .ref 68 g1 0) :: (6, .ref 70 g2 0) :: (7, .int .i64 0) :: T, (77, some (g3, .cells (noteM 1 2 [x, y]).enc)) :: (68, some (g1, .cells zeroM.enc)) :: (70, some (g2, .cells zeroM.enc)) :: H, c⟩, [.cell 4 (some 27), .t 5, .cell 6 (some 27), .t 7], 0⟩ t := by
  have hrl := byteCells_length r
  have hcl : (byteCells (c0 :: s0 :: r)).length = r.length + 2 := by rw [byteCells_length]; rfl
  have h08 := c0.toNat_lt
  have hs8 := s0.toNat_lt
  have hcut : List.take ((byteCells (c0 :: s0 :: r)).length - Int.toNat 2) (List.drop (Int.toNat 2) (byteCells (c0 :: s0 :: r))) = byteCells r := by
    rw [List.take_of_length_le (by rw [List.length_drop]; exact Nat.le_refl _)]; rfl
  have hc2 : Gives G 144 [.agg [.int .i64 3, .int .i64 0, .int .i64 0, .int .i64 0, .int .u32 0, nilV, nilV, .int .i64 0, nilV, .int .u32 0, .bool false, .int .i64 0, .bool false, .int .i64 0, .bool false, .bool false, .int .i64 0, .int .u32 0, nilV, .bool false, .int .u32 0, nilV, nilV, nilV, .int .i64 (c0.toNat : Nat), .int .i64 (s0.toNat : Nat), .sl 1 (List.take ((byteCells (c0 :: s0 :: r)).length - Int.toNat 2) (List.drop (Int.toNat 2) (byteCells (c0 :: s0 :: r))))]] [] ⟨.int .i64 e, []⟩ := by
    rw [hcut]
    exact gives_le rfl hc ⟨LeP.agg (by repeat' (first | exact trivial | exact LeP.refl _ | exact LeP.nil _ | refine LeP.sl ?_ | refine ⟨?_, ?_⟩)), trivial⟩
  by_cases h : e = 0
  · subst h
    rw [if_pos rfl] at K
    refine ev_seq (b := suf 10 f194.body) ?_
    refine W_okd 1 300 _ _ _ _ ?_
    repeat' (first | refine stpA ?_ | (refine condS ?_ ?_ <;> intro h))
    refine ev_seq (b := suf 11 f194.body) ?_
    refine W_okd 1 300 _ _ _ _ ?_
    repeat' (first | refine stpA ?_ | refine kZ [(179, _, _)] ⟨rfl, pz trivial⟩ (hc2) ?_ | refine takP ?_ | (refine condS ?_ ?_ <;> intro h))
    refine ev_frzk [(179, _, _)] [4, 5, 6, 7] [68, 70] ⟨rfl, (by first | rfl | (simp [Blk.pure, pureL, pureLL, AV.pure, *]; done) | fail), trivial⟩ ?_; repeat ((conv => whnf); first | refine And.intro (by first | rfl | omega | (simp [pureL, pureLL, AV.pure]; done) | (simp; omega) | (simp [pureL, pureLL, AV.pure, *]; done) | assumption | fail) ?_ | intro T H)
    refine ev_le [] [(68, some (_, .cells (noteM (c0.toNat : Nat) (s0.toNat : Nat) r).enc))] trivial ⟨⟨rfl, .refl _, .refl _, .refl _, .refl _, .refl _, LeP.nil 2, LeP.nil 2, .refl _, LeP.nil 2, .refl _, .refl _, .refl _, .refl _, .refl _, .refl _, .refl _, .refl _, .refl _, LeP.nil 1, .refl _, .refl _, LeP.nil 1, LeP.nil 2, LeP.nil 2, .refl _, .refl _, leEq (by rw [List.nil_append, hcut]; rfl), trivial⟩, trivial⟩ ?_
    refine ev_keep [4, 5, 6, 7] [68, 70] ?_
    exact K _ _ _ _ _
  · rw [if_neg h] at K
    refine ev_seq (b := suf 10 f194.body) ?_
    refine W_okd 1 300 _ _ _ _ ?_
    repeat' (first | refine stpA ?_ | (refine condS ?_ ?_ <;> intro h))
    refine ev_seq (b := suf 11 f194.body) ?_
    refine W_okd 1 300 _ _ _ _ ?_
    repeat' (first | refine stpA ?_ | refine kZ [(179, _, _)] ⟨rfl, pz trivial⟩ (hc2) ?_ | refine takP ?_ | (refine condS ?_ ?_ <;> intro h))
    refine ev_frzk [(179, _, _)] [4, 5, 6, 7] [68, 70] ⟨rfl, (by first | rfl | (simp [Blk.pure, pureL, pureLL, AV.pure, *]; done) | fail), trivial⟩ ?_; repeat ((conv => whnf); first | refine And.intro (by first | rfl | omega | (simp [pureL, pureLL, AV.pure]; done) | (simp; omega) | (simp [pureL, pureLL, AV.pure, *]; done) | assumption | fail) ?_ | intro T H)
    refine ev_le [] [(68, some (_, .cells (noteM (c0.toNat : Nat) (s0.toNat : Nat) r).enc))] trivial ⟨⟨rfl, .refl _, .refl _, .refl _, .refl _, .refl _, LeP.nil 2, LeP.nil 2, .refl _, LeP.nil 2, .refl _, .refl _, .refl _, .refl _, .refl _, .refl _, .refl _, .refl _, .refl _, LeP.nil 1, .refl _, .refl _, LeP.nil 1, LeP.nil 2, LeP.nil 2, .refl _, .refl _, leEq (by rw [List.nil_append, hcut]; rfl), trivial⟩, trivial⟩ ?_
    refine ev_keep [4, 5, 6, 7] [68, 70] ?_
    exact K _ _ _ _ _
theorem dec194_k4 (d : List UInt8) (wide : Bool) (x y : UInt8) (n : Nat) (t : Ret) (K : ∀ (g1 g2 : Nat) (T : List (Nat × AV)) (H : Heap) (c : Nat), Ev G ⟨[.code (suf 11 f194.body)], ⟨(4, .ref 68 g1 0) :: (5, .int .i64 (n : Nat)) :: (6, .ref 70 g2 0) :: (7, .int .i64 0) :: T, (68, some (g1, .cells ({ zeroM with kind := 4 } : PMsg).enc)) :: (70, some (g2, .cells zeroM.enc)) :: H, c⟩, [.cell 4 (some 27), .t 5, .cell 6 (some 27), .t 7], 0⟩ t) (g1 g2 g3 : Nat) (T : List (Nat × AV)) (H : Heap) (c : Nat) : Ev G ⟨[.code (suf 9 f194.body)], ⟨(14, .sl 1 (byteCells d)) :: (5, .int .i64 (n : Nat)) :: (12, .int .i64 4) :: (13, .ref 77 g3 0) :: (1, .bool wide) :: (4, .ref 68 g1 0) :: (6, .ref 70 g2 0) :: (7, .int .i64 0) :: T, (77, some (g3, .cells (noteM 1 2 [x, y]).enc)) :: (68, some (g1, .cells zeroM.enc)) :: (70, some (g2, .cells zeroM.enc)) :: H, c⟩, [.cell 4 (some 27), .t 5, .cell 6 (some 27), .t 7], 0⟩ t := by
  refine ev_seq (b := suf 10 f194.body) ?_
  refine W_okd 1 300 _ _ _ _ ?_
  repeat' (first | refine stpA ?_ | (refine condS ?_ ?_ <;> intro h))
  refine ev_seq (b := suf 11 f194.body) ?_
  refine W_okd 1 300 _ _ _ _ ?_
  repeat' (first | refine stpA ?_ | (refine condS ?_ ?_ <;> intro h))
  refine ev_le [] [(68, some (_, .cells ({ zeroM with kind := 4 } : PMsg).enc))] trivial ⟨⟨rfl, .refl _, .refl _, .refl _, .refl _, .refl _, LeP.nil 2, LeP.nil 2, .refl _, LeP.nil 2, .refl _, .refl _, .refl _, .refl _, .refl _, .refl _, .refl _, .refl _, .refl _, LeP.nil 1, .refl _, .refl _, LeP.nil 1, LeP.nil 2, LeP.nil 2, .refl _, .refl _, LeP.nil 1, trivial⟩, trivial⟩ ?_
  refine ev_keep [4, 5, 6, 7] [68, 70] ?_
  exact K _ _ _ _ _
theorem dec194_k5 (d : List UInt8) (wide : Bool) (x y : UInt8) (n : Nat) (t : Ret) (K : ∀ (g1 g2 : Nat) (T : List (Nat × AV)) (H : Heap) (c : Nat), Ev G ⟨[.code (suf 11 f194.body)], ⟨(4, .ref 68 g1 0) :: (5, .int .i64 (n : Nat)) :: (6, .ref 70 g2 0) :: (7, .int .i64 (if d = [0, 1, 0, 1] then 0 else 2)) :: T, (68, some (g1, .cells ({ zeroM with kind := 5 } : PMsg).enc)) :: (70, some (g2, .cells (if d = [0, 1, 0, 1] then zeroM else noteM 1 2 [x, y]).enc)) :: H, c⟩, [.cell 4 (some 27), .t 5, .cell 6 (some 27), .t 7], 0⟩ t) (g1 g2 g3 : Nat) (T : List (Nat × AV)) (H : Heap) (c : Nat) : Ev G ⟨[.code (suf 9 f194.body)], ⟨(14, .sl 1 (byteCells d)) :: (5, .int .i64 (n : Nat)) :: (12, .int .i64 5) :: (13, .ref 77 g3 0) :: (1, .bool wide) :: (4, .ref 68 g1 0) :: (6, .ref 70 g2 0) :: (7, .int .i64 0) :: T, (77, some (g3, .cells (noteM 1 2 [x, y]).enc)) :: (68, some (g1, .cells zeroM.enc)) :: (70, some (g2, .cells zeroM.enc)) :: H, c⟩, [.cell 4 (some 27), .t 5, .cell 6 (some 27), .t 7], 0⟩ t := by
  by_cases h : d = [0, 1, 0, 1]
  · rw [if_pos h, if_pos h] at K
    subst h
    refine ev_seq (b := suf 10 f194.body) ?_
    refine W_okd 1 300 _ _ _ _ ?_
    repeat' (first | refine stpA ?_ | (refine condS ?_ ?_ <;> intro h))
    refine ev_seq (b := suf 11 f194.body) ?_
    refine W_okd 1 300 _ _ _ _ ?_
    repeat' (first | refine stpA ?_ | refine zBv (l := [0, 1, 0, 1]) rfl rfl ?_ | (refine condS ?_ ?_ <;> intro h))
    refine ev_le [] [(68, some (_, .cells ({ zeroM with kind := 5 } : PMsg).enc))] trivial ⟨⟨rfl, .refl _, .refl _, .refl _, .refl _, .refl _, LeP.nil 2, LeP.nil 2, .refl _, LeP.nil 2, .refl _, .refl _, .refl _, .refl _, .refl _, .refl _, .refl _, .refl _, .refl _, LeP.nil 1, .refl _, .refl _, LeP.nil 1, LeP.nil 2, LeP.nil 2, .refl _, .refl _, LeP.nil 1, trivial⟩, trivial⟩ ?_
    refine ev_keep [4, 5, 6, 7] [68, 70] ?_
    exact K _ _ _ _ _
  · rw [if_neg h, if_neg h] at K
    have hs : (d == [0, 1, 0, 1]) = false := by simpa using h
    have hs2 : (d != [0, 1, 0, 1]) = true := by simpa using h
    refine ev_seq (b := suf 10 f194.body) ?_
    refine W_okd 1 300 _ _ _ _ ?_
    repeat' (first | refine stpA ?_ | (refine condS ?_ ?_ <;> intro h))
    refine ev_seq (b := suf 11 f194.body) ?_
    refine W_okd 1 300 _ _ _ _ ?_
    repeat' (first | refine stpA ?_ | refine zBv (l := [0, 1, 0, 1]) rfl rfl ?_ | (refine condS ?_ ?_ <;> intro h))
    refine ev_le [] [(68, some (_, .cells ({ zeroM with kind := 5 } : PMsg).enc))] trivial ⟨⟨rfl, .refl _, .refl _, .refl _, .refl _, .refl _, LeP.nil 2, LeP.nil 2, .refl _, LeP.nil 2, .refl _, .refl _, .refl _, .refl _, .refl _, .refl _, .refl _, .refl _, .refl _, LeP.nil 1, .refl _, .refl _, LeP.nil 1, LeP.nil 2, LeP.nil 2, .refl _, .refl _, LeP.nil 1, trivial⟩, trivial⟩ ?_
    refine ev_keep [4, 5, 6, 7] [68, 70] ?_
    exact K _ _ _ _ _
end Go.AM.IR
set_option maxHeartbeats 4000000
set_option maxRecDepth 20000
namespace Go.AM.IR
theorem dec_short69 (wide : Bool) (w N : Nat) (hw : wd wide = w) (hN : N < 2 ^ 29) (b v rest : List UInt8) (c k : UInt8) (n : Nat) (hb0 : (byteCells b)[0]? = some [.int .u8 (c.toNat : Int)]) (hb1 : (byteCells b)[1]? = some [.int .u8 (k.toNat : Int)]) (hbit : bit16 c = false) (hlen : b.length < 2 ^ 29) (hh : 3 ≤ b.length)
  (hget : Gives G 93 [.sl 1 (byteCells b), .int .i64 2, .int .i64 1] [] ⟨.int .i64 (n : Int), []⟩) (hn : n ≤ 65535) (last : Int) (nd : Nat) (hnd : nd < 2 ^ 40) (a : Attrs) (hu : a.unknown.length < 2 ^ 29) (R : Ret)
  (h1 : b.length < 3 + n → R = decR (3, zeroA)) (h2 : 3 + n ≤ b.length → (k.toNat : Int) ≤ last → R = decR (16, zeroA))
  (h3 : 3 + n ≤ b.length → ¬ (k.toNat : Int) ≤ last → badHead ⟨c, k, false, (b.drop 3).take n, b.drop (3 + n)⟩ → R = decR (2, zeroA))
  (h4 : 3 + n ≤ b.length → ¬ (k.toNat : Int) ≤ last → ¬ badHead ⟨c, k, false, (b.drop 3).take n, b.drop (3 + n)⟩ → setA w k.toNat ((b.drop 3).take n) a = none → R = decR (2, zeroA))
  (go : 3 + n ≤ b.length → ¬ (k.toNat : Int) ≤ last → ¬ badHead ⟨c, k, false, (b.drop 3).take n, b.drop (3 + n)⟩ → ∀ a', setA w k.toNat ((b.drop 3).take n) a = some a' → ∀ (T : List (Nat × AV)) (H : Heap) (c g1 g2 g3 : Nat), Ev G ⟨f69x21LH, ⟨(4, .ref 68 g1 0) :: (0, .sl 1 (byteCells (b.drop (3 + n)))) :: (8, .int .i64 ((nd + isReq k.toNat : Nat) : Int)) :: (6, .ref 70 g2 0) :: (1, .bool wide) :: (7, .int .i64 (k.toNat : Int)) :: T, (68, some (g1, .cells zeroC)) :: (70, some (g2, .cells (a'.cellsV (.vs 300 g3 a'.unknown.length)))) :: (300, some (g3, .vec 2 (a'.unknown.map TLV.enc))) :: H, c⟩, [.cell 4 (some 16), .t 5], 0⟩ R)
  (T : List (Nat × AV)) (H : Heap) (c_ g1 g2 g3 : Nat) : Ev G ⟨f69x21LH, ⟨(4, .ref 68 g1 0) :: (0, .sl 1 (byteCells b)) :: (8, .int .i64 (nd : Int)) :: (6, .ref 70 g2 0) :: (1, .bool wide) :: (7, .int .i64 last) :: T, (68, some (g1, .cells zeroC)) :: (70, some (g2, .cells (a.cellsV (.vs 300 g3 a.unknown.length)))) :: (300, some (g3, .vec 2 (a.unknown.map TLV.enc))) :: H, c_⟩, [.cell 4 (some 16), .t 5], 0⟩ R := by
  have hbl := byteCells_length b
  have hk := k.toNat_lt
  have hflag := flag_gives94 (k.toNat : Int) (by omega)
  have hwg := width_gives96 wide
  rw [hw] at hwg
  by_cases c1 : b.length < 3 + n
  · rw [h1 c1]
    refine ev_loop' (W_ok 300 _ _ _ _ ?_)
    repeat' ((conv => whnf); first | refine zAndF hbit ?_ | refine zNotB ?_ | refine bslP (by first | rfl | (simp [pureL, pureLL, AV.pure]; done) | fail) rfl ?_ | refine TakeC.full (by first | rfl | omega | (simp; done) | (simp; omega) | fail) ?_ | refine zBs ?_ | refine zBn ?_ | refine zBv rfl rfl ?_ | refine zN ?_ | refine zC ?_ | refine zC4 ?_ | refine zOr16 ?_ | refine zC1 ?_ | refine zByte ?_ | refine zMaxL ?_ | refine zMaxR ?_ | refine zMinL ?_ | refine zMinR ?_ | refine zShr ?_ | refine zC8 ?_ | refine zQ ?_ | refine zR ?_ | refine zS ?_ | refine zA ?_ | refine zM ?_ | refine xr rfl ?_ | refine ai rfl ?_ | refine condT ?_ | refine condF ?_ | refine condG1 ?_ | refine condG0 ?_ | refine cD ?_ | refine dD ?_ | refine cB ?_ | refine dB ?_ | refine cN ?_ | refine dN ?_ | refine cV ?_ | refine dV ?_ | refine cE ?_ | refine dE ?_ | refine condX0 ?_ | refine condX1 ?_ | refine condNot ?_ | refine condAnd ?_ | refine condOr ?_ | refine aO ?_ | refine aB ?_ | refine aR ?_ | refine aR ?_ (by simp; omega) | refine xr (by assumption) ?_ | refine ai (by assumption) ?_ | refine kV (by assumption) ?_ | refine kN (by assumption) ?_ | refine callW (by assumption) ?_ | refine condD (fun h => ?_) (fun h => ?_) | refine condB (fun h => ?_) (fun h => ?_) | refine condN (fun h => ?_) (fun h => ?_) | refine condE (fun h => ?_) (fun h => ?_) | refine condV (fun h => ?_) (fun h => ?_))
    refine ev_le [] [(68, some (_, .cells zeroA.enc))] trivial ⟨⟨rfl, .refl _, LeP.nil 2, .refl _, .refl _, .refl _, .refl _, .refl _, .refl _, .refl _, .refl _, .refl _, LeP.nil 1, .refl _, .refl _, LeP.nil 1, LeP.nil 2, trivial⟩, trivial⟩ ?_
    (first | refine fin1 ?_ | refine fin0 ?_)
    (conv => whnf); exact And.intro (by first | rfl | (simp [AV.pure, pureL]; done) | fail) rfl
  have c1 : 3 + n ≤ b.length := by omega
  by_cases c2 : (k.toNat : Int) ≤ last
  · rw [h2 c1 c2]
    refine ev_loop' (W_ok 300 _ _ _ _ ?_)
    repeat' ((conv => whnf); first | refine zAndF hbit ?_ | refine zNotB ?_ | refine bslP (by first | rfl | (simp [pureL, pureLL, AV.pure]; done) | fail) rfl ?_ | refine TakeC.full (by first | rfl | omega | (simp; done) | (simp; omega) | fail) ?_ | refine zBs ?_ | refine zBn ?_ | refine zBv rfl rfl ?_ | refine zN ?_ | refine zC ?_ | refine zC4 ?_ | refine zOr16 ?_ | refine zC1 ?_ | refine zByte ?_ | refine zMaxL ?_ | refine zMaxR ?_ | refine zMinL ?_ | refine zMinR ?_ | refine zShr ?_ | refine zC8 ?_ | refine zQ ?_ | refine zR ?_ | refine zS ?_ | refine zA ?_ | refine zM ?_ | refine xr rfl ?_ | refine ai rfl ?_ | refine condT ?_ | refine condF ?_ | refine condG1 ?_ | refine condG0 ?_ | refine cD ?_ | refine dD ?_ | refine cB ?_ | refine dB ?_ | refine cN ?_ | refine dN ?_ | refine cV ?_ | refine dV ?_ | refine cE ?_ | refine dE ?_ | refine condX0 ?_ | refine condX1 ?_ | refine condNot ?_ | refine condAnd ?_ | refine condOr ?_ | refine aO ?_ | refine aB ?_ | refine aR ?_ | refine aR ?_ (by simp; omega) | refine xr (by assumption) ?_ | refine ai (by assumption) ?_ | refine kV (by assumption) ?_ | refine kN (by assumption) ?_ | refine callW (by assumption) ?_ | refine condD (fun h => ?_) (fun h => ?_) | refine condB (fun h => ?_) (fun h => ?_) | refine condN (fun h => ?_) (fun h => ?_) | refine condE (fun h => ?_) (fun h => ?_) | refine condV (fun h => ?_) (fun h => ?_))
    refine ev_le [] [(68, some (_, .cells zeroA.enc))] trivial ⟨⟨rfl, .refl _, LeP.nil 2, .refl _, .refl _, .refl _, .refl _, .refl _, .refl _, .refl _, .refl _, .refl _, LeP.nil 1, .refl _, .refl _, LeP.nil 1, LeP.nil 2, trivial⟩, trivial⟩ ?_
    (first | refine fin1 ?_ | refine fin0 ?_)
    (conv => whnf); exact And.intro (by first | rfl | (simp [AV.pure, pureL]; done) | fail) rfl
  have hvl : ((b.drop 3).take n).length = n := by simp; omega
  by_cases c3 : stripB c = ((flagS (k.toNat : Int)).toNat : Int)
  · have hnb : ¬ badHead ⟨c, k, false, (b.drop 3).take n, b.drop (3 + n)⟩ := by simp [badHead, c3]
    have hsl := slice_eq b 3 n (3 + (n : Int)).toNat (by omega)
    have hwl := wd_le wide
    rw [hw] at hwl
    have hrd := read_gives95 k.toNat (by omega) a ((b.drop 3).take n) (by omega) (by omega) w hwl
    unfold readR at hrd
    cases hs : setA w k.toNat ((b.drop 3).take n) a with
    | none =>
      rw [hs] at hrd
      rw [h4 c1 c2 hnb hs]
      rw [← hsl] at hrd
      refine ev_loop' (W_ok 300 _ _ _ _ ?_)
      repeat' ((conv => whnf); first | refine zAndF hbit ?_ | refine zNotB ?_ | refine bslP (by first | rfl | (simp [pureL, pureLL, AV.pure]; done) | fail) rfl ?_ | refine TakeC.full (by first | rfl | omega | (simp; done) | (simp; omega) | fail) ?_ | refine zBs ?_ | refine zBn ?_ | refine zBv rfl rfl ?_ | refine zN ?_ | refine zC ?_ | refine zC4 ?_ | refine zOr16 ?_ | refine zC1 ?_ | refine zByte ?_ | refine zMaxL ?_ | refine zMaxR ?_ | refine zMinL ?_ | refine zMinR ?_ | refine zShr ?_ | refine zC8 ?_ | refine zQ ?_ | refine zR ?_ | refine zS ?_ | refine zA ?_ | refine zM ?_ | refine xr rfl ?_ | refine ai rfl ?_ | refine condT ?_ | refine condF ?_ | refine condG1 ?_ | refine condG0 ?_ | refine cD ?_ | refine dD ?_ | refine cB ?_ | refine dB ?_ | refine cN ?_ | refine dN ?_ | refine cV ?_ | refine dV ?_ | refine cE ?_ | refine dE ?_ | refine condX0 ?_ | refine condX1 ?_ | refine condNot ?_ | refine condAnd ?_ | refine condOr ?_ | refine aO ?_ | refine aB ?_ | refine aR ?_ | refine aR ?_ (by simp; omega) | refine xr (by assumption) ?_ | refine ai (by assumption) ?_ | refine kX [(70, _, _), (300, _, _)] [] ⟨rfl, rfl, trivial⟩ trivial (hrd) ?_ | refine kV (by assumption) ?_ | refine kN (by assumption) ?_ | refine callW (by assumption) ?_ | refine condD (fun h => ?_) (fun h => ?_) | refine condB (fun h => ?_) (fun h => ?_) | refine condN (fun h => ?_) (fun h => ?_) | refine condE (fun h => ?_) (fun h => ?_) | refine condV (fun h => ?_) (fun h => ?_))
      refine ev_le [] [(68, some (_, .cells zeroA.enc))] trivial ⟨⟨rfl, .refl _, LeP.nil 2, .refl _, .refl _, .refl _, .refl _, .refl _, .refl _, .refl _, .refl _, .refl _, LeP.nil 1, .refl _, .refl _, LeP.nil 1, LeP.nil 2, trivial⟩, trivial⟩ ?_
      (first | refine fin1 ?_ | refine fin0 ?_)
      (conv => whnf); exact And.intro (by first | rfl | (simp [AV.pure, pureL]; done) | fail) rfl
    | some a' =>
      rw [hs] at hrd
      rw [← hsl] at hrd
      have go := go c1 c2 hnb a' hs
      simp only [readRet] at hrd
      by_cases hq : 1 ≤ k.toNat ∧ k.toNat ≤ 3
      · rw [show isKind k.toNat = true from by simp [isKind]; omega] at hrd
        rw [show ((nd + isReq k.toNat : Nat) : Int) = (nd : Int) + 1 from by simp [isReq, hq]] at go
        refine ev_loop' (W_ok 300 _ _ _ _ ?_)
        repeat' ((conv => whnf); first | refine zAndF hbit ?_ | refine zNotB ?_ | refine bslP (by first | rfl | (simp [pureL, pureLL, AV.pure]; done) | fail) rfl ?_ | refine TakeC.full (by first | rfl | omega | (simp; done) | (simp; omega) | fail) ?_ | refine zBs ?_ | refine zBn ?_ | refine zBv rfl rfl ?_ | refine zN ?_ | refine zC ?_ | refine zC4 ?_ | refine zOr16 ?_ | refine zC1 ?_ | refine zByte ?_ | refine zMaxL ?_ | refine zMaxR ?_ | refine zMinL ?_ | refine zMinR ?_ | refine zShr ?_ | refine zC8 ?_ | refine zQ ?_ | refine zR ?_ | refine zS ?_ | refine zA ?_ | refine zM ?_ | refine xr rfl ?_ | refine ai rfl ?_ | refine condT ?_ | refine condF ?_ | refine condG1 ?_ | refine condG0 ?_ | refine cD ?_ | refine dD ?_ | refine cB ?_ | refine dB ?_ | refine cN ?_ | refine dN ?_ | refine cV ?_ | refine dV ?_ | refine cE ?_ | refine dE ?_ | refine condX0 ?_ | refine condX1 ?_ | refine condNot ?_ | refine condAnd ?_ | refine condOr ?_ | refine aO ?_ | refine aB ?_ | refine aR ?_ | refine aR ?_ (by simp; omega) | refine xr (by assumption) ?_ | refine ai (by assumption) ?_ | refine kX [(70, _, _), (300, _, _)] [] ⟨rfl, rfl, trivial⟩ trivial (hrd) ?_ | refine kV (by assumption) ?_ | refine kN (by assumption) ?_ | refine callW (by assumption) ?_ | refine condD (fun h => ?_) (fun h => ?_) | refine condB (fun h => ?_) (fun h => ?_) | refine condN (fun h => ?_) (fun h => ?_) | refine condE (fun h => ?_) (fun h => ?_) | refine condV (fun h => ?_) (fun h => ?_))
        refine ev_keep [4, 0, 8, 6, 1, 7] [68, 70, 300] ?_
        rw [tail_eq b _ _ (by omega), show (3 + (n : Int)).toNat = 3 + n from by omega]
        exact go _ _ _ _ _ _
      · rw [show ((nd + isReq k.toNat : Nat) : Int) = (nd : Int) from by simp [isReq, hq]] at go
        cases hik : isKind k.toNat
        · rw [hik] at hrd
          refine ev_loop' (W_ok 300 _ _ _ _ ?_)
          repeat' ((conv => whnf); first | refine zAndF hbit ?_ | refine zNotB ?_ | refine bslP (by first | rfl | (simp [pureL, pureLL, AV.pure]; done) | fail) rfl ?_ | refine TakeC.full (by first | rfl | omega | (simp; done) | (simp; omega) | fail) ?_ | refine zBs ?_ | refine zBn ?_ | refine zBv rfl rfl ?_ | refine zN ?_ | refine zC ?_ | refine zC4 ?_ | refine zOr16 ?_ | refine zC1 ?_ | refine zByte ?_ | refine zMaxL ?_ | refine zMaxR ?_ | refine zMinL ?_ | refine zMinR ?_ | refine zShr ?_ | refine zC8 ?_ | refine zQ ?_ | refine zR ?_ | refine zS ?_ | refine zA ?_ | refine zM ?_ | refine xr rfl ?_ | refine ai rfl ?_ | refine condT ?_ | refine condF ?_ | refine condG1 ?_ | refine condG0 ?_ | refine cD ?_ | refine dD ?_ | refine cB ?_ | refine dB ?_ | refine cN ?_ | refine dN ?_ | refine cV ?_ | refine dV ?_ | refine cE ?_ | refine dE ?_ | refine condX0 ?_ | refine condX1 ?_ | refine condNot ?_ | refine condAnd ?_ | refine condOr ?_ | refine aO ?_ | refine aB ?_ | refine aR ?_ | refine aR ?_ (by simp; omega) | refine xr (by assumption) ?_ | refine ai (by assumption) ?_ | refine kX [(70, _, _), (300, _, _)] [] ⟨rfl, rfl, trivial⟩ trivial (hrd) ?_ | refine kV (by assumption) ?_ | refine kN (by assumption) ?_ | refine callW (by assumption) ?_ | refine condD (fun h => ?_) (fun h => ?_) | refine condB (fun h => ?_) (fun h => ?_) | refine condN (fun h => ?_) (fun h => ?_) | refine condE (fun h => ?_) (fun h => ?_) | refine condV (fun h => ?_) (fun h => ?_))
          all_goals
            refine ev_keep [4, 0, 8, 6, 1, 7] [68, 70, 300] ?_
            rw [tail_eq b _ _ (by omega), show (3 + (n : Int)).toNat = 3 + n from by omega]
            exact go _ _ _ _ _ _
        · rw [hik] at hrd
          refine ev_loop' (W_ok 300 _ _ _ _ ?_)
          repeat' ((conv => whnf); first | refine zAndF hbit ?_ | refine zNotB ?_ | refine bslP (by first | rfl | (simp [pureL, pureLL, AV.pure]; done) | fail) rfl ?_ | refine TakeC.full (by first | rfl | omega | (simp; done) | (simp; omega) | fail) ?_ | refine zBs ?_ | refine zBn ?_ | refine zBv rfl rfl ?_ | refine zN ?_ | refine zC ?_ | refine zC4 ?_ | refine zOr16 ?_ | refine zC1 ?_ | refine zByte ?_ | refine zMaxL ?_ | refine zMaxR ?_ | refine zMinL ?_ | refine zMinR ?_ | refine zShr ?_ | refine zC8 ?_ | refine zQ ?_ | refine zR ?_ | refine zS ?_ | refine zA ?_ | refine zM ?_ | refine xr rfl ?_ | refine ai rfl ?_ | refine condT ?_ | refine condF ?_ | refine condG1 ?_ | refine condG0 ?_ | refine cD ?_ | refine dD ?_ | refine cB ?_ | refine dB ?_ | refine cN ?_ | refine dN ?_ | refine cV ?_ | refine dV ?_ | refine cE ?_ | refine dE ?_ | refine condX0 ?_ | refine condX1 ?_ | refine condNot ?_ | refine condAnd ?_ | refine condOr ?_ | refine aO ?_ | refine aB ?_ | refine aR ?_ | refine aR ?_ (by simp; omega) | refine xr (by assumption) ?_ | refine ai (by assumption) ?_ | refine kX [(70, _, _), (300, _, _)] [] ⟨rfl, rfl, trivial⟩ trivial (hrd) ?_ | refine kV (by assumption) ?_ | refine kN (by assumption) ?_ | refine callW (by assumption) ?_ | refine condD (fun h => ?_) (fun h => ?_) | refine condB (fun h => ?_) (fun h => ?_) | refine condN (fun h => ?_) (fun h => ?_) | refine condE (fun h => ?_) (fun h => ?_) | refine condV (fun h => ?_) (fun h => ?_))
          all_goals
            refine ev_keep [4, 0, 8, 6, 1, 7] [68, 70, 300] ?_
            rw [tail_eq b _ _ (by omega), show (3 + (n : Int)).toNat = 3 + n from by omega]
            exact go _ _ _ _ _ _
  · rw [h3 c1 c2 (.inl c3)]
    refine ev_loop' (W_ok 300 _ _ _ _ ?_)
    repeat' ((conv => whnf); first | refine zAndF hbit ?_ | refine zNotB ?_ | refine bslP (by first | rfl | (simp [pureL, pureLL, AV.pure]; done) | fail) rfl ?_ | refine TakeC.full (by first | rfl | omega | (simp; done) | (simp; omega) | fail) ?_ | refine zBs ?_ | refine zBn ?_ | refine zBv rfl rfl ?_ | refine zN ?_ | refine zC ?_ | refine zC4 ?_ | refine zOr16 ?_ | refine zC1 ?_ | refine zByte ?_ | refine zMaxL ?_ | refine zMaxR ?_ | refine zMinL ?_ | refine zMinR ?_ | refine zShr ?_ | refine zC8 ?_ | refine zQ ?_ | refine zR ?_ | refine zS ?_ | refine zA ?_ | refine zM ?_ | refine xr rfl ?_ | refine ai rfl ?_ | refine condT ?_ | refine condF ?_ | refine condG1 ?_ | refine condG0 ?_ | refine cD ?_ | refine dD ?_ | refine cB ?_ | refine dB ?_ | refine cN ?_ | refine dN ?_ | refine cV ?_ | refine dV ?_ | refine cE ?_ | refine dE ?_ | refine condX0 ?_ | refine condX1 ?_ | refine condNot ?_ | refine condAnd ?_ | refine condOr ?_ | refine aO ?_ | refine aB ?_ | refine aR ?_ | refine aR ?_ (by simp; omega) | refine xr (by assumption) ?_ | refine ai (by assumption) ?_ | refine kV (by assumption) ?_ | refine kN (by assumption) ?_ | refine callW (by assumption) ?_ | refine condD (fun h => ?_) (fun h => ?_) | refine condB (fun h => ?_) (fun h => ?_) | refine condN (fun h => ?_) (fun h => ?_) | refine condE (fun h => ?_) (fun h => ?_) | refine condV (fun h => ?_) (fun h => ?_))
    refine ev_le [] [(68, some (_, .cells zeroA.enc))] trivial ⟨⟨rfl, .refl _, LeP.nil 2, .refl _, .refl _, .refl _, .refl _, .refl _, .refl _, .refl _, .refl _, .refl _, LeP.nil 1, .refl _, .refl _, LeP.nil 1, LeP.nil 2, trivial⟩, trivial⟩ ?_
    (first | refine fin1 ?_ | refine fin0 ?_)
    (conv => whnf); exact And.intro (by first | rfl | (simp [AV.pure, pureL]; done) | fail) rfl
end Go.AM.IR
set_option maxHeartbeats 4000000
set_option maxRecDepth 20000
namespace Go.AM.IR
theorem dec_long69 (wide : Bool) (w N : Nat) (hw : wd wide = w) (hN : N < 2 ^ 29) (b v rest : List UInt8) (c k : UInt8) (n : Nat) (hb0 : (byteCells b)[0]? = some [.int .u8 (c.toNat : Int)]) (hb1 : (byteCells b)[1]? = some [.int .u8 (k.toNat : Int)]) (hbit : bit16 c = true) (hlen : b.length < 2 ^ 29) (hh : 4 ≤ b.length)
  (hget : Gives G 93 [.sl 1 (byteCells b), .int .i64 2, .int .i64 2] [] ⟨.int .i64 (n : Int), []⟩) (hn : n ≤ 65535) (last : Int) (nd : Nat) (hnd : nd < 2 ^ 40) (a : Attrs) (hu : a.unknown.length < 2 ^ 29) (R : Ret)
  (h1 : b.length < 4 + n → R = decR (3, zeroA)) (h2 : 4 + n ≤ b.length → (k.toNat : Int) ≤ last → R = decR (16, zeroA))
  (h3 : 4 + n ≤ b.length → ¬ (k.toNat : Int) ≤ last → badHead ⟨c, k, true, (b.drop 4).take n, b.drop (4 + n)⟩ → R = decR (2, zeroA))
  (h4 : 4 + n ≤ b.length → ¬ (k.toNat : Int) ≤ last → ¬ badHead ⟨c, k, true, (b.drop 4).take n, b.drop (4 + n)⟩ → setA w k.toNat ((b.drop 4).take n) a = none → R = decR (2, zeroA))
  (go : 4 + n ≤ b.length → ¬ (k.toNat : Int) ≤ last → ¬ badHead ⟨c, k, true, (b.drop 4).take n, b.drop (4 + n)⟩ → ∀ a', setA w k.toNat ((b.drop 4).take n) a = some a' → ∀ (T : List (Nat × AV)) (H : Heap) (c g1 g2 g3 : Nat), Ev G ⟨f69x21LH, ⟨(4, .ref 68 g1 0) :: (0, .sl 1 (byteCells (b.drop (4 + n)))) :: (8, .int .i64 ((nd + isReq k.toNat : Nat) : Int)) :: (6, .ref 70 g2 0) :: (1, .bool wide) :: (7, .int .i64 (k.toNat : Int)) :: T, (68, some (g1, .cells zeroC)) :: (70, some (g2, .cells (a'.cellsV (.vs 300 g3 a'.unknown.length)))) :: (300, some (g3, .vec 2 (a'.unknown.map TLV.enc))) :: H, c⟩, [.cell 4 (some 16), .t 5], 0⟩ R)
  (T : List (Nat × AV)) (H : Heap) (c_ g1 g2 g3 : Nat) : Ev G ⟨f69x21LH, ⟨(4, .ref 68 g1 0) :: (0, .sl 1 (byteCells b)) :: (8, .int .i64 (nd : Int)) :: (6, .ref 70 g2 0) :: (1, .bool wide) :: (7, .int .i64 last) :: T, (68, some (g1, .cells zeroC)) :: (70, some (g2, .cells (a.cellsV (.vs 300 g3 a.unknown.length)))) :: (300, some (g3, .vec 2 (a.unknown.map TLV.enc))) :: H, c_⟩, [.cell 4 (some 16), .t 5], 0⟩ R := by
  have hbl := byteCells_length b
  have hk := k.toNat_lt
  have hflag := flag_gives94 (k.toNat : Int) (by omega)
  have hwg := width_gives96 wide
  rw [hw] at hwg
  by_cases c1 : b.length < 4 + n
  · rw [h1 c1]
    refine ev_loop' (W_ok 300 _ _ _ _ ?_)
    repeat' ((conv => whnf); first | refine zAndT hbit ?_ | refine zNotB ?_ | refine bslP (by first | rfl | (simp [pureL, pureLL, AV.pure]; done) | fail) rfl ?_ | refine TakeC.full (by first | rfl | omega | (simp; done) | (simp; omega) | fail) ?_ | refine zBs ?_ | refine zBn ?_ | refine zBv rfl rfl ?_ | refine zN ?_ | refine zC ?_ | refine zC4 ?_ | refine zOr16 ?_ | refine zC1 ?_ | refine zByte ?_ | refine zMaxL ?_ | refine zMaxR ?_ | refine zMinL ?_ | refine zMinR ?_ | refine zShr ?_ | refine zC8 ?_ | refine zQ ?_ | refine zR ?_ | refine zS ?_ | refine zA ?_ | refine zM ?_ | refine xr rfl ?_ | refine ai rfl ?_ | refine condT ?_ | refine condF ?_ | refine condG1 ?_ | refine condG0 ?_ | refine cD ?_ | refine dD ?_ | refine cB ?_ | refine dB ?_ | refine cN ?_ | refine dN ?_ | refine cV ?_ | refine dV ?_ | refine cE ?_ | refine dE ?_ | refine condX0 ?_ | refine condX1 ?_ | refine condNot ?_ | refine condAnd ?_ | refine condOr ?_ | refine aO ?_ | refine aB ?_ | refine aR ?_ | refine aR ?_ (by simp; omega) | refine xr (by assumption) ?_ | refine ai (by assumption) ?_ | refine kV (by assumption) ?_ | refine kN (by assumption) ?_ | refine callW (by assumption) ?_ | refine condD (fun h => ?_) (fun h => ?_) | refine condB (fun h => ?_) (fun h => ?_) | refine condN (fun h => ?_) (fun h => ?_) | refine condE (fun h => ?_) (fun h => ?_) | refine condV (fun h => ?_) (fun h => ?_))
    refine ev_le [] [(68, some (_, .cells zeroA.enc))] trivial ⟨⟨rfl, .refl _, LeP.nil 2, .refl _, .refl _, .refl _, .refl _, .refl _, .refl _, .refl _, .refl _, .refl _, LeP.nil 1, .refl _, .refl _, LeP.nil 1, LeP.nil 2, trivial⟩, trivial⟩ ?_
    (first | refine fin1 ?_ | refine fin0 ?_)
    (conv => whnf); exact And.intro (by first | rfl | (simp [AV.pure, pureL]; done) | fail) rfl
  have c1 : 4 + n ≤ b.length := by omega
  by_cases c2 : (k.toNat : Int) ≤ last
  · rw [h2 c1 c2]
    refine ev_loop' (W_ok 300 _ _ _ _ ?_)
    repeat' ((conv => whnf); first | refine zAndT hbit ?_ | refine zNotB ?_ | refine bslP (by first | rfl | (simp [pureL, pureLL, AV.pure]; done) | fail) rfl ?_ | refine TakeC.full (by first | rfl | omega | (simp; done) | (simp; omega) | fail) ?_ | refine zBs ?_ | refine zBn ?_ | refine zBv rfl rfl ?_ | refine zN ?_ | refine zC ?_ | refine zC4 ?_ | refine zOr16 ?_ | refine zC1 ?_ | refine zByte ?_ | refine zMaxL ?_ | refine zMaxR ?_ | refine zMinL ?_ | refine zMinR ?_ | refine zShr ?_ | refine zC8 ?_ | refine zQ ?_ | refine zR ?_ | refine zS ?_ | refine zA ?_ | refine zM ?_ | refine xr rfl ?_ | refine ai rfl ?_ | refine condT ?_ | refine condF ?_ | refine condG1 ?_ | refine condG0 ?_ | refine cD ?_ | refine dD ?_ | refine cB ?_ | refine dB ?_ | refine cN ?_ | refine dN ?_ | refine cV ?_ | refine dV ?_ | refine cE ?_ | refine dE ?_ | refine condX0 ?_ | refine condX1 ?_ | refine condNot ?_ | refine condAnd ?_ | refine condOr ?_ | refine aO ?_ | refine aB ?_ | refine aR ?_ | refine aR ?_ (by simp; omega) | refine xr (by assumption) ?_ | refine ai (by assumption) ?_ | refine kV (by assumption) ?_ | refine kN (by assumption) ?_ | refine callW (by assumption) ?_ | refine condD (fun h => ?_) (fun h => ?_) | refine condB (fun h => ?_) (fun h => ?_) | refine condN (fun h => ?_) (fun h => ?_) | refine condE (fun h => ?_) (fun h => ?_) | refine condV (fun h => ?_) (fun h => ?_))
    refine ev_le [] [(68, some (_, .cells zeroA.enc))] trivial ⟨⟨rfl, .refl _, LeP.nil 2, .refl _, .refl _, .refl _, .refl _, .refl _, .refl _, .refl _, .refl _, .refl _, LeP.nil 1, .refl _, .refl _, LeP.nil 1, LeP.nil 2, trivial⟩, trivial⟩ ?_
    (first | refine fin1 ?_ | refine fin0 ?_)
    (conv => whnf); exact And.intro (by first | rfl | (simp [AV.pure, pureL]; done) | fail) rfl
  have hvl : ((b.drop 4).take n).length = n := by simp; omega
  by_cases c3 : stripB c = ((flagS (k.toNat : Int)).toNat : Int)
  · by_cases c4 : n ≤ 255
    · rw [h3 c1 c2 (.inr ⟨rfl, by simp only; omega⟩)]
      refine ev_loop' (W_ok 300 _ _ _ _ ?_)
      repeat' ((conv => whnf); first | refine zAndT hbit ?_ | refine zNotB ?_ | refine bslP (by first | rfl | (simp [pureL, pureLL, AV.pure]; done) | fail) rfl ?_ | refine TakeC.full (by first | rfl | omega | (simp; done) | (simp; omega) | fail) ?_ | refine zBs ?_ | refine zBn ?_ | refine zBv rfl rfl ?_ | refine zN ?_ | refine zC ?_ | refine zC4 ?_ | refine zOr16 ?_ | refine zC1 ?_ | refine zByte ?_ | refine zMaxL ?_ | refine zMaxR ?_ | refine zMinL ?_ | refine zMinR ?_ | refine zShr ?_ | refine zC8 ?_ | refine zQ ?_ | refine zR ?_ | refine zS ?_ | refine zA ?_ | refine zM ?_ | refine xr rfl ?_ | refine ai rfl ?_ | refine condT ?_ | refine condF ?_ | refine condG1 ?_ | refine condG0 ?_ | refine cD ?_ | refine dD ?_ | refine cB ?_ | refine dB ?_ | refine cN ?_ | refine dN ?_ | refine cV ?_ | refine dV ?_ | refine cE ?_ | refine dE ?_ | refine condX0 ?_ | refine condX1 ?_ | refine condNot ?_ | refine condAnd ?_ | refine condOr ?_ | refine aO ?_ | refine aB ?_ | refine aR ?_ | refine aR ?_ (by simp; omega) | refine xr (by assumption) ?_ | refine ai (by assumption) ?_ | refine kV (by assumption) ?_ | refine kN (by assumption) ?_ | refine callW (by assumption) ?_ | refine condD (fun h => ?_) (fun h => ?_) | refine condB (fun h => ?_) (fun h => ?_) | refine condN (fun h => ?_) (fun h => ?_) | refine condE (fun h => ?_) (fun h => ?_) | refine condV (fun h => ?_) (fun h => ?_))
      refine ev_le [] [(68, some (_, .cells zeroA.enc))] trivial ⟨⟨rfl, .refl _, LeP.nil 2, .refl _, .refl _, .refl _, .refl _, .refl _, .refl _, .refl _, .refl _, .refl _, LeP.nil 1, .refl _, .refl _, LeP.nil 1, LeP.nil 2, trivial⟩, trivial⟩ ?_
      (first | refine fin1 ?_ | refine fin0 ?_)
      (conv => whnf); exact And.intro (by first | rfl | (simp [AV.pure, pureL]; done) | fail) rfl
    · have hnb : ¬ badHead ⟨c, k, true, (b.drop 4).take n, b.drop (4 + n)⟩ := by simp [badHead, c3]; omega
      have hsl := slice_eq b 4 n (4 + (n : Int)).toNat (by omega)
      have hwl := wd_le wide
      rw [hw] at hwl
      have hrd := read_gives95 k.toNat (by omega) a ((b.drop 4).take n) (by omega) (by omega) w hwl
      unfold readR at hrd
      cases hs : setA w k.toNat ((b.drop 4).take n) a with
      | none =>
        rw [hs] at hrd
        rw [h4 c1 c2 hnb hs]
        rw [← hsl] at hrd
        refine ev_loop' (W_ok 300 _ _ _ _ ?_)
        repeat' ((conv => whnf); first | refine zAndT hbit ?_ | refine zNotB ?_ | refine bslP (by first | rfl | (simp [pureL, pureLL, AV.pure]; done) | fail) rfl ?_ | refine TakeC.full (by first | rfl | omega | (simp; done) | (simp; omega) | fail) ?_ | refine zBs ?_ | refine zBn ?_ | refine zBv rfl rfl ?_ | refine zN ?_ | refine zC ?_ | refine zC4 ?_ | refine zOr16 ?_ | refine zC1 ?_ | refine zByte ?_ | refine zMaxL ?_ | refine zMaxR ?_ | refine zMinL ?_ | refine zMinR ?_ | refine zShr ?_ | refine zC8 ?_ | refine zQ ?_ | refine zR ?_ | refine zS ?_ | refine zA ?_ | refine zM ?_ | refine xr rfl ?_ | refine ai rfl ?_ | refine condT ?_ | refine condF ?_ | refine condG1 ?_ | refine condG0 ?_ | refine cD ?_ | refine dD ?_ | refine cB ?_ | refine dB ?_ | refine cN ?_ | refine dN ?_ | refine cV ?_ | refine dV ?_ | refine cE ?_ | refine dE ?_ | refine condX0 ?_ | refine condX1 ?_ | refine condNot ?_ | refine condAnd ?_ | refine condOr ?_ | refine aO ?_ | refine aB ?_ | refine aR ?_ | refine aR ?_ (by simp; omega) | refine xr (by assumption) ?_ | refine ai (by assumption) ?_ | refine kX [(70, _, _), (300, _, _)] [] ⟨rfl, rfl, trivial⟩ trivial (hrd) ?_ | refine kV (by assumption) ?_ | refine kN (by assumption) ?_ | refine callW (by assumption) ?_ | refine condD (fun h => ?_) (fun h => ?_) | refine condB (fun h => ?_) (fun h => ?_) | refine condN (fun h => ?_) (fun h => ?_) | refine condE (fun h => ?_) (fun h => ?_) | refine condV (fun h => ?_) (fun h => ?_))
        refine ev_le [] [(68, some (_, .cells zeroA.enc))] trivial ⟨⟨rfl, .refl _, LeP.nil 2, .refl _, .refl _, .refl _, .refl _, .refl _, .refl _, .refl _, .refl _, .refl _, LeP.nil 1, .refl _, .refl _, LeP.nil 1, LeP.nil 2, trivial⟩, trivial⟩ ?_
        (first | refine fin1 ?_ | refine fin0 ?_)
        (conv => whnf); exact And.intro (by first | rfl | (simp [AV.pure, pureL]; done) | fail) rfl
      | some a' =>
        rw [hs] at hrd
        rw [← hsl] at hrd
        have go := go c1 c2 hnb a' hs
        simp only [readRet] at hrd
        by_cases hq : 1 ≤ k.toNat ∧ k.toNat ≤ 3
        · rw [show isKind k.toNat = true from by simp [isKind]; omega] at hrd
          rw [show ((nd + isReq k.toNat : Nat) : Int) = (nd : Int) + 1 from by simp [isReq, hq]] at go
          refine ev_loop' (W_ok 300 _ _ _ _ ?_)
          repeat' ((conv => whnf); first | refine zAndT hbit ?_ | refine zNotB ?_ | refine bslP (by first | rfl | (simp [pureL, pureLL, AV.pure]; done) | fail) rfl ?_ | refine TakeC.full (by first | rfl | omega | (simp; done) | (simp; omega) | fail) ?_ | refine zBs ?_ | refine zBn ?_ | refine zBv rfl rfl ?_ | refine zN ?_ | refine zC ?_ | refine zC4 ?_ | refine zOr16 ?_ | refine zC1 ?_ | refine zByte ?_ | refine zMaxL ?_ | refine zMaxR ?_ | refine zMinL ?_ | refine zMinR ?_ | refine zShr ?_ | refine zC8 ?_ | refine zQ ?_ | refine zR ?_ | refine zS ?_ | refine zA ?_ | refine zM ?_ | refine xr rfl ?_ | refine ai rfl ?_ | refine condT ?_ | refine condF ?_ | refine condG1 ?_ | refine condG0 ?_ | refine cD ?_ | refine dD ?_ | refine cB ?_ | refine dB ?_ | refine cN ?_ | refine dN ?_ | refine cV ?_ | refine dV ?_ | refine cE ?_ | refine dE ?_ | refine condX0 ?_ | refine condX1 ?_ | refine condNot ?_ | refine condAnd ?_ | refine condOr ?_ | refine aO ?_ | refine aB ?_ | refine aR ?_ | refine aR ?_ (by simp; omega) | refine xr (by assumption) ?_ | refine ai (by assumption) ?_ | refine kX [(70, _, _), (300, _, _)] [] ⟨rfl, rfl, trivial⟩ trivial (hrd) ?_ | refine kV (by assumption) ?_ | refine kN (by assumption) ?_ | refine callW (by assumption) ?_ | refine condD (fun h => ?_) (fun h => ?_) | refine condB (fun h => ?_) (fun h => ?_) | refine condN (fun h => ?_) (fun h => ?_) | refine condE (fun h => ?_) (fun h => ?_) | refine condV (fun h => ?_) (fun h => ?_))
          refine ev_keep [4, 0, 8, 6, 1, 7] [68, 70, 300] ?_
          rw [tail_eq b _ _ (by omega), show (4 + (n : Int)).toNat = 4 + n from by omega]
          exact go _ _ _ _ _ _
        · rw [show ((nd + isReq k.toNat : Nat) : Int) = (nd : Int) from by simp [isReq, hq]] at go
          cases hik : isKind k.toNat
          · rw [hik] at hrd
            refine ev_loop' (W_ok 300 _ _ _ _ ?_)
            repeat' ((conv => whnf); first | refine zAndT hbit ?_ | refine zNotB ?_ | refine bslP (by first | rfl | (simp [pureL, pureLL, AV.pure]; done) | fail) rfl ?_ | refine TakeC.full (by first | rfl | omega | (simp; done) | (simp; omega) | fail) ?_ | refine zBs ?_ | refine zBn ?_ | refine zBv rfl rfl ?_ | refine zN ?_ | refine zC ?_ | refine zC4 ?_ | refine zOr16 ?_ | refine zC1 ?_ | refine zByte ?_ | refine zMaxL ?_ | refine zMaxR ?_ | refine zMinL ?_ | refine zMinR ?_ | refine zShr ?_ | refine zC8 ?_ | refine zQ ?_ | refine zR ?_ | refine zS ?_ | refine zA ?_ | refine zM ?_ | refine xr rfl ?_ | refine ai rfl ?_ | refine condT ?_ | refine condF ?_ | refine condG1 ?_ | refine condG0 ?_ | refine cD ?_ | refine dD ?_ | refine cB ?_ | refine dB ?_ | refine cN ?_ | refine dN ?_ | refine cV ?_ | refine dV ?_ | refine cE ?_ | refine dE ?_ | refine condX0 ?_ | refine condX1 ?_ | refine condNot ?_ | refine condAnd ?_ | refine condOr ?_ | refine aO ?_ | refine aB ?_ | refine aR ?_ | refine aR ?_ (by simp; omega) | refine xr (by assumption) ?_ | refine ai (by assumption) ?_ | refine kX [(70, _, _), (300, _, _)] [] ⟨rfl, rfl, trivial⟩ trivial (hrd) ?_ | refine kV (by assumption) ?_ | refine kN (by assumption) ?_ | refine callW (by assumption) ?_ | refine condD (fun h => ?_) (fun h => ?_) | refine condB (fun h => ?_) (fun h => ?_) | refine condN (fun h => ?_) (fun h => ?_) | refine condE (fun h => ?_) (fun h => ?_) | refine condV (fun h => ?_) (fun h => ?_))
            all_goals
              refine ev_keep [4, 0, 8, 6, 1, 7] [68, 70, 300] ?_
              rw [tail_eq b _ _ (by omega), show (4 + (n : Int)).toNat = 4 + n from by omega]
              exact go _ _ _ _ _ _
          · rw [hik] at hrd
            refine ev_loop' (W_ok 300 _ _ _ _ ?_)
            repeat' ((conv => whnf); first | refine zAndT hbit ?_ | refine zNotB ?_ | refine bslP (by first | rfl | (simp [pureL, pureLL, AV.pure]; done) | fail) rfl ?_ | refine TakeC.full (by first | rfl | omega | (simp; done) | (simp; omega) | fail) ?_ | refine zBs ?_ | refine zBn ?_ | refine zBv rfl rfl ?_ | refine zN ?_ | refine zC ?_ | refine zC4 ?_ | refine zOr16 ?_ | refine zC1 ?_ | refine zByte ?_ | refine zMaxL ?_ | refine zMaxR ?_ | refine zMinL ?_ | refine zMinR ?_ | refine zShr ?_ | refine zC8 ?_ | refine zQ ?_ | refine zR ?_ | refine zS ?_ | refine zA ?_ | refine zM ?_ | refine xr rfl ?_ | refine ai rfl ?_ | refine condT ?_ | refine condF ?_ | refine condG1 ?_ | refine condG0 ?_ | refine cD ?_ | refine dD ?_ | refine cB ?_ | refine dB ?_ | refine cN ?_ | refine dN ?_ | refine cV ?_ | refine dV ?_ | refine cE ?_ | refine dE ?_ | refine condX0 ?_ | refine condX1 ?_ | refine condNot ?_ | refine condAnd ?_ | refine condOr ?_ | refine aO ?_ | refine aB ?_ | refine aR ?_ | refine aR ?_ (by simp; omega) | refine xr (by assumption) ?_ | refine ai (by assumption) ?_ | refine kX [(70, _, _), (300, _, _)] [] ⟨rfl, rfl, trivial⟩ trivial (hrd) ?_ | refine kV (by assumption) ?_ | refine kN (by assumption) ?_ | refine callW (by assumption) ?_ | refine condD (fun h => ?_) (fun h => ?_) | refine condB (fun h => ?_) (fun h => ?_) | refine condN (fun h => ?_) (fun h => ?_) | refine condE (fun h => ?_) (fun h => ?_) | refine condV (fun h => ?_) (fun h => ?_))
            all_goals
              refine ev_keep [4, 0, 8, 6, 1, 7] [68, 70, 300] ?_
              rw [tail_eq b _ _ (by omega), show (4 + (n : Int)).toNat = 4 + n from by omega]
              exact go _ _ _ _ _ _
  · rw [h3 c1 c2 (.inl c3)]
    refine ev_loop' (W_ok 300 _ _ _ _ ?_)
    repeat' ((conv => whnf); first | refine zAndT hbit ?_ | refine zNotB ?_ | refine bslP (by first | rfl | (simp [pureL, pureLL, AV.pure]; done) | fail) rfl ?_ | refine TakeC.full (by first | rfl | omega | (simp; done) | (simp; omega) | fail) ?_ | refine zBs ?_ | refine zBn ?_ | refine zBv rfl rfl ?_ | refine zN ?_ | refine zC ?_ | refine zC4 ?_ | refine zOr16 ?_ | refine zC1 ?_ | refine zByte ?_ | refine zMaxL ?_ | refine zMaxR ?_ | refine zMinL ?_ | refine zMinR ?_ | refine zShr ?_ | refine zC8 ?_ | refine zQ ?_ | refine zR ?_ | refine zS ?_ | refine zA ?_ | refine zM ?_ | refine xr rfl ?_ | refine ai rfl ?_ | refine condT ?_ | refine condF ?_ | refine condG1 ?_ | refine condG0 ?_ | refine cD ?_ | refine dD ?_ | refine cB ?_ | refine dB ?_ | refine cN ?_ | refine dN ?_ | refine cV ?_ | refine dV ?_ | refine cE ?_ | refine dE ?_ | refine condX0 ?_ | refine condX1 ?_ | refine condNot ?_ | refine condAnd ?_ | refine condOr ?_ | refine aO ?_ | refine aB ?_ | refine aR ?_ | refine aR ?_ (by simp; omega) | refine xr (by assumption) ?_ | refine ai (by assumption) ?_ | refine kV (by assumption) ?_ | refine kN (by assumption) ?_ | refine callW (by assumption) ?_ | refine condD (fun h => ?_) (fun h => ?_) | refine condB (fun h => ?_) (fun h => ?_) | refine condN (fun h => ?_) (fun h => ?_) | refine condE (fun h => ?_) (fun h => ?_) | refine condV (fun h => ?_) (fun h => ?_))
    refine ev_le [] [(68, some (_, .cells zeroA.enc))] trivial ⟨⟨rfl, .refl _, LeP.nil 2, .refl _, .refl _, .refl _, .refl _, .refl _, .refl _, .refl _, .refl _, .refl _, LeP.nil 1, .refl _, .refl _, LeP.nil 1, LeP.nil 2, trivial⟩, trivial⟩ ?_
    (first | refine fin1 ?_ | refine fin0 ?_)
    (conv => whnf); exact And.intro (by first | rfl | (simp [AV.pure, pureL]; done) | fail) rfl
end Go.AM.IR
set_option maxHeartbeats 4000000
set_option maxRecDepth 20000
namespace Go.AM.IR
theorem attD_short (c k n : UInt8) (r : List UInt8) (hb : bit16 c = false) : attD (c :: k :: n :: r) = if r.length < n.toNat then none else some ⟨c, k, false, r.take n.toNat, r.drop n.toNat⟩ := by
  simp [attD, hb]
theorem attD_long (c k n m : UInt8) (r : List UInt8) (hb : bit16 c = true) : attD (c :: k :: n :: m :: r) = if r.length < n.toNat * 256 + m.toNat then none else some ⟨c, k, true, r.take (n.toNat * 256 + m.toNat), r.drop (n.toNat * 256 + m.toNat)⟩ := by
  simp [attD, hb]
theorem isReq_le (k : Nat) : isReq k ≤ 1 := by unfold isReq; split <;> omega
theorem drop_len3 (c k n : UInt8) (r : List UInt8) (x : Nat) : (c :: k :: n :: r).drop (3 + x) = r.drop x := by rw [Nat.add_comm]; rfl
theorem drop_len4 (c k n m : UInt8) (r : List UInt8) (x : Nat) : (c :: k :: n :: m :: r).drop (4 + x) = r.drop x := by rw [Nat.add_comm]; rfl
theorem dec_loop69 (wide : Bool) (w N : Nat) (hw : wd wide = w) (hN : N < 2 ^ 29) : ∀ (f : Nat) (b : List UInt8) (last : Int) (nd : Nat) (a : Attrs) (T : List (Nat × AV)) (H : Heap) (c g1 g2 g3 : Nat) (hf : b.length ≤ f) (hu : a.unknown.length + b.length ≤ N) (hnd : nd + b.length ≤ N) (hD : DB N a),
   Ev G ⟨f69x21LH, ⟨(4, .ref 68 g1 0) :: (0, .sl 1 (byteCells b)) :: (8, .int .i64 (nd : Int)) :: (6, .ref 70 g2 0) :: (1, .bool wide) :: (7, .int .i64 last) :: T, (68, some (g1, .cells zeroC)) :: (70, some (g2, .cells (a.cellsV (.vs 300 g3 a.unknown.length)))) :: (300, some (g3, .vec 2 (a.unknown.map TLV.enc))) :: H, c⟩, [.cell 4 (some 16), .t 5], 0⟩ (decR (decF w f b last nd a))
  | f, [], last, nd, a, T, H, c_, g1, g2, g3, hf, hu, hnd, hD => by
    rw [show decF w f [] last nd a = finD nd a from by cases f <;> rfl]
    have hul : (a.unknown.map TLV.enc).length = a.unknown.length := by simp
    have hck := check_gives65 a (hD.lenB (by omega) (by omega))
    refine ev_frzk [(300, _, _)] [4, 0, 8, 6, 1, 7] [68, 70] ⟨rfl, (by first | rfl | (simp [Blk.pure, pureL, pureLL, AV.pure, *]; done) | fail), trivial⟩ ?_; repeat ((conv => whnf); first | refine And.intro (by first | rfl | omega | (simp [pureL, pureLL, AV.pure]; done) | (simp; omega) | (simp [pureL, pureLL, AV.pure, *]; done) | assumption | fail) ?_ | intro T H)
    by_cases h3 : nd < 3
    · rw [show finD nd a = (6, zeroA) from by rw [finD, if_pos h3]]
      refine ev_loop' (W_ok 300 _ _ _ _ ?_)
      repeat' (first | refine stpA ?_ | (refine condS ?_ ?_ <;> intro h))
      refine ev_le [] [(68, some (_, .cells zeroA.enc))] trivial ⟨⟨rfl, .refl _, LeP.nil 2, .refl _, .refl _, .refl _, .refl _, .refl _, .refl _, .refl _, .refl _, .refl _, LeP.nil 1, .refl _, .refl _, LeP.nil 1, LeP.nil 2, trivial⟩, trivial⟩ ?_
      (first | refine fin1 ?_ | refine fin0 ?_)
      (conv => whnf); exact And.intro (by first | rfl | (simp [AV.pure, pureL]; done) | fail) rfl
    · by_cases h0 : checkS a = 0
      · rw [show finD nd a = (0, a) from by rw [finD, if_neg h3, if_pos h0]]
        rw [h0] at hck
        refine ev_loop' (W_ok 300 _ _ _ _ ?_)
        repeat' (first | refine stpA ?_ | (refine condS ?_ ?_ <;> intro h))
        (first | refine fin1 ?_ | refine fin0 ?_)
        (conv => whnf); exact And.intro (by simp [AV.pure, pureL]) rfl
      · rw [show finD nd a = (checkS a, zeroA) from by rw [finD, if_neg h3, if_neg h0]]
        refine ev_loop' (W_ok 300 _ _ _ _ ?_)
        repeat' (first | refine stpA ?_ | (refine condS ?_ ?_ <;> intro h))
        refine ev_le [] [(68, some (_, .cells zeroA.enc))] trivial ⟨⟨rfl, .refl _, LeP.nil 2, .refl _, .refl _, .refl _, .refl _, .refl _, .refl _, .refl _, .refl _, .refl _, LeP.nil 1, .refl _, .refl _, LeP.nil 1, LeP.nil 2, trivial⟩, trivial⟩ ?_
        (first | refine fin1 ?_ | refine fin0 ?_)
        (conv => whnf); exact And.intro (by first | rfl | (simp [AV.pure, pureL]; done) | fail) rfl
  | 0, c :: r, last, nd, a, T, H, c_, g1, g2, g3, hf, hu, hnd, hD => absurd hf (by simp)
  | f + 1, [c], last, nd, a, T, H, c_, g1, g2, g3, hf, hu, hnd, hD => by
    rw [decF_none rfl]
    cases hbit : bit16 c
    · refine ev_loop' (W_ok 300 _ _ _ _ ?_)
      repeat' ((conv => whnf); first | refine zAndF hbit ?_ | refine bslP (by first | rfl | (simp [pureL, pureLL, AV.pure]; done) | fail) rfl ?_ | refine TakeC.full (by first | rfl | omega | (simp; done) | (simp; omega) | fail) ?_ | refine zBs ?_ | refine zBn ?_ | refine zBv rfl rfl ?_ | refine zN ?_ | refine zC ?_ | refine zC4 ?_ | refine zOr16 ?_ | refine zC1 ?_ | refine zByte ?_ | refine zMaxL ?_ | refine zMaxR ?_ | refine zMinL ?_ | refine zMinR ?_ | refine zShr ?_ | refine zC8 ?_ | refine zQ ?_ | refine zR ?_ | refine zS ?_ | refine zA ?_ | refine zM ?_ | refine xr rfl ?_ | refine ai rfl ?_ | refine condT ?_ | refine condF ?_ | refine condG1 ?_ | refine condG0 ?_ | refine cD ?_ | refine dD ?_ | refine cB ?_ | refine dB ?_ | refine cN ?_ | refine dN ?_ | refine cV ?_ | refine dV ?_ | refine cE ?_ | refine dE ?_ | refine condX0 ?_ | refine condX1 ?_ | refine condNot ?_ | refine condAnd ?_ | refine condOr ?_ | refine aO ?_ | refine aB ?_ | refine aR ?_ | refine aR ?_ (by simp; omega) | refine xr (by assumption) ?_ | refine ai (by assumption) ?_ | refine kV (by assumption) ?_ | refine kN (by assumption) ?_ | refine callW (by assumption) ?_ | refine condD (fun h => ?_) (fun h => ?_) | refine condB (fun h => ?_) (fun h => ?_) | refine condN (fun h => ?_) (fun h => ?_) | refine condE (fun h => ?_) (fun h => ?_) | refine condV (fun h => ?_) (fun h => ?_))
      refine ev_le [] [(68, some (_, .cells zeroA.enc))] trivial ⟨⟨rfl, .refl _, LeP.nil 2, .refl _, .refl _, .refl _, .refl _, .refl _, .refl _, .refl _, .refl _, .refl _, LeP.nil 1, .refl _, .refl _, LeP.nil 1, LeP.nil 2, trivial⟩, trivial⟩ ?_
      (first | refine fin1 ?_ | refine fin0 ?_)
      (conv => whnf); exact And.intro (by first | rfl | (simp [AV.pure, pureL]; done) | fail) rfl
    · refine ev_loop' (W_ok 300 _ _ _ _ ?_)
      repeat' ((conv => whnf); first | refine zAndT hbit ?_ | refine bslP (by first | rfl | (simp [pureL, pureLL, AV.pure]; done) | fail) rfl ?_ | refine TakeC.full (by first | rfl | omega | (simp; done) | (simp; omega) | fail) ?_ | refine zBs ?_ | refine zBn ?_ | refine zBv rfl rfl ?_ | refine zN ?_ | refine zC ?_ | refine zC4 ?_ | refine zOr16 ?_ | refine zC1 ?_ | refine zByte ?_ | refine zMaxL ?_ | refine zMaxR ?_ | refine zMinL ?_ | refine zMinR ?_ | refine zShr ?_ | refine zC8 ?_ | refine zQ ?_ | refine zR ?_ | refine zS ?_ | refine zA ?_ | refine zM ?_ | refine xr rfl ?_ | refine ai rfl ?_ | refine condT ?_ | refine condF ?_ | refine condG1 ?_ | refine condG0 ?_ | refine cD ?_ | refine dD ?_ | refine cB ?_ | refine dB ?_ | refine cN ?_ | refine dN ?_ | refine cV ?_ | refine dV ?_ | refine cE ?_ | refine dE ?_ | refine condX0 ?_ | refine condX1 ?_ | refine condNot ?_ | refine condAnd ?_ | refine condOr ?_ | refine aO ?_ | refine aB ?_ | refine aR ?_ | refine aR ?_ (by simp; omega) | refine xr (by assumption) ?_ | refine ai (by assumption) ?_ | refine kV (by assumption) ?_ | refine kN (by assumption) ?_ | refine callW (by assumption) ?_ | refine condD (fun h => ?_) (fun h => ?_) | refine condB (fun h => ?_) (fun h => ?_) | refine condN (fun h => ?_) (fun h => ?_) | refine condE (fun h => ?_) (fun h => ?_) | refine condV (fun h => ?_) (fun h => ?_))
      refine ev_le [] [(68, some (_, .cells zeroA.enc))] trivial ⟨⟨rfl, .refl _, LeP.nil 2, .refl _, .refl _, .refl _, .refl _, .refl _, .refl _, .refl _, .refl _, .refl _, LeP.nil 1, .refl _, .refl _, LeP.nil 1, LeP.nil 2, trivial⟩, trivial⟩ ?_
      (first | refine fin1 ?_ | refine fin0 ?_)
      (conv => whnf); exact And.intro (by first | rfl | (simp [AV.pure, pureL]; done) | fail) rfl
  | f + 1, [c, k], last, nd, a, T, H, c_, g1, g2, g3, hf, hu, hnd, hD => by
    rw [decF_none rfl]
    cases hbit : bit16 c
    · refine ev_loop' (W_ok 300 _ _ _ _ ?_)
      repeat' ((conv => whnf); first | refine zAndF hbit ?_ | refine bslP (by first | rfl | (simp [pureL, pureLL, AV.pure]; done) | fail) rfl ?_ | refine TakeC.full (by first | rfl | omega | (simp; done) | (simp; omega) | fail) ?_ | refine zBs ?_ | refine zBn ?_ | refine zBv rfl rfl ?_ | refine zN ?_ | refine zC ?_ | refine zC4 ?_ | refine zOr16 ?_ | refine zC1 ?_ | refine zByte ?_ | refine zMaxL ?_ | refine zMaxR ?_ | refine zMinL ?_ | refine zMinR ?_ | refine zShr ?_ | refine zC8 ?_ | refine zQ ?_ | refine zR ?_ | refine zS ?_ | refine zA ?_ | refine zM ?_ | refine xr rfl ?_ | refine ai rfl ?_ | refine condT ?_ | refine condF ?_ | refine condG1 ?_ | refine condG0 ?_ | refine cD ?_ | refine dD ?_ | refine cB ?_ | refine dB ?_ | refine cN ?_ | refine dN ?_ | refine cV ?_ | refine dV ?_ | refine cE ?_ | refine dE ?_ | refine condX0 ?_ | refine condX1 ?_ | refine condNot ?_ | refine condAnd ?_ | refine condOr ?_ | refine aO ?_ | refine aB ?_ | refine aR ?_ | refine aR ?_ (by simp; omega) | refine xr (by assumption) ?_ | refine ai (by assumption) ?_ | refine kV (by assumption) ?_ | refine kN (by assumption) ?_ | refine callW (by assumption) ?_ | refine condD (fun h => ?_) (fun h => ?_) | refine condB (fun h => ?_) (fun h => ?_) | refine condN (fun h => ?_) (fun h => ?_) | refine condE (fun h => ?_) (fun h => ?_) | refine condV (fun h => ?_) (fun h => ?_))
      refine ev_le [] [(68, some (_, .cells zeroA.enc))] trivial ⟨⟨rfl, .refl _, LeP.nil 2, .refl _, .refl _, .refl _, .refl _, .refl _, .refl _, .refl _, .refl _, .refl _, LeP.nil 1, .refl _, .refl _, LeP.nil 1, LeP.nil 2, trivial⟩, trivial⟩ ?_
      (first | refine fin1 ?_ | refine fin0 ?_)
      (conv => whnf); exact And.intro (by first | rfl | (simp [AV.pure, pureL]; done) | fail) rfl
    · refine ev_loop' (W_ok 300 _ _ _ _ ?_)
      repeat' ((conv => whnf); first | refine zAndT hbit ?_ | refine bslP (by first | rfl | (simp [pureL, pureLL, AV.pure]; done) | fail) rfl ?_ | refine TakeC.full (by first | rfl | omega | (simp; done) | (simp; omega) | fail) ?_ | refine zBs ?_ | refine zBn ?_ | refine zBv rfl rfl ?_ | refine zN ?_ | refine zC ?_ | refine zC4 ?_ | refine zOr16 ?_ | refine zC1 ?_ | refine zByte ?_ | refine zMaxL ?_ | refine zMaxR ?_ | refine zMinL ?_ | refine zMinR ?_ | refine zShr ?_ | refine zC8 ?_ | refine zQ ?_ | refine zR ?_ | refine zS ?_ | refine zA ?_ | refine zM ?_ | refine xr rfl ?_ | refine ai rfl ?_ | refine condT ?_ | refine condF ?_ | refine condG1 ?_ | refine condG0 ?_ | refine cD ?_ | refine dD ?_ | refine cB ?_ | refine dB ?_ | refine cN ?_ | refine dN ?_ | refine cV ?_ | refine dV ?_ | refine cE ?_ | refine dE ?_ | refine condX0 ?_ | refine condX1 ?_ | refine condNot ?_ | refine condAnd ?_ | refine condOr ?_ | refine aO ?_ | refine aB ?_ | refine aR ?_ | refine aR ?_ (by simp; omega) | refine xr (by assumption) ?_ | refine ai (by assumption) ?_ | refine kV (by assumption) ?_ | refine kN (by assumption) ?_ | refine callW (by assumption) ?_ | refine condD (fun h => ?_) (fun h => ?_) | refine condB (fun h => ?_) (fun h => ?_) | refine condN (fun h => ?_) (fun h => ?_) | refine condE (fun h => ?_) (fun h => ?_) | refine condV (fun h => ?_) (fun h => ?_))
      refine ev_le [] [(68, some (_, .cells zeroA.enc))] trivial ⟨⟨rfl, .refl _, LeP.nil 2, .refl _, .refl _, .refl _, .refl _, .refl _, .refl _, .refl _, .refl _, .refl _, LeP.nil 1, .refl _, .refl _, LeP.nil 1, LeP.nil 2, trivial⟩, trivial⟩ ?_
      (first | refine fin1 ?_ | refine fin0 ?_)
      (conv => whnf); exact And.intro (by first | rfl | (simp [AV.pure, pureL]; done) | fail) rfl
  | f + 1, c :: k :: n :: r, last, nd, a, T, H, c_, g1, g2, g3, hf, hu, hnd, hD => by
    have hn := n.toNat_lt
    have hle : (c :: k :: n :: r).length = r.length + 3 := rfl
    have hrq := isReq_le k.toNat
    cases hbit : bit16 c
    · have hget := get_gives93 (c :: k :: n :: r) (by omega) 2 1 (by omega) (by omega) (by omega) (by omega)
      rw [show rd (((c :: k :: n :: r).drop (2 : Int).toNat).take (1 : Int).toNat) = n.toNat from by simp [rd]] at hget
      have hat := attD_short c k n r hbit
      refine dec_short69 wide w N hw hN (c :: k :: n :: r) [] [] c k n.toNat rfl rfl hbit (by omega) (by omega) hget (by omega) last nd (by omega) a (by omega) _ ?_ ?_ ?_ ?_ ?_ T H c_ g1 g2 g3
      all_goals try simp only [drop_len3, show ∀ x : List UInt8, (c :: k :: n :: x).drop 3 = x from fun _ => rfl]
      · intro q; rw [if_pos (by omega)] at hat; rw [decF_none hat]
      · intro q q2; rw [if_neg (by omega)] at hat; rw [decF_some hat, if_pos q2]
      · intro q q2 q3; rw [if_neg (by omega)] at hat; rw [decF_some hat, if_neg q2, if_pos q3]
      · intro q q2 q3 q4; rw [if_neg (by omega)] at hat; rw [decF_some hat, if_neg q2, if_neg q3]; simp only [q4]
      · intro q q2 q3 a' q4 T H c_ g1 g2 g3
        rw [if_neg (by omega)] at hat; rw [decF_some hat, if_neg q2, if_neg q3]; simp only [q4]
        obtain ⟨d1, d2⟩ := setA_DB hD (by simp; omega) q4
        exact dec_loop69 wide w N hw hN f _ _ _ a' T H c_ g1 g2 g3 (by simp; omega) (by simp; omega) (by simp; omega) d1
    · cases r with
      | nil =>
        rw [decF_none (show attD [c, k, n] = none from by simp [attD, hbit])]
        refine ev_loop' (W_ok 300 _ _ _ _ ?_)
        repeat' ((conv => whnf); first | refine zAndT hbit ?_ | refine bslP (by first | rfl | (simp [pureL, pureLL, AV.pure]; done) | fail) rfl ?_ | refine TakeC.full (by first | rfl | omega | (simp; done) | (simp; omega) | fail) ?_ | refine zBs ?_ | refine zBn ?_ | refine zBv rfl rfl ?_ | refine zN ?_ | refine zC ?_ | refine zC4 ?_ | refine zOr16 ?_ | refine zC1 ?_ | refine zByte ?_ | refine zMaxL ?_ | refine zMaxR ?_ | refine zMinL ?_ | refine zMinR ?_ | refine zShr ?_ | refine zC8 ?_ | refine zQ ?_ | refine zR ?_ | refine zS ?_ | refine zA ?_ | refine zM ?_ | refine xr rfl ?_ | refine ai rfl ?_ | refine condT ?_ | refine condF ?_ | refine condG1 ?_ | refine condG0 ?_ | refine cD ?_ | refine dD ?_ | refine cB ?_ | refine dB ?_ | refine cN ?_ | refine dN ?_ | refine cV ?_ | refine dV ?_ | refine cE ?_ | refine dE ?_ | refine condX0 ?_ | refine condX1 ?_ | refine condNot ?_ | refine condAnd ?_ | refine condOr ?_ | refine aO ?_ | refine aB ?_ | refine aR ?_ | refine aR ?_ (by simp; omega) | refine xr (by assumption) ?_ | refine ai (by assumption) ?_ | refine kV (by assumption) ?_ | refine kN (by assumption) ?_ | refine callW (by assumption) ?_ | refine condD (fun h => ?_) (fun h => ?_) | refine condB (fun h => ?_) (fun h => ?_) | refine condN (fun h => ?_) (fun h => ?_) | refine condE (fun h => ?_) (fun h => ?_) | refine condV (fun h => ?_) (fun h => ?_))
        refine ev_le [] [(68, some (_, .cells zeroA.enc))] trivial ⟨⟨rfl, .refl _, LeP.nil 2, .refl _, .refl _, .refl _, .refl _, .refl _, .refl _, .refl _, .refl _, .refl _, LeP.nil 1, .refl _, .refl _, LeP.nil 1, LeP.nil 2, trivial⟩, trivial⟩ ?_
        (first | refine fin1 ?_ | refine fin0 ?_)
        (conv => whnf); exact And.intro (by first | rfl | (simp [AV.pure, pureL]; done) | fail) rfl
      | cons m r =>
        have hm := m.toNat_lt
        simp only [List.length_cons] at hle
        have hget := get_gives93 (c :: k :: n :: m :: r) (by simp only [List.length_cons] at hf hu hnd ⊢; omega) 2 2 (by omega) (by omega) (by omega) (by simp only [List.length_cons]; omega)
        rw [show rd (((c :: k :: n :: m :: r).drop (2 : Int).toNat).take (2 : Int).toNat) = n.toNat * 256 + m.toNat from by simp [rd]] at hget
        have hat := attD_long c k n m r hbit
        simp only [List.length_cons] at hf hu hnd
        refine dec_long69 wide w N hw hN (c :: k :: n :: m :: r) [] [] c k (n.toNat * 256 + m.toNat) rfl rfl hbit (by simp only [List.length_cons]; omega) (by simp only [List.length_cons]; omega) hget (by omega) last nd (by omega) a (by omega) _ ?_ ?_ ?_ ?_ ?_ T H c_ g1 g2 g3
        all_goals try simp only [drop_len4, List.length_cons, show ∀ x : List UInt8, (c :: k :: n :: m :: x).drop 4 = x from fun _ => rfl]
        · intro q; rw [if_pos (by omega)] at hat; rw [decF_none hat]
        · intro q q2; rw [if_neg (by omega)] at hat; rw [decF_some hat, if_pos q2]
        · intro q q2 q3; rw [if_neg (by omega)] at hat; rw [decF_some hat, if_neg q2, if_pos q3]
        · intro q q2 q3 q4; rw [if_neg (by omega)] at hat; rw [decF_some hat, if_neg q2, if_neg q3]; simp only [q4]
        · intro q q2 q3 a' q4 T H c_ g1 g2 g3
          rw [if_neg (by omega)] at hat; rw [decF_some hat, if_neg q2, if_neg q3]; simp only [q4]
          obtain ⟨d1, d2⟩ := setA_DB hD (by simp; omega) q4
          exact dec_loop69 wide w N hw hN f _ _ _ a' T H c_ g1 g2 g3 (by simp; omega) (by simp; omega) (by simp; omega) d1
theorem decode_gives69 (b : List UInt8) (wide : Bool) (hb : b.length < 2 ^ 28) : Gives G 69 [.sl 1 (byteCells b), .bool wide] [] (decR (decD (wd wide) b)) := by
  refine gives_code (F := f69) rfl rfl (W_ok 300 _ _ _ _ ?_)
  repeat' (first | refine stpA ?_ | (refine condS ?_ ?_ <;> intro h))
  refine ev_nil 300 2 [] [(70, some (_, .cells (zeroA.cellsV (.vs 300 _ 0))))] trivial ⟨⟨rfl, .refl _, LeP.nil 2, .refl _, .refl _, .refl _, .refl _, .refl _, .refl _, .refl _, .refl _, .refl _, LeP.nil 1, .refl _, .refl _, LeP.nil 1, LeP.nilV _ _ _, trivial⟩, trivial⟩ ?_
  refine ev_keep [4, 0, 8, 6, 1, 7] [68, 70, 300] ?_
  exact dec_loop69 wide (wd wide) b.length rfl (by omega) b.length b (-1) 0 zeroA _ _ _ _ _ _ (Nat.le_refl _) (by simp [zeroA]) (by simp) ⟨by simp [zeroA], by simp [zeroA], by simp [zeroA], by simp [zeroA], by simp [zeroA]⟩
end Go.AM.IR
set_option maxHeartbeats 4000000
set_option maxRecDepth 20000
namespace Go.AM.IR
theorem DB.ab2 {N : Nat} {a : Attrs} (h : DB N a) (hN : N ≤ 65535) (hu : a.unknown.length ≤ N) : AB a := by
  have h1 := flat_le255 a.path h.segs
  have h2 := unkS_leN a.unknown h.vals
  have h3 := h.path
  have h4 := h.comms
  have h5 := h.clusters
  have h6 : N * a.unknown.length ≤ 65535 * 65535 := Nat.mul_le_mul hN (by omega)
  exact ⟨by omega, by omega, by omega, by omega, by omega, fun t ht => by have := h.vals t ht; omega, by omega⟩
theorem lenC_ab {a : Attrs} (h : AB a) : LenC a where
  path := h.path
  segs s hs := by
    have h1 := h.flat
    have h2 : s.as.length ≤ (flatS a.path).length := by
      unfold flatS
      obtain ⟨p, q, e⟩ := List.append_of_mem hs
      rw [e]; simp; omega
    omega
  comms := h.comms
  clusters := h.clusters
  unknown := h.unknown
theorem dec_ab {a : List UInt8} {wide : Bool} (ha : a.length ≤ 65535) {e : Int} {A : Attrs} (h : decD (wd wide) a = (e, A)) : A.ok ∧ AB A := by
  unfold decD at h
  obtain ⟨r, d, u⟩ := dec_rng (N := a.length) (by unfold wd; split <;> omega) _ _ _ _ _ h (zero_rng _) (zero_DB _) (by simp [zeroA]) (zero_rng _) (zero_DB _)
  exact ⟨r.ok, d.ab2 ha u⟩
theorem packP_le : ∀ l : List Pfx, l.length ≤ (packP l).length
  | [] => Nat.zero_le _
  | p :: r => by
    have := packP_le r
    simp only [packP, List.flatMap_cons, List.length_append, List.length_cons, pack1_length] at *
    omega
theorem updM_len {w x : List Pfx} {a : Attrs} (hw : w.length < 2 ^ 40) (hx : x.length < 2 ^ 40) (ha : AB a) : LenO (updM w x a) ∧ LenB (updM w x a).attrs := ⟨⟨⟨by simp [updM, zeroM], hw, hx, lenC_ab ha⟩, by simp [updM, zeroM, capT]⟩, sizeS_le ha⟩
theorem updU_all (a p q : List UInt8) (wide : Bool) (ha : a.length ≤ 65535) (hp : p.length < 2 ^ 30) (hq : q.length < 2 ^ 30) (g1 g2 g3 g4 : Nat) (T : List (Nat × AV)) (H : Heap) (c : Nat) : Ev G ⟨[.code (suf 9 f201.body)], ⟨(9, .ref 97 g1 0) :: (11, .ref 113 g2 0) :: (10, .sl 1 (byteCells a)) :: (1, .bool wide) :: (4, .ref 68 g3 0) :: (5, .ref 69 g4 0) :: T, (97, some (g1, .cells [.sl 1 (byteCells p), .con (.slice none 0 0)])) :: (113, some (g2, .cells [.sl 1 (byteCells q), .con (.slice none 0 0)])) :: (68, some (g3, .cells zeroM.enc)) :: (69, some (g4, .cells zeroM.enc)) :: H, c⟩, [.cell 4 (some 27), .cell 5 (some 27), .t 6], 0⟩ (triR (decU1 wide a (unP p.length p) (unP q.length q))) := by
  have hp1 := pfxs210 p (by omega)
  have hq1 := pfxs210 q (by omega)
  have pu := pfxP_unP p.length p []
  have qu := pfxP_unP q.length q []
  cases hup : unP p.length p with
  | none =>
    have h0 := pu.2 hup
    rw [show pfxP p.length p [] = (false, (pfxP p.length p []).2.1, (pfxP p.length p []).2.2) from Prod.ext h0 rfl] at hp1
    exact updU_f1 a p q wide g1 g2 g3 g4 T H c _ _ hp1
  | some w =>
    have h0 := pu.1 w hup
    rw [h0, List.nil_append] at hp1
    cases huq : unP q.length q with
    | none =>
      have h1 := qu.2 huq
      rw [show pfxP q.length q [] = (false, (pfxP q.length q []).2.1, (pfxP q.length q []).2.2) from Prod.ext h1 rfl] at hq1
      exact updU_f2 a p q wide g1 g2 g3 g4 T H c _ _ _ _ hp1 hq1
    | some x =>
      have h1 := qu.1 x huq
      rw [h1, List.nil_append] at hq1
      obtain ⟨e1, o1⟩ := pack_unP _ _ _ hup
      obtain ⟨e2, o2⟩ := pack_unP _ _ _ huq
      have n1 := packP_le w
      have n2 := packP_le x
      rw [e1] at n1
      rw [e2] at n2
      have hok : ∀ A : Attrs, (updM w x A).okP := fun A => ⟨fun y hy => (o1 y hy).1, fun y hy => (o2 y hy).1⟩
      have hz : AB zeroA := ⟨by simp [zeroA], by simp [zeroA, flatS], by simp [zeroA], by simp [zeroA], by simp [zeroA], by simp [zeroA], by simp [zeroA, unkS]⟩
      refine updU_t a p q wide g1 g2 g3 g4 T H c [] [] w x hp1 hq1 _ ?_
      intro g1 g3 g4 T H c
      show Ev G _ (triR (decU2 wide a w x))
      unfold decU2
      by_cases he : a = [] ∧ x = []
      · rw [if_pos he]
        obtain ⟨ea, ex⟩ := he
        subst ea ex
        obtain ⟨l1, l2⟩ := updM_len (w := w) (x := []) (by omega) (by simp) hz
        exact updU_d0 w wide g1 g3 g4 T H c (check_gives144 _ l1 l2 (hok _))
      · rw [if_neg he]
        have hne : 0 < a.length ∨ 0 < x.length := by
          rcases Nat.eq_zero_or_pos a.length with h | h
          · rcases Nat.eq_zero_or_pos x.length with h' | h'
            · exact absurd ⟨List.length_eq_zero_iff.1 h, List.length_eq_zero_iff.1 h'⟩ he
            · exact .inr h'
          · exact .inl h
        have hd := decode_gives69 a wide (by omega)
        cases hD : decD (wd wide) a with
        | mk e y =>
          rw [hD, decR] at hd
          simp only at hd ⊢
          obtain ⟨oy, ay⟩ := dec_ab ha hD
          by_cases e6 : e = 6
          · rw [if_pos e6]; exact updU_d6 a w x (by omega) (by omega) hne wide e y hd g1 g3 g4 T H c e6
          · rw [if_neg e6]
            by_cases e0 : e = 0
            · rw [if_neg (by simp [e0])]
              refine updU_dx a w x (by omega) (by omega) hne wide e y hd g1 g3 g4 T H c e0 _ ?_
              intro g1 g3 g4 T H c
              by_cases hx : x = []
              · rw [if_pos hx]; subst hx
                exact updU_e1 a (by omega) (by rcases hne with h | h; exact h; simp at h) wide w y g1 g3 g4 T H c
              · rw [if_neg hx]
                obtain ⟨l1, l2⟩ := updM_len (w := w) (x := x) (by omega) (by omega) ay
                exact updU_e2 a (by omega) wide w x (by omega) (List.length_pos_iff.2 hx) y (check_gives144 _ l1 l2 (hok _)) g1 g3 g4 T H c
            · rw [if_pos e0]; exact updU_d1 a w x (by omega) (by omega) hne wide e y hd g1 g3 g4 T H c e6 e0
theorem decU201 (b : List UInt8) (hb : b.length < 2 ^ 28) (h4 : 4 ≤ b.length) (wide : Bool) : Gives G 201 [.sl 1 (byteCells b), .bool wide] [] (triR (decU wide b)) := by
  unfold decU
  by_cases h : b.length < 4 + rd (b.take 2)
  · rw [if_pos h]; exact decU201_1 b wide (by omega) (by omega) h
  · rw [if_neg h]
    have l1 : (b.drop 2).length = b.length - 2 := List.length_drop
    have l3 : ((b.drop 2).drop (rd (b.take 2) + 2)).length = b.length - 2 - (rd (b.take 2) + 2) := by rw [List.length_drop, l1]
    unfold decU3
    by_cases h2 : ((b.drop 2).drop (rd (b.take 2) + 2)).length < rd (((b.drop 2).drop (rd (b.take 2))).take 2)
    · rw [if_pos h2]; exact decU201_2 b wide (by omega) _ rfl (by omega) _ rfl h2
    · rw [if_neg h2]
      refine decU201_A b wide (by omega) _ rfl (by omega) _ rfl (by omega) _ ?_
      intro g1 g2 g3 g4 T H c
      have hr : rd (((b.drop 2).drop (rd (b.take 2))).take 2) < 256 ^ 2 := rd_le (by simp; omega)
      exact updU_all _ _ _ wide (by rw [List.length_take]; omega) (by rw [List.length_take]; omega) (by rw [List.length_drop]; omega) g1 g2 g3 g4 T H c
end Go.AM.IR
set_option maxHeartbeats 4000000
set_option maxRecDepth 20000
namespace Go.AM.IR
theorem lenO_note (c s : Int) (d : List UInt8) : LenO (noteM c s d) ∧ LenB (noteM c s d).attrs ∧ (noteM c s d).okP := ⟨⟨⟨by simp [noteM, zeroM], by simp [noteM, zeroM], by simp [noteM, zeroM], lenC_zero⟩, by simp [noteM, zeroM, capT]⟩, lenB_zero, ⟨by simp [noteM, zeroM], by simp [noteM, zeroM]⟩⟩
theorem cons3 (b : List UInt8) (h : 19 ≤ b.length) : ∃ x y k : UInt8, (byteCells b)[16]? = some [.int .u8 x.toNat] ∧ (byteCells b)[17]? = some [.int .u8 y.toNat] ∧ (byteCells b)[18]? = some [.int .u8 k.toNat] ∧ (b.drop 16).take 2 = [x, y] ∧ (b.drop 18).take 1 = [k] ∧ kindD b = k.toNat := by
  have l : (b.drop 16).length = b.length - 16 := List.length_drop
  obtain ⟨x, y, k, r, e⟩ : ∃ x y k r, b.drop 16 = x :: y :: k :: r := by
    match h : b.drop 16 with
    | x :: y :: k :: r => exact ⟨x, y, k, r, rfl⟩
    | [] => rw [h] at l; simp at l; omega
    | [_] => rw [h] at l; simp at l; omega
    | [_, _] => rw [h] at l; simp at l; omega
  have e18 : b.drop 18 = k :: r := by rw [show b.drop 18 = (b.drop 16).drop 2 from by rw [List.drop_drop], e]; rfl
  have at_ : ∀ i, b[16 + i]? = (b.drop 16)[i]? := fun i => by rw [List.getElem?_drop]
  refine ⟨x, y, k, ?_, ?_, ?_, by rw [e]; rfl, by rw [e18]; rfl, ?_⟩
  · simp only [byteCells, List.getElem?_map]; rw [at_ 0, e]; rfl
  · simp only [byteCells, List.getElem?_map]; rw [at_ 1, e]; rfl
  · simp only [byteCells, List.getElem?_map]; rw [at_ 2, e]; rfl
  · unfold kindD; rw [e18]; simp [rd]
theorem decode194 (b : List UInt8) (hb : b.length < 2 ^ 28) (wide : Bool) : Gives G 194 [.sl 1 (byteCells b), .bool wide] [] (decMR (decM wide b)) := by
  unfold decM
  by_cases h : b.length < 19
  · rw [if_pos h]; exact dec194_0 b (by omega) wide h
  · rw [if_neg h]
    refine dec194_A b (by omega) wide (by omega) _ (fun ha => ?_) (fun ha => by rw [if_pos ha])
    rw [if_neg (by rw [ha]; simp)]
    intro g1 g2 T H c
    obtain ⟨x, y, k, hx, hy, hk, e2, e1, ek⟩ := cons3 b (by omega)
    rw [e2, e1, ek]
    have hn : lenD b = rd ((b.drop 16).take 2) := rfl
    generalize hL : lenD b = n at *
    have hr : n < 256 ^ 2 := by rw [hn]; exact rd_le (by simp; omega)
    by_cases q1 : n < 19
    · rw [if_pos q1]; exact dec194_e1 b (by omega) wide (by omega) x y k hx hy hk n hn q1 g1 g2 T H c
    · rw [if_neg q1]
      by_cases q2 : k.toNat < 1 ∨ k.toNat > 5
      · rw [if_pos q2]; exact dec194_e2 b (by omega) wide (by omega) x y k hx hy hk n hn q1 q2 g1 g2 T H c
      · rw [if_neg q2]
        have k1 : ¬ k.toNat < 1 := fun q => q2 (.inl q)
        have k5 : ¬ k.toNat > 5 := fun q => q2 (.inr q)
        by_cases q3 : badLen (k.toNat : Nat) (n : Nat) = true
        · rw [if_pos q3]; exact dec194_e3 b (by omega) wide (by omega) x y k hx hy hk n hn q1 k1 k5 q3 g1 g2 T H c
        · rw [if_neg q3]
          have q3' : badLen (k.toNat : Nat) (n : Nat) = false := by simpa using q3
          by_cases q4 : b.length < n
          · rw [if_pos q4]; exact dec194_e4 b (by omega) wide (by omega) x y k hx hy hk n hn q1 k1 k5 q3' q4 g1 g2 T H c
          · rw [if_neg q4]
            refine dec194_e5 b (by omega) wide (by omega) x y k hx hy hk n hn q1 k1 k5 q3' q4 _ rfl _ ?_ g1 g2 T H c
            intro g1 g2 g3 T H c
            have hd : ((b.take n).drop 19).length = n - 19 := by rw [List.length_drop, List.length_take]; omega
            generalize (b.take n).drop 19 = d at *
            simp only [badLen, decide_eq_false_iff_not] at q3'
            unfold decB
            have hkk : k.toNat = 1 ∨ k.toNat = 2 ∨ k.toNat = 3 ∨ k.toNat = 4 ∨ k.toNat = 5 := by omega
            rcases hkk with hkk | hkk | hkk | hkk | hkk
            · rw [hkk, if_pos (show ((1 : Nat) : Int) = 1 from rfl)]
              exact dec194_k1 d wide x y n _ _ _ (decO200 d (by omega) (by omega)) _ (fun g1 g2 T H c => dec194_end _ _ _ n g1 g2 T H c) g1 g2 g3 T H c
            · rw [hkk, if_neg (show ¬ (((2 : Nat) : Int) = 1) by decide), if_pos (show ((2 : Nat) : Int) = 2 from rfl)]
              exact dec194_k2 d wide x y n _ _ _ (decU201 d (by omega) (by omega) wide) _ (fun g1 g2 T H c => dec194_end _ _ _ n g1 g2 T H c) g1 g2 g3 T H c
            · rw [hkk, if_neg (show ¬ (((3 : Nat) : Int) = 1) by decide), if_neg (show ¬ (((3 : Nat) : Int) = 2) by decide), if_pos (show ((3 : Nat) : Int) = 3 from rfl)]
              obtain ⟨c0, s0, r, rfl⟩ : ∃ c0 s0 r, d = c0 :: s0 :: r := by
                match d, hd with
                | c0 :: s0 :: r, _ => exact ⟨c0, s0, r, rfl⟩
                | [], hd => simp at hd; omega
                | [_], hd => simp at hd; omega
              have en : noteD (c0 :: s0 :: r) = noteM (c0.toNat : Nat) (s0.toNat : Nat) r := by simp [noteD, rd]
              rw [en]
              obtain ⟨l1, l2, l3⟩ := lenO_note (c0.toNat : Nat) (s0.toNat : Nat) r
              have hc := check_gives144 _ l1 l2 l3
              refine dec194_k3 c0 s0 r (by simp at hd; omega) wide x y n _ hc _ (fun g1 g2 T H c => ?_) g1 g2 g3 T H c
              have := dec194_end (noteM (c0.toNat : Nat) (s0.toNat : Nat) r) (if checkM (noteM (c0.toNat : Nat) (s0.toNat : Nat) r) = 0 then zeroM else noteM 1 2 [x, y]) (checkM (noteM (c0.toNat : Nat) (s0.toNat : Nat) r)) n g1 g2 T H c
              rw [show finM n (noteM (c0.toNat : Nat) (s0.toNat : Nat) r, (if checkM (noteM (c0.toNat : Nat) (s0.toNat : Nat) r) = 0 then zeroM else noteM 1 2 [x, y]), checkM (noteM (c0.toNat : Nat) (s0.toNat : Nat) r)) = finM n (if checkM (noteM (c0.toNat : Nat) (s0.toNat : Nat) r) = 0 then (noteM (c0.toNat : Nat) (s0.toNat : Nat) r, zeroM, 0) else (zeroM, noteM 1 2 [x, y], checkM (noteM (c0.toNat : Nat) (s0.toNat : Nat) r))) from by unfold finM; split <;> simp_all] at this
              exact this
            · rw [hkk, if_neg (show ¬ (((4 : Nat) : Int) = 1) by decide), if_neg (show ¬ (((4 : Nat) : Int) = 2) by decide), if_neg (show ¬ (((4 : Nat) : Int) = 3) by decide), if_neg (fun q => absurd q.1 (by decide))]
              exact dec194_k4 d wide x y n _ (fun g1 g2 T H c => dec194_end _ _ _ n g1 g2 T H c) g1 g2 g3 T H c
            · rw [hkk, if_neg (show ¬ (((5 : Nat) : Int) = 1) by decide), if_neg (show ¬ (((5 : Nat) : Int) = 2) by decide), if_neg (show ¬ (((5 : Nat) : Int) = 3) by decide)]
              refine dec194_k5 d wide x y n _ (fun g1 g2 T H c => ?_) g1 g2 g3 T H c
              have := dec194_end { zeroM with kind := 5 } (if d = [0, 1, 0, 1] then zeroM else noteM 1 2 [x, y]) (if d = [0, 1, 0, 1] then 0 else 2) n g1 g2 T H c
              rw [show finM n (({ zeroM with kind := 5 } : PMsg), (if d = [0, 1, 0, 1] then zeroM else noteM 1 2 [x, y]), (if d = [0, 1, 0, 1] then (0 : Int) else 2)) = finM n (if ((5 : Nat) : Int) = 5 ∧ d ≠ [0, 1, 0, 1] then (zeroM, noteM 1 2 [x, y], 2) else ({ zeroM with kind := ((5 : Nat) : Int) }, zeroM, 0)) from by
                by_cases hz : d = [0, 1, 0, 1]
                · simp [hz, finM]
                · simp [hz, finM]] at this
              exact this
end Go.AM.IR
set_option maxHeartbeats 4000000
set_option maxRecDepth 20000
namespace Go.AM.IR
theorem awake192_gives : Gives G 192 [] [] ⟨.bool true, []⟩ := gives_run 100000 rfl rfl (by kernel_rfl)
end Go.AM.IR
set_option maxHeartbeats 4000000
set_option maxRecDepth 20000
namespace Go.AM.IR
end Go.AM.IR
set_option maxHeartbeats 4000000
set_option maxRecDepth 20000
namespace Go.AM.IR
theorem ofN {n : Nat} (h : n < 256) : ((UInt8.ofNat n).toNat : Int) = n := by rw [show (UInt8.ofNat n).toNat = n by simp; omega]
theorem cap_step (done : List Cap) (x : Cap) (h1 : 1 ≤ x.code ∧ x.code ≤ 255) : byteCells (capsB done) ++ [[.int .u8 x.code], [.int .u8 ((UInt8.ofNat (byteCells x.value).length).toNat : Int)]] ++ byteCells x.value = byteCells (capsB (done ++ [x])) := by
  have e1 : ((UInt8.ofNat x.code.toNat).toNat : Int) = x.code := by rw [ofN (by omega)]; omega
  rw [byteCells_length]
  simp only [capsB, List.flatMap_append, List.flatMap_cons, List.flatMap_nil, List.append_nil, byteCells, List.map_append, List.map_cons, e1, List.append_assoc, List.cons_append, List.nil_append]
theorem cap_loop196 (l : List Cap) (b : List UInt8) (hv : ∀ c ∈ l, (1 ≤ c.code ∧ c.code ≤ 255) ∧ c.value.length ≤ 255) (hcl : (capsB l).length ≤ 253) (hb : b.length < 2 ^ 20) (hl : l.length < 2 ^ 40) (ln : Int) (hln : ln = l.length) : ∀ (rest done : List Cap) (g gb m mb : Nat) (es eb : List (List AV)) (T : List (Nat × AV)) (H : Heap) (c : Nat) (n : Int) (e : l = done ++ rest) (hn : n = done.length) (hm : m = (capsB done).length) (hes : es = byteCells (capsB done)) (hmb : mb = b.length) (heb : eb = byteCells b), Ev G ⟨f196x12LH, ⟨(28, .sl 2 (l.map Cap.enc)) :: (29, .int .i64 ln) :: (30, .int .i64 n) :: (4, .vs 200 g m) :: (3, .vs 90 gb mb) :: T, (200, some (g, .vec 1 es)) :: (90, some (gb, .vec 1 eb)) :: H, c⟩, [.t 2], 0⟩ (rB (b ++ capTail l))
  | [], done, g, gb, m, mb, es, eb, T, H, c, n, e, hn, hm, hes, hmb, heb => by
    have hd : l.length = done.length := by simp [e]
    have hll : (l.map Cap.enc).length = l.length := by simp
    obtain rfl : l = done := by simpa using e
    subst hm hes hmb heb
    unfold capTail
    by_cases h0 : capsB l = []
    · have hz : (capsB l).length = 0 := by simp [h0]
      rw [if_pos h0]
      refine ev_loop' (W_ok 300 _ _ _ _ ?_)
      repeat' (first | refine stpA ?_ | (refine condS ?_ ?_ <;> intro h))
      refine ev_retB 90 ⟨_, _, _, rfl, rfl, (by simp), ?_⟩
      simp [byteCells]
    · have hz : 0 < (capsB l).length := List.length_pos_iff.2 h0
      rw [if_neg h0]
      have e1 : ((UInt8.ofNat ((capsB l).length + 2)).toNat : Int) = ((capsB l).length + 2 : Nat) := ofN (by omega)
      have e2 : ((UInt8.ofNat (capsB l).length).toNat : Int) = ((capsB l).length : Nat) := ofN (by omega)
      refine ev_loop' (W_ok 300 _ _ _ _ ?_)
      repeat' (first | refine stpA ?_ | (refine condS ?_ ?_ <;> intro h))
      refine ev_retB 90 ⟨_, _, _, rfl, rfl, (by simp; omega), ?_⟩
      simp only [byteCells, List.map_append, List.map_cons, e1, e2, List.append_assoc, List.cons_append, List.nil_append]
      simp
  | x :: r, done, g, gb, m, mb, es, eb, T, H, c, n, e, hn, hm, hes, hmb, heb => by
    have hd : l.length = done.length + (r.length + 1) := by simp [e]
    have hll : (l.map Cap.enc).length = l.length := by simp
    have hx : (l.map Cap.enc)[n.toNat]? = some (Cap.enc x) := by simp [e, hn]
    obtain ⟨h1, h2⟩ := hv x (by simp [e])
    subst hm hes hmb heb
    have hcd : (capsB done).length ≤ 253 := by rw [e] at hcl; simp [capsB] at hcl ⊢; omega
    refine ev_loop' (W_ok 300 _ _ _ _ ?_)
    repeat' (first | refine stpA ?_ | (refine condS ?_ ?_ <;> intro h))
    refine ev_keep [28, 29, 30, 4, 3] [200, 90] ?_; exact cap_loop196 l b hv hcl hb hl ln hln r (done ++ [x]) _ _ _ _ _ _ _ _ _ (n + 1) (by simp [e]) (by simp [hn] <;> omega) (by simp [capsB]; omega) (cap_step done x h1) rfl rfl
theorem open_gives196 (m : PMsg) (h : OpenOk m) (hr : okU m.router) : Gives G 196 [.agg m.enc] [] (rB (openB m)) := by
  obtain ⟨c1, c2⟩ := h.caps
  obtain ⟨b1, b2⟩ := h.hold
  obtain ⟨a1, a2⟩ := h.as
  have hver := h.version
  unfold okU at hr
  have hs : 0 ≤ shortI m.as ∧ shortI m.as ≤ 65535 := by unfold shortI; split <;> omega
  have h0 := short_gives204 m.as
  have hp1 := put_gives109 [UInt8.ofNat m.version.toNat] (by simp) 2 (shortI m.as).toNat (by omega)
  have hp2 := put_gives109 ([UInt8.ofNat m.version.toNat] ++ be 2 (shortI m.as).toNat) (by simp) 2 m.hold.toNat (by omega)
  have hp3 := put_gives109 ([UInt8.ofNat m.version.toNat] ++ be 2 (shortI m.as).toNat ++ be 2 m.hold.toNat) (by simp) 4 m.router.toNat (by omega)
  have hcl := capsB_length m.caps
  have hv : ∀ c ∈ m.caps, (1 ≤ c.code ∧ c.code ≤ 255) ∧ c.value.length ≤ 255 := fun c hc => ⟨c1 c hc, by have := capT_mem hc; omega⟩
  have e1 : byteCells [UInt8.ofNat m.version.toNat] = [[.int .u8 m.version]] := by
    have : ((UInt8.ofNat m.version.toNat).toNat : Int) = m.version := by rw [ofN (by omega)]; omega
    simp only [byteCells, List.map_cons, List.map_nil, this]
  rw [e1, show (((shortI m.as).toNat : Nat) : Int) = shortI m.as by omega] at hp1
  rw [show ((m.hold.toNat : Nat) : Int) = m.hold by omega] at hp2
  rw [show ((m.router.toNat : Nat) : Int) = m.router by omega] at hp3
  have hl : (m.caps.map Cap.enc).length = m.caps.length := by simp
  have hlc : m.caps.length ≤ 253 := by
    have : ∀ l : List Cap, (l.length : Int) ≤ capT l := fun l => by
      induction l with
      | nil => simp [capT]
      | cons c r ih => simp only [capT, List.length_cons]; omega
    have := this m.caps; omega
  have key := cap_loop196 m.caps ([UInt8.ofNat m.version.toNat] ++ be 2 (shortI m.as).toNat ++ be 2 m.hold.toNat ++ be 4 m.router.toNat) hv (by omega) (by simp) (by omega) ((m.caps.map Cap.enc).length : Int) (by simp) m.caps []
  rw [show openB m = [UInt8.ofNat m.version.toNat] ++ be 2 (shortI m.as).toNat ++ be 2 m.hold.toNat ++ be 4 m.router.toNat ++ capTail m.caps from by simp [openB]]
  generalize shortI m.as = sa at *
  refine gives_code (F := f196) rfl rfl (W_ok 300 _ _ _ _ ?_)
  repeat' (first | refine stpA ?_ | refine kX [] [(74, _, _)] trivial ⟨rfl, pz trivial⟩ (hp1) ?_ | refine kX [] [(80, _, _)] trivial ⟨rfl, pz trivial⟩ (hp2) ?_ | refine kX [] [(85, _, _)] trivial ⟨rfl, pz trivial⟩ (hp3) ?_ | (refine condS ?_ ?_ <;> intro h))
  refine ev_nil 200 1 [(4, .vs 200 _ 0)] [] ⟨LeP.nilV _ _ _, trivial⟩ trivial ?_
  refine ev_keep [28, 29, 30, 4, 3] [200, 90] ?_
  exact key _ _ _ _ _ _ _ _ _ 0 rfl rfl rfl rfl rfl rfl
end Go.AM.IR
set_option maxHeartbeats 4000000
set_option maxRecDepth 20000
namespace Go.AM.IR
def updR (m : PMsg) (wide : Bool) : Ret := if m.reach ≠ [] ∧ encBad m.attrs wide = true then ⟨.tup [.con (.slice none 0 0), .int .i64 5], []⟩ else if (packP m.withdrawn).length > 65535 ∨ (attsB m wide).length > 65535 then ⟨.tup [.con (.slice none 0 0), .int .i64 4], []⟩ else ⟨.tup [.vs 0 0 (updB m wide).length, .int .i64 0], [(false, .vec 1 (byteCells (updB m wide)))]⟩
theorem tupN_eq {n n' : Nat} {es es' : List (List AV)} (hn : n = n') (he : es = es') : (⟨.tup [.vs 0 0 n, .int .i64 0], [(false, .vec 1 es)]⟩ : Ret) = ⟨.tup [.vs 0 0 n', .int .i64 0], [(false, .vec 1 es')]⟩ := by subst hn he; rfl
theorem upd_gives197 (m : PMsg) (h : UpdOk m) (ho : m.ok) (hb : AB m.attrs) (hw : m.withdrawn.length < 2 ^ 30) (hr : m.reach.length < 2 ^ 30) (wide : Bool) : Gives G 197 [.agg m.enc, .bool wide] [] (updR m wide) := by
  have h1 := put_gives205 m.withdrawn (fun p hp => ⟨ho.withdrawn p hp, h.withdrawn p hp⟩) hw
  have h2 := put_gives205 m.reach (fun p hp => ⟨ho.reach p hp, h.reach p hp⟩) hr
  have l1 := packP_length (l := m.withdrawn) (fun p hp => by have := valid_mul (ho.withdrawn p hp) (h.withdrawn p hp); omega)
  have l2 := packP_length (l := m.reach) (fun p hp => by have := valid_mul (ho.reach p hp) (h.reach p hp); omega)
  have hll : (m.reach.map Pfx.enc).length = m.reach.length := by simp
  have hlm : (m.withdrawn.map Pfx.enc).length = m.withdrawn.length := by simp
  unfold updR updB
  by_cases hz : m.reach = []
  · have hzl : m.reach.length = 0 := by simp [hz]
    have ha : attsB m wide = [] := by unfold attsB; rw [if_pos hz]
    rw [if_neg (fun q => q.1 hz), ha]
    have hq : packP m.reach = [] := by rw [hz]; rfl
    rw [hq] at h2 ⊢
    generalize packP m.withdrawn = g at *
    by_cases hg : g.length > 65535
    · rw [if_pos (.inl hg)]
      refine gives_code (F := f197) rfl rfl (W_ok 300 _ _ _ _ ?_)
      repeat' (first | refine stpA ?_ | (refine condS ?_ ?_ <;> intro h))
      (first | refine fin1 ?_ | refine fin0 ?_); rfl
    · rw [if_neg (by simp; omega)]
      have p1 := put0_gives109 2 g.length (by omega)
      have p2 := put_gives109 (be 2 g.length ++ g) (by simp; omega) 2 0 (by omega)
      rw [byteCells_append] at p2
      refine gives_code (F := f197) rfl rfl (W_ok 300 _ _ _ _ ?_)
      repeat' (first | refine stpA ?_ | refine kX [] [(104, _, _)] trivial ⟨rfl, pz trivial⟩ (p2) ?_ | (refine condS ?_ ?_ <;> intro h))
      refine ev_finN [(111, _, .vec 1 _)] ⟨⟨rfl, (by simp [Blk.pure]), trivial⟩, rfl, rfl, (by simp), ?_⟩
      exact tupN_eq (by simp <;> omega) (by simp [byteCells])
  · have hzl : 0 < m.reach.length := List.length_pos_iff.2 hz
    have hck := h.attrs hz
    have ha : attsB m wide = encB m.attrs wide := by unfold attsB; rw [if_neg hz]
    have h3 := encode67 m.attrs wide hb ho.attrs
    unfold encR encRet at h3
    rw [if_pos hck] at h3
    rw [ha]
    have l3 := encB_le (valid_of hck) wide
    cases hbad : encBad m.attrs wide
    · rw [hbad, if_neg (by simp)] at h3
      rw [if_neg (by simp)]
      generalize encB m.attrs wide = a at *
      generalize packP m.withdrawn = g at *
      generalize packP m.reach = q at *
      by_cases hg : g.length > 65535
      · rw [if_pos (.inl hg)]
        refine gives_code (F := f197) rfl rfl (W_ok 300 _ _ _ _ ?_)
        repeat' (first | refine stpA ?_ | (refine condS ?_ ?_ <;> intro h))
        (first | refine fin1 ?_ | refine fin0 ?_); rfl
      · by_cases hga : a.length > 65535
        · rw [if_pos (.inr hga)]
          refine gives_code (F := f197) rfl rfl (W_ok 300 _ _ _ _ ?_)
          repeat' (first | refine stpA ?_ | (refine condS ?_ ?_ <;> intro h))
          (first | refine fin1 ?_ | refine fin0 ?_); rfl
        · rw [if_neg (by omega)]
          have p1 := put0_gives109 2 g.length (by omega)
          have p2 := put_gives109 (be 2 g.length ++ g) (by simp; omega) 2 a.length (by omega)
          rw [byteCells_append] at p2
          refine gives_code (F := f197) rfl rfl (W_ok 300 _ _ _ _ ?_)
          repeat' (first | refine stpA ?_ | refine kX [] [(104, _, _)] trivial ⟨rfl, pz trivial⟩ (p2) ?_ | (refine condS ?_ ?_ <;> intro h))
          refine ev_finN [(111, _, .vec 1 _)] ⟨⟨rfl, (by simp [Blk.pure]), trivial⟩, rfl, rfl, (by simp), ?_⟩
          exact tupN_eq (by simp <;> omega) (by simp [byteCells])
    · rw [hbad, if_pos rfl] at h3
      rw [if_pos ⟨hz, rfl⟩]
      generalize packP m.withdrawn = g at *
      refine gives_code (F := f197) rfl rfl (W_ok 300 _ _ _ _ ?_)
      repeat' (first | refine stpA ?_ | (refine condS ?_ ?_ <;> intro h))
      (first | refine fin1 ?_ | refine fin0 ?_); rfl
end Go.AM.IR
set_option maxHeartbeats 4000000
set_option maxRecDepth 20000
namespace Go.AM.IR
theorem tupN_ren (K : Nat) {g n n' : Nat} {es es' : List (List AV)} (hn : n = n') (he : es = es') : (⟨AV.ren (φR [(K, g, .vec 1 es)] 0) (.tup [.vs K g n, .int .i64 0]), [(false, .vec 1 es)]⟩ : Ret) = ⟨.tup [.vs 0 0 n', .int .i64 0], [(false, .vec 1 es')]⟩ := by subst hn he; simp [AV.ren, renL, φR]
def ff (j : Nat) : List UInt8 := List.replicate (16 - j) 255 ++ List.replicate j 0
theorem ff_step (j : Nat) (hj : j < 16) : (byteCells (ff (j + 1))).set (16 - (j + 1)) [.int .u8 255] = byteCells (ff j) := by
  have h : j = 0 ∨ j = 1 ∨ j = 2 ∨ j = 3 ∨ j = 4 ∨ j = 5 ∨ j = 6 ∨ j = 7 ∨ j = 8 ∨ j = 9 ∨ j = 10 ∨ j = 11 ∨ j = 12 ∨ j = 13 ∨ j = 14 ∨ j = 15 := by omega
  rcases h with rfl | rfl | rfl | rfl | rfl | rfl | rfl | rfl | rfl | rfl | rfl | rfl | rfl | rfl | rfl | rfl <;> rfl
theorem ff_get (j : Nat) (hj : j < 16) : (byteCells (ff (j + 1)))[16 - (j + 1)]? = some [.int .u8 0] := by
  have h : j = 0 ∨ j = 1 ∨ j = 2 ∨ j = 3 ∨ j = 4 ∨ j = 5 ∨ j = 6 ∨ j = 7 ∨ j = 8 ∨ j = 9 ∨ j = 10 ∨ j = 11 ∨ j = 12 ∨ j = 13 ∨ j = 14 ∨ j = 15 := by omega
  rcases h with rfl | rfl | rfl | rfl | rfl | rfl | rfl | rfl | rfl | rfl | rfl | rfl | rfl | rfl | rfl | rfl <;> rfl
theorem ff_length (j : Nat) (hj : j ≤ 16) : (ff j).length = 16 := by simp [ff]; omega
def encOk (k : Nat) (b : List UInt8) : Ret := ⟨.tup [.vs 0 0 (headB (19 + b.length) k ++ b).length, .int .i64 0], [(false, .vec 1 (byteCells (headB (19 + b.length) k ++ b)))]⟩
theorem ff_loop86 (m : PMsg) (hk : 1 ≤ m.kind ∧ m.kind ≤ 5) (b : List UInt8) (hb : b.length ≤ 65516) : ∀ (j : Nat) (T : List (Nat × AV)) (H : Heap) (c g gb mb n16 : Nat) (es eb : List (List AV)) (n : Int) (hj : j ≤ 16) (hn : n = 16 - j) (h16 : n16 = 16) (hes : es = byteCells (ff j)) (hmb : mb = b.length) (heb : eb = byteCells b),
   Ev G ⟨f193x25LH, ⟨(60, .int .i64 n) :: (10, .vs 121 g n16) :: (7, .vs 86 gb mb) :: (2, .ref 66 1 0) :: (59, .int .i64 16) :: T, (121, some (g, .vec 1 es)) :: (86, some (gb, .vec 1 eb)) :: (66, some (1, .cells m.enc)) :: H, c⟩, [.t 4, .t 5], 0⟩ (encOk m.kind.toNat b)
  | 0, T, H, c, g, gb, mb, n16, es, eb, n, hj, hn, h16, hes, hmb, heb => by
    subst h16 hes hmb heb
    have hp := put_gives109 (List.replicate 16 255) (by simp) 2 (19 + b.length) (by omega)
    have hff : ff 0 = List.replicate 16 255 := rfl
    have hk2 : ((UInt8.ofNat m.kind.toNat).toNat : Int) = m.kind := by rw [ofN (by omega)]; omega
    have hfl : (byteCells (ff 0)).length = 16 := by simp [ff]
    have hf0 : (ff 0).length = 16 := rfl
    rw [← hff] at hp
    refine ev_loop' (W_ok 300 _ _ _ _ ?_)
    repeat' (first | refine stpA ?_ | refine kX [] [(121, _, _)] trivial ⟨rfl, pz trivial⟩ (hp) ?_ | (refine condS ?_ ?_ <;> intro h))
    refine ev_finN [(136, _, .vec 1 _)] ⟨⟨rfl, (by simp [Blk.pure, pureLL, pureL, AV.pure]), trivial⟩, rfl, rfl, (by simp), ?_⟩
    unfold encOk
    refine tupN_ren 136 ?_ ?_
    · simp [headB, hf0] <;> omega
    · simp [headB, hff, byteCells] <;> omega
  | j + 1, T, H, c, g, gb, mb, n16, es, eb, n, hj, hn, h16, hes, hmb, heb => by
    subst h16 hes hmb heb
    have hfl : (byteCells (ff (j + 1))).length = 16 := by rw [byteCells_length, ff_length _ hj]
    have hnn : n.toNat = 16 - (j + 1) := by omega
    have hx : (byteCells (ff (j + 1)))[n.toNat]? = some [.int .u8 0] := by rw [hnn]; exact ff_get j (by omega)
    refine ev_loop' (W_ok 300 _ _ _ _ ?_)
    repeat' (first | refine stpA ?_ | (refine condS ?_ ?_ <;> intro h))
    refine ev_keep [60, 10, 7, 2, 59] [121, 86, 66] ?_
    refine ff_loop86 m hk b hb j _ _ _ _ _ _ _ _ _ (n + 1) (by omega) (by omega) rfl ?_ rfl rfl
    rw [← ff_step j (by omega), ← hnn]; rfl
theorem ff_loop92 (m : PMsg) (hk : 1 ≤ m.kind ∧ m.kind ≤ 5) (b : List UInt8) (hb : b.length ≤ 65516) : ∀ (j : Nat) (T : List (Nat × AV)) (H : Heap) (c g gb mb n16 : Nat) (es eb : List (List AV)) (n : Int) (hj : j ≤ 16) (hn : n = 16 - j) (h16 : n16 = 16) (hes : es = byteCells (ff j)) (hmb : mb = b.length) (heb : eb = byteCells b),
   Ev G ⟨f193x25LH, ⟨(60, .int .i64 n) :: (10, .vs 121 g n16) :: (7, .vs 92 gb mb) :: (2, .ref 66 1 0) :: (59, .int .i64 16) :: T, (121, some (g, .vec 1 es)) :: (92, some (gb, .vec 1 eb)) :: (66, some (1, .cells m.enc)) :: H, c⟩, [.t 4, .t 5], 0⟩ (encOk m.kind.toNat b)
  | 0, T, H, c, g, gb, mb, n16, es, eb, n, hj, hn, h16, hes, hmb, heb => by
    subst h16 hes hmb heb
    have hp := put_gives109 (List.replicate 16 255) (by simp) 2 (19 + b.length) (by omega)
    have hff : ff 0 = List.replicate 16 255 := rfl
    have hk2 : ((UInt8.ofNat m.kind.toNat).toNat : Int) = m.kind := by rw [ofN (by omega)]; omega
    have hfl : (byteCells (ff 0)).length = 16 := by simp [ff]
    have hf0 : (ff 0).length = 16 := rfl
    rw [← hff] at hp
    refine ev_loop' (W_ok 300 _ _ _ _ ?_)
    repeat' (first | refine stpA ?_ | refine kX [] [(121, _, _)] trivial ⟨rfl, pz trivial⟩ (hp) ?_ | (refine condS ?_ ?_ <;> intro h))
    refine ev_finN [(136, _, .vec 1 _)] ⟨⟨rfl, (by simp [Blk.pure, pureLL, pureL, AV.pure]), trivial⟩, rfl, rfl, (by simp), ?_⟩
    unfold encOk
    refine tupN_ren 136 ?_ ?_
    · simp [headB, hf0] <;> omega
    · simp [headB, hff, byteCells] <;> omega
  | j + 1, T, H, c, g, gb, mb, n16, es, eb, n, hj, hn, h16, hes, hmb, heb => by
    subst h16 hes hmb heb
    have hfl : (byteCells (ff (j + 1))).length = 16 := by rw [byteCells_length, ff_length _ hj]
    have hnn : n.toNat = 16 - (j + 1) := by omega
    have hx : (byteCells (ff (j + 1)))[n.toNat]? = some [.int .u8 0] := by rw [hnn]; exact ff_get j (by omega)
    refine ev_loop' (W_ok 300 _ _ _ _ ?_)
    repeat' (first | refine stpA ?_ | (refine condS ?_ ?_ <;> intro h))
    refine ev_keep [60, 10, 7, 2, 59] [121, 92, 66] ?_
    refine ff_loop92 m hk b hb j _ _ _ _ _ _ _ _ _ (n + 1) (by omega) (by omega) rfl ?_ rfl rfl
    rw [← ff_step j (by omega), ← hnn]; rfl
theorem ff_loop107 (m : PMsg) (hk : 1 ≤ m.kind ∧ m.kind ≤ 5) (b : List UInt8) (hb : b.length ≤ 65516) : ∀ (j : Nat) (T : List (Nat × AV)) (H : Heap) (c g gb mb n16 : Nat) (es eb : List (List AV)) (n : Int) (hj : j ≤ 16) (hn : n = 16 - j) (h16 : n16 = 16) (hes : es = byteCells (ff j)) (hmb : mb = b.length) (heb : eb = byteCells b),
   Ev G ⟨f193x25LH, ⟨(60, .int .i64 n) :: (10, .vs 121 g n16) :: (7, .vs 107 gb mb) :: (2, .ref 66 1 0) :: (59, .int .i64 16) :: T, (121, some (g, .vec 1 es)) :: (107, some (gb, .vec 1 eb)) :: (66, some (1, .cells m.enc)) :: H, c⟩, [.t 4, .t 5], 0⟩ (encOk m.kind.toNat b)
  | 0, T, H, c, g, gb, mb, n16, es, eb, n, hj, hn, h16, hes, hmb, heb => by
    subst h16 hes hmb heb
    have hp := put_gives109 (List.replicate 16 255) (by simp) 2 (19 + b.length) (by omega)
    have hff : ff 0 = List.replicate 16 255 := rfl
    have hk2 : ((UInt8.ofNat m.kind.toNat).toNat : Int) = m.kind := by rw [ofN (by omega)]; omega
    have hfl : (byteCells (ff 0)).length = 16 := by simp [ff]
    have hf0 : (ff 0).length = 16 := rfl
    rw [← hff] at hp
    refine ev_loop' (W_ok 300 _ _ _ _ ?_)
    repeat' (first | refine stpA ?_ | refine kX [] [(121, _, _)] trivial ⟨rfl, pz trivial⟩ (hp) ?_ | (refine condS ?_ ?_ <;> intro h))
    refine ev_finN [(136, _, .vec 1 _)] ⟨⟨rfl, (by simp [Blk.pure, pureLL, pureL, AV.pure]), trivial⟩, rfl, rfl, (by simp), ?_⟩
    unfold encOk
    refine tupN_ren 136 ?_ ?_
    · simp [headB, hf0] <;> omega
    · simp [headB, hff, byteCells] <;> omega
  | j + 1, T, H, c, g, gb, mb, n16, es, eb, n, hj, hn, h16, hes, hmb, heb => by
    subst h16 hes hmb heb
    have hfl : (byteCells (ff (j + 1))).length = 16 := by rw [byteCells_length, ff_length _ hj]
    have hnn : n.toNat = 16 - (j + 1) := by omega
    have hx : (byteCells (ff (j + 1)))[n.toNat]? = some [.int .u8 0] := by rw [hnn]; exact ff_get j (by omega)
    refine ev_loop' (W_ok 300 _ _ _ _ ?_)
    repeat' (first | refine stpA ?_ | (refine condS ?_ ?_ <;> intro h))
    refine ev_keep [60, 10, 7, 2, 59] [121, 107, 66] ?_
    refine ff_loop107 m hk b hb j _ _ _ _ _ _ _ _ _ (n + 1) (by omega) (by omega) rfl ?_ rfl rfl
    rw [← ff_step j (by omega), ← hnn]; rfl
theorem ff_loop113 (m : PMsg) (hk : 1 ≤ m.kind ∧ m.kind ≤ 5) (b : List UInt8) (hb : b.length ≤ 65516) : ∀ (j : Nat) (T : List (Nat × AV)) (H : Heap) (c g gb mb n16 : Nat) (es eb : List (List AV)) (n : Int) (hj : j ≤ 16) (hn : n = 16 - j) (h16 : n16 = 16) (hes : es = byteCells (ff j)) (hmb : mb = b.length) (heb : eb = byteCells b),
   Ev G ⟨f193x25LH, ⟨(60, .int .i64 n) :: (10, .vs 121 g n16) :: (7, .vs 113 gb mb) :: (2, .ref 66 1 0) :: (59, .int .i64 16) :: T, (121, some (g, .vec 1 es)) :: (113, some (gb, .vec 1 eb)) :: (66, some (1, .cells m.enc)) :: H, c⟩, [.t 4, .t 5], 0⟩ (encOk m.kind.toNat b)
  | 0, T, H, c, g, gb, mb, n16, es, eb, n, hj, hn, h16, hes, hmb, heb => by
    subst h16 hes hmb heb
    have hp := put_gives109 (List.replicate 16 255) (by simp) 2 (19 + b.length) (by omega)
    have hff : ff 0 = List.replicate 16 255 := rfl
    have hk2 : ((UInt8.ofNat m.kind.toNat).toNat : Int) = m.kind := by rw [ofN (by omega)]; omega
    have hfl : (byteCells (ff 0)).length = 16 := by simp [ff]
    have hf0 : (ff 0).length = 16 := rfl
    rw [← hff] at hp
    refine ev_loop' (W_ok 300 _ _ _ _ ?_)
    repeat' (first | refine stpA ?_ | refine kX [] [(121, _, _)] trivial ⟨rfl, pz trivial⟩ (hp) ?_ | (refine condS ?_ ?_ <;> intro h))
    refine ev_finN [(136, _, .vec 1 _)] ⟨⟨rfl, (by simp [Blk.pure, pureLL, pureL, AV.pure]), trivial⟩, rfl, rfl, (by simp), ?_⟩
    unfold encOk
    refine tupN_ren 136 ?_ ?_
    · simp [headB, hf0] <;> omega
    · simp [headB, hff, byteCells] <;> omega
  | j + 1, T, H, c, g, gb, mb, n16, es, eb, n, hj, hn, h16, hes, hmb, heb => by
    subst h16 hes hmb heb
    have hfl : (byteCells (ff (j + 1))).length = 16 := by rw [byteCells_length, ff_length _ hj]
    have hnn : n.toNat = 16 - (j + 1) := by omega
    have hx : (byteCells (ff (j + 1)))[n.toNat]? = some [.int .u8 0] := by rw [hnn]; exact ff_get j (by omega)
    refine ev_loop' (W_ok 300 _ _ _ _ ?_)
    repeat' (first | refine stpA ?_ | (refine condS ?_ ?_ <;> intro h))
    refine ev_keep [60, 10, 7, 2, 59] [121, 113, 66] ?_
    refine ff_loop113 m hk b hb j _ _ _ _ _ _ _ _ _ (n + 1) (by omega) (by omega) rfl ?_ rfl rfl
    rw [← ff_step j (by omega), ← hnn]; rfl
theorem ff_loop200 (m : PMsg) (hk : 1 ≤ m.kind ∧ m.kind ≤ 5) (b : List UInt8) (hb : b.length ≤ 65516) : ∀ (j : Nat) (T : List (Nat × AV)) (H : Heap) (c g gb mb n16 : Nat) (es eb : List (List AV)) (n : Int) (hj : j ≤ 16) (hn : n = 16 - j) (h16 : n16 = 16) (hes : es = byteCells (ff j)) (hmb : mb = b.length) (heb : eb = byteCells b),
   Ev G ⟨f193x25LH, ⟨(60, .int .i64 n) :: (10, .vs 121 g n16) :: (7, .vs 200 gb mb) :: (2, .ref 66 1 0) :: (59, .int .i64 16) :: T, (121, some (g, .vec 1 es)) :: (200, some (gb, .vec 1 eb)) :: (66, some (1, .cells m.enc)) :: H, c⟩, [.t 4, .t 5], 0⟩ (encOk m.kind.toNat b)
  | 0, T, H, c, g, gb, mb, n16, es, eb, n, hj, hn, h16, hes, hmb, heb => by
    subst h16 hes hmb heb
    have hp := put_gives109 (List.replicate 16 255) (by simp) 2 (19 + b.length) (by omega)
    have hff : ff 0 = List.replicate 16 255 := rfl
    have hk2 : ((UInt8.ofNat m.kind.toNat).toNat : Int) = m.kind := by rw [ofN (by omega)]; omega
    have hfl : (byteCells (ff 0)).length = 16 := by simp [ff]
    have hf0 : (ff 0).length = 16 := rfl
    rw [← hff] at hp
    refine ev_loop' (W_ok 300 _ _ _ _ ?_)
    repeat' (first | refine stpA ?_ | refine kX [] [(121, _, _)] trivial ⟨rfl, pz trivial⟩ (hp) ?_ | (refine condS ?_ ?_ <;> intro h))
    refine ev_finN [(136, _, .vec 1 _)] ⟨⟨rfl, (by simp [Blk.pure, pureLL, pureL, AV.pure]), trivial⟩, rfl, rfl, (by simp), ?_⟩
    unfold encOk
    refine tupN_ren 136 ?_ ?_
    · simp [headB, hf0] <;> omega
    · simp [headB, hff, byteCells] <;> omega
  | j + 1, T, H, c, g, gb, mb, n16, es, eb, n, hj, hn, h16, hes, hmb, heb => by
    subst h16 hes hmb heb
    have hfl : (byteCells (ff (j + 1))).length = 16 := by rw [byteCells_length, ff_length _ hj]
    have hnn : n.toNat = 16 - (j + 1) := by omega
    have hx : (byteCells (ff (j + 1)))[n.toNat]? = some [.int .u8 0] := by rw [hnn]; exact ff_get j (by omega)
    refine ev_loop' (W_ok 300 _ _ _ _ ?_)
    repeat' (first | refine stpA ?_ | (refine condS ?_ ?_ <;> intro h))
    refine ev_keep [60, 10, 7, 2, 59] [121, 200, 66] ?_
    refine ff_loop200 m hk b hb j _ _ _ _ _ _ _ _ _ (n + 1) (by omega) (by omega) rfl ?_ rfl rfl
    rw [← ff_step j (by omega), ← hnn]; rfl
theorem encMR_zero {m : PMsg} {wide : Bool} (h : encE m wide = 0) : encMR m wide = ⟨.tup [.vs 0 0 (msgB m wide).length, .int .i64 0], [(false, .vec 1 (byteCells (msgB m wide)))]⟩ := by unfold encMR; rw [if_pos h]
theorem encMR_ne {m : PMsg} {wide : Bool} {e : Int} (h : encE m wide = e) (he : e ≠ 0) : encMR m wide = ⟨.tup [.con (.slice none 0 0), .int .i64 e], []⟩ := by unfold encMR; rw [h, if_neg he]
theorem encE_check {m : PMsg} {wide : Bool} (h : checkM m ≠ 0) : encE m wide = checkM m := by unfold encE; rw [if_pos h]
theorem encE_bad {m : PMsg} {wide : Bool} (h : checkM m = 0) (hb : badM m wide) : encE m wide = 5 := by unfold encE; rw [if_neg (by simp [h]), if_pos hb]
theorem encE_long {m : PMsg} {wide : Bool} (h : checkM m = 0) (hb : ¬ badM m wide) (hl : 19 + (bodyB m wide).length > 65535) : encE m wide = 4 := by unfold encE; rw [if_neg (by simp [h]), if_neg hb, if_pos hl]
theorem enc_gives193 (m : PMsg) (h : AM m) (ho : m.ok) (hw : m.withdrawn.length < 2 ^ 30) (hr : m.reach.length < 2 ^ 30) (wide : Bool) : Gives G 193 [.agg m.enc, .bool wide] [] (encMR m wide) := by
  have hc := check_gives144 m h.lenO (sizeS_le h.attrs) ⟨ho.withdrawn, ho.reach⟩
  by_cases h0 : checkM m = 0
  · rw [h0] at hc
    obtain ⟨k1, k2, _⟩ := check_parts h0
    have hk : m.kind = 1 ∨ m.kind = 2 ∨ m.kind = 3 ∨ m.kind = 4 ∨ m.kind = 5 := by omega
    rcases hk with hk | hk | hk | hk | hk
    · have ok := open_ok h0 hk
      have h1 := open_gives196 m ok ho.router
      have hl := openB_length ok
      have hb : bodyB m wide = openB m := by unfold bodyB; rw [if_pos hk]
      rw [encMR_zero (zero_encE h0 (fun q => by have := q.1; omega) (by rw [hb]; omega)), msgB, hb]
      have key := ff_loop86 m ⟨k1, k2⟩ (openB m) (by omega) 16
      generalize openB m = b at *
      refine gives_code (F := f193) rfl rfl (W_ok 300 _ _ _ _ ?_)
      repeat' (first | refine stpA ?_ | (refine condS ?_ ?_ <;> intro h))
      refine ev_keep [60, 10, 7, 2, 59] [121, 86, 66] ?_
      exact key _ _ _ _ _ _ _ _ _ 0 (by omega) (by omega) rfl rfl rfl rfl
    · have ok := upd_ok h0 hk
      have h1 := upd_gives197 m ok ho h.attrs hw hr wide
      have hb : bodyB m wide = updB m wide := by unfold bodyB; rw [if_neg (by omega), if_pos hk]
      unfold updR at h1
      by_cases hbd : m.reach ≠ [] ∧ encBad m.attrs wide = true
      · rw [if_pos hbd] at h1
        rw [encMR_ne (encE_bad h0 ⟨hk, hbd⟩) (by decide)]
        refine gives_code (F := f193) rfl rfl (W_ok 300 _ _ _ _ ?_)
        repeat' (first | refine stpA ?_ | (refine condS ?_ ?_ <;> intro h))
        (first | refine fin1 ?_ | refine fin0 ?_); rfl
      · rw [if_neg hbd] at h1
        have hlen : (updB m wide).length = 4 + (packP m.withdrawn).length + (attsB m wide).length + (packP m.reach).length := by unfold updB; simp; omega
        by_cases hl : 19 + (updB m wide).length > 65535
        · rw [encMR_ne (encE_long h0 (fun q => hbd q.2) (by rw [hb]; exact hl)) (by decide)]
          by_cases hl2 : (packP m.withdrawn).length > 65535 ∨ (attsB m wide).length > 65535
          · rw [if_pos hl2] at h1
            refine gives_code (F := f193) rfl rfl (W_ok 300 _ _ _ _ ?_)
            repeat' (first | refine stpA ?_ | (refine condS ?_ ?_ <;> intro h))
            (first | refine fin1 ?_ | refine fin0 ?_); rfl
          · rw [if_neg hl2] at h1
            have l2 := packP_length (l := m.reach) (fun p hp => by have := valid_mul (ho.reach p hp) (ok.reach p hp); omega)
            have hup : (updB m wide).length < 2 ^ 40 := by omega
            clear hlen l2 hl2
            generalize updB m wide = b at *
            refine gives_code (F := f193) rfl rfl (W_ok 300 _ _ _ _ ?_)
            repeat' (first | refine stpA ?_ | (refine condS ?_ ?_ <;> intro h))
            (first | refine fin1 ?_ | refine fin0 ?_); rfl
        · rw [encMR_zero (zero_encE h0 (fun q => hbd q.2) (by rw [hb]; omega)), msgB, hb]
          rw [if_neg (by omega)] at h1
          have key := ff_loop92 m ⟨k1, k2⟩ (updB m wide) (by omega) 16
          clear hlen
          generalize updB m wide = b at *
          refine gives_code (F := f193) rfl rfl (W_ok 300 _ _ _ _ ?_)
          repeat' (first | refine stpA ?_ | (refine condS ?_ ?_ <;> intro h))
          refine ev_keep [60, 10, 7, 2, 59] [121, 92, 66] ?_
          exact key _ _ _ _ _ _ _ _ _ 0 (by omega) (by omega) rfl rfl rfl rfl
    · have ok := note_ok h0 hk
      have hb : bodyB m wide = noteB m := by unfold bodyB; rw [if_neg (by omega), if_neg (by omega), if_pos hk]
      have hl : (noteB m).length = m.data.length + 2 := by simp [noteB]
      have hd := ok.data
      obtain ⟨c1, c2⟩ := ok.code
      obtain ⟨s1, s2⟩ := ok.sub
      have e1 : ((UInt8.ofNat m.code.toNat).toNat : Int) = m.code := by rw [ofN (by omega)]; omega
      have e2 : ((UInt8.ofNat m.sub.toNat).toNat : Int) = m.sub := by rw [ofN (by omega)]; omega
      have hbl : (byteCells m.data).length = m.data.length := by simp
      rw [encMR_zero (zero_encE h0 (fun q => by have := q.1; omega) (by rw [hb]; omega)), msgB, hb]
      have key := ff_loop107 m ⟨k1, k2⟩ (noteB m) (by omega) 16
      refine gives_code (F := f193) rfl rfl (W_ok 300 _ _ _ _ ?_)
      repeat' (first | refine stpA ?_ | (refine condS ?_ ?_ <;> intro h))
      refine ev_keep [60, 10, 7, 2, 59] [121, 107, 66] ?_
      refine key _ _ _ _ _ _ _ _ _ 0 (by omega) (by omega) rfl rfl (by simp [noteB] <;> omega) ?_
      simp only [noteB, byteCells, List.map_cons, e1, e2]; rfl
    · have hb : bodyB m wide = [] := by unfold bodyB; rw [if_neg (by omega), if_neg (by omega), if_neg (by omega), if_neg (by omega)]
      rw [encMR_zero (zero_encE h0 (fun q => by have := q.1; omega) (by rw [hb]; simp)), msgB, hb]
      have key := ff_loop200 m ⟨k1, k2⟩ [] (by simp) 16
      refine gives_code (F := f193) rfl rfl (W_ok 300 _ _ _ _ ?_)
      repeat' (first | refine stpA ?_ | (refine condS ?_ ?_ <;> intro h))
      refine ev_nil 200 1 [(7, .vs 200 _ 0)] [] ⟨LeP.nilV _ _ _, trivial⟩ trivial ?_
      refine ev_keep [60, 10, 7, 2, 59] [121, 200, 66] ?_
      exact key _ _ _ _ _ _ _ _ _ 0 (by omega) (by omega) rfl rfl rfl rfl
    · have hb : bodyB m wide = [0, 1, 0, 1] := by unfold bodyB; rw [if_neg (by omega), if_neg (by omega), if_neg (by omega), if_pos hk]
      rw [encMR_zero (zero_encE h0 (fun q => by have := q.1; omega) (by rw [hb]; simp)), msgB, hb]
      have key := ff_loop113 m ⟨k1, k2⟩ [0, 1, 0, 1] (by simp) 16
      refine gives_code (F := f193) rfl rfl (W_ok 300 _ _ _ _ ?_)
      repeat' (first | refine stpA ?_ | (refine condS ?_ ?_ <;> intro h))
      refine ev_keep [60, 10, 7, 2, 59] [121, 113, 66] ?_
      exact key _ _ _ _ _ _ _ _ _ 0 (by omega) (by omega) rfl rfl rfl rfl
  · rw [encMR_ne (encE_check h0) h0]
    generalize checkM m = k at *
    refine gives_code (F := f193) rfl rfl (W_ok 300 _ _ _ _ ?_)
    repeat' (first | refine stpA ?_ | (refine condS ?_ ?_ <;> intro h))
    (first | refine fin1 ?_ | refine fin0 ?_); rfl
end Go.AM.IR
set_option maxHeartbeats 4000000
set_option maxRecDepth 20000
namespace Go.AM.IR
end Go.AM.IR
set_option maxHeartbeats 4000000
set_option maxRecDepth 20000
namespace Go.AM.IR
theorem dup_a (m : PMsg) (h : AM m) (ho : m.ok) (hw : m.withdrawn.length < 2 ^ 30) (hr : m.reach.length < 2 ^ 30) (h0 : encE m true = 0) : Gives G 202 [.agg m.enc] [] ⟨.agg m.enc, []⟩ := by
  have he := enc_gives193 m h ho hw hr true
  rw [encMR_zero h0] at he
  have hb := decM_back h0 ho []
  rw [List.append_nil] at hb
  have hlen : (msgB m true).length ≤ 65535 := by have := (encE_zero h0).2.2; rw [msgB_length]; omega
  have hd := decode194 (msgB m true) (by omega) true
  rw [hb] at hd
  unfold decMR at hd
  simp only at hd
  generalize msgB m true = B at *
  have hBl := byteCells_length B
  refine gives_code (F := f202) rfl rfl ?_
  refine ev_seq (b := sfy 1 f202.body) ?_
  refine W_okd 1 300 _ _ _ _ ?_
  repeat' (first | refine stpA ?_ | (refine condS ?_ ?_ <;> intro h))
  refine ev_seq (b := sfy 2 f202.body) ?_
  refine W_okd 1 300 _ _ _ _ ?_
  repeat' (first | refine stpA ?_ | (refine condS ?_ ?_ <;> intro h))
  refine ev_frzk [(76, _, _)] [3, 4, 1, 2] [65, 66] ⟨rfl, (by first | rfl | (simp [Blk.pure, pureL, pureLL, AV.pure, *]; done) | fail), trivial⟩ ?_; repeat ((conv => whnf); first | refine And.intro (by first | rfl | omega | (simp [pureL, pureLL, AV.pure]; done) | (simp; omega) | (simp [pureL, pureLL, AV.pure, *]; done) | assumption | fail) ?_ | intro T H)
  refine W_ok 300 _ _ _ _ ?_
  repeat' (first | refine stpA ?_ | (refine condS ?_ ?_ <;> intro h))
  (first | refine fin1 ?_ | refine fin0 ?_)
  repeat' (first | exact trivial | refine And.intro ?_ ?_)
  all_goals first | rfl | simp [pureL, AV.pure] | trace_state
theorem dup_b (m : PMsg) (h : AM m) (ho : m.ok) (hw : m.withdrawn.length < 2 ^ 30) (hr : m.reach.length ≤ 1) (h0 : encE m true ≠ 0) : Gives G 202 [.agg m.enc] [] ⟨.agg m.enc, []⟩ := by
  have he := enc_gives193 m h ho hw (by omega) true
  rw [encMR_ne rfl h0] at he
  have hwl : (m.withdrawn.map Pfx.enc).length = m.withdrawn.length := by simp
  have hrl : (m.reach.map Pfx.enc).length = m.reach.length := by simp
  generalize encE m true = e at *
  refine gives_code (F := f202) rfl rfl ?_
  refine ev_seq (b := sfy 1 f202.body) ?_
  refine W_okd 1 300 _ _ _ _ ?_
  repeat' (first | refine stpA ?_ | (refine condS ?_ ?_ <;> intro h))
  refine ev_seq (b := sfy 2 f202.body) ?_
  refine W_okd 1 300 _ _ _ _ ?_
  repeat' (first | refine stpA ?_ | (refine condS ?_ ?_ <;> intro h))
  refine ev_seq (b := sfy 3 f202.body) ?_
  refine W_okd 1 300 _ _ _ _ ?_
  repeat' (first | refine stpA ?_ | (refine condS ?_ ?_ <;> intro h))
  refine ev_seq (b := sfy 4 f202.body) ?_
  refine W_okd 1 300 _ _ _ _ ?_
  repeat' (first | refine stpA ?_ | (refine condS ?_ ?_ <;> intro h))
  refine ev_seq (b := sfy 5 f202.body) ?_
  refine W_okd 1 300 _ _ _ _ ?_
  repeat' (first | refine stpA ?_ | (refine condS ?_ ?_ <;> intro h))
  refine ev_seq (b := sfy 6 f202.body) ?_
  refine W_okd 1 300 _ _ _ _ ?_
  repeat' (first | refine stpA ?_ | (refine condS ?_ ?_ <;> intro h))
  refine ev_seq (b := sfy 7 f202.body) ?_
  refine W_okd 1 300 _ _ _ _ ?_
  repeat' (first | refine stpA ?_ | (refine condS ?_ ?_ <;> intro h))
  refine ev_frzk [(103, _, _), (108, _, _)] [1, 2, 9] [65, 66, 73] ⟨rfl, (by first | rfl | (simp [Blk.pure, pureL, pureLL, AV.pure, *]; done) | fail), rfl, (by first | rfl | (simp [Blk.pure, pureL, pureLL, AV.pure, *]; done) | fail), trivial⟩ ?_; repeat ((conv => whnf); first | refine And.intro (by first | rfl | omega | (simp [pureL, pureLL, AV.pure]; done) | (simp; omega) | (simp [pureL, pureLL, AV.pure, *]; done) | assumption | fail) ?_ | intro T H)
  refine W_ok 300 _ _ _ _ ?_
  repeat' (first | refine stpA ?_ | (refine condS ?_ ?_ <;> intro h))
  (first | refine fin1 ?_ | refine fin0 ?_)
  repeat' (first | exact trivial | refine And.intro ?_ ?_)
  all_goals first | rfl | simp [pureL, AV.pure] | trace_state
end Go.AM.IR
set_option maxHeartbeats 4000000
set_option maxRecDepth 20000
namespace Go.AM.IR
def rawX (p : Pfx) (a : Attrs) : List AV := [.int .i64 2, .int .i64 0, .int .i64 0, .int .i64 0, .int .u32 0, .con (.slice none 0 0), .con (.slice none 0 0), .int .i64 a.origin, .sl 2 (a.path.map Seg.enc), .int .u32 a.nextHop, .bool a.hasMED, .int .i64 a.med, .bool a.hasPref, .int .i64 a.pref, .bool a.atomic, .bool a.hasAggr, .int .i64 a.aggrAS, .int .u32 a.aggrAddr, .sl 1 (a.comms.map encU), .bool a.hasOrig, .int .u32 a.orig, .sl 1 (a.clusters.map encU), .sl 2 (a.unknown.map TLV.enc), .sl 2 [Pfx.enc p], .int .i64 0, .int .i64 0, .con (.slice none 0 0)]
theorem dup_raw (p : Pfx) (a : Attrs) (h : Gives G 202 [.agg (updM [] [p] a).enc] [] ⟨.agg (updM [] [p] a).enc, []⟩) : Gives G 202 [.agg (rawX p a)] [] ⟨.agg (updM [] [p] a).enc, []⟩ :=
  gives_le rfl h ⟨LeP.agg (by repeat' (first | exact trivial | exact LeP.refl _ | exact LeP.nil _ | refine LeP.sl ?_ | refine ⟨?_, ?_⟩)), trivial⟩
theorem rawP (p : Pfx) (a : Attrs) : pureL [.agg (rawX p a)] = true := by simp [rawX, pureL, pureLL, AV.pure, Pfx.enc]
theorem encP (m : PMsg) : (AV.agg m.enc).pure = true := by simp [PMsg.enc, Attrs.enc, pureL, pureLL, AV.pure]
theorem dup_c (w r : List Pfx) (p q : Pfx) (a : Attrs) (h : AM (updM w (p :: q :: r) a)) (ho : (updM w (p :: q :: r) a).ok) (hw : w.length < 2 ^ 30) (hr : r.length < 2 ^ 29) (h0 : encE (updM w (p :: q :: r) a) true ≠ 0) (ih : Gives G 202 [.agg (updM [] [p] a).enc] [] ⟨.agg (updM [] [p] a).enc, []⟩) : Gives G 202 [.agg (updM w (p :: q :: r) a).enc] [] ⟨.agg (updM w (p :: q :: r) a).enc, []⟩ := by
  have he := enc_gives193 (updM w (p :: q :: r) a) h ho hw (by simp [updM]; omega) true
  rw [encMR_ne rfl h0] at he
  have hwl : ((updM w (p :: q :: r) a).withdrawn.map Pfx.enc).length = w.length := by simp [updM]
  have hrl : ((updM w (p :: q :: r) a).reach.map Pfx.enc).length = r.length + 2 := by simp [updM]
  have hx := dup_raw p a ih
  generalize encE (updM w (p :: q :: r) a) true = e at *
  refine gives_code (F := f202) rfl rfl ?_
  refine ev_seq (b := sfy 1 f202.body) ?_
  refine W_okd 1 300 _ _ _ _ ?_
  repeat' (first | refine stpA ?_ | (refine condS ?_ ?_ <;> intro h))
  refine ev_seq (b := sfy 2 f202.body) ?_
  refine W_okd 1 300 _ _ _ _ ?_
  repeat' (first | refine stpA ?_ | (refine condS ?_ ?_ <;> intro h))
  refine ev_seq (b := sfy 3 f202.body) ?_
  refine W_okd 1 300 _ _ _ _ ?_
  repeat' (first | refine stpA ?_ | (refine condS ?_ ?_ <;> intro h))
  refine ev_seq (b := sfy 4 f202.body) ?_
  refine W_okd 1 300 _ _ _ _ ?_
  repeat' (first | refine stpA ?_ | (refine condS ?_ ?_ <;> intro h))
  refine ev_seq (b := sfy 5 f202.body) ?_
  refine W_okd 1 300 _ _ _ _ ?_
  repeat' (first | refine stpA ?_ | refine callW hx ?_ (rawP p a) (encP _) | (refine condS ?_ ?_ <;> intro h))
  refine ev_seq (b := sfy 6 f202.body) ?_
  refine W_okd 1 300 _ _ _ _ ?_
  repeat' (first | refine stpA ?_ | (refine condS ?_ ?_ <;> intro h))
  refine ev_seq (b := sfy 7 f202.body) ?_
  refine W_okd 1 300 _ _ _ _ ?_
  repeat' (first | refine stpA ?_ | (refine condS ?_ ?_ <;> intro h))
  refine ev_frzk [(103, _, _), (108, _, _)] [1, 2, 9] [65, 66, 73] ⟨rfl, (by first | rfl | (simp [Blk.pure, pureL, pureLL, AV.pure, *]; done) | fail), rfl, (by first | rfl | (simp [Blk.pure, pureL, pureLL, AV.pure, *]; done) | fail), trivial⟩ ?_; repeat ((conv => whnf); first | refine And.intro (by first | rfl | omega | (simp [pureL, pureLL, AV.pure]; done) | (simp; omega) | (simp [pureL, pureLL, AV.pure, *]; done) | assumption | fail) ?_ | intro T H)
  refine W_ok 300 _ _ _ _ ?_
  repeat' (first | refine stpA ?_ | (refine condS ?_ ?_ <;> intro h))
  (first | refine fin1 ?_ | refine fin0 ?_)
  repeat' (first | exact trivial | refine And.intro ?_ ?_)
  all_goals first | rfl | simp [pureL, AV.pure] | trace_state
end Go.AM.IR
set_option maxHeartbeats 4000000
set_option maxRecDepth 20000
namespace Go.AM.IR
theorem packP_cons (p : Pfx) (l : List Pfx) : ((packP (p :: l)).length : Int) = costP p + (packP l).length := by
  have := pack1_length p
  have e : packP (p :: l) = pack1 p ++ packP l := by simp [packP]
  rw [e, List.length_append, this]; unfold costP; omega
theorem fit_pack : ∀ (l : List Pfx) (room : Int), fitN room l ≠ 0 → ((packP (l.take (fitN room l))).length : Int) ≤ room
  | [], room, h => by simp [fitN] at h
  | p :: r, room, h => by
    rw [fitN] at h ⊢
    split
    · rename_i q; simp [q] at h
    · rw [List.take_succ_cons, packP_cons]
      by_cases h0 : fitN (room - costP p) r = 0
      · rw [h0]; simp [packP]; omega
      · have := fit_pack r _ h0; omega
theorem pfxE_none : ∀ (l : List Pfx) (p : Option Pfx), pfxE p l = 0 → pfxE none l = 0
  | [], _, _ => rfl
  | x :: r, p, h => by
    unfold pfxE at h ⊢
    split at h
    · cases h
    · split at h
      · cases h
      · rename_i hv _
        rw [if_neg hv]
        simp only [Option.any_none, Bool.false_eq_true, if_false]
        exact h
theorem pfxE_drop : ∀ (l : List Pfx) (p : Option Pfx) (k : Nat), pfxE p l = 0 → pfxE none (l.drop k) = 0
  | [], _, k, _ => by simp [pfxE]
  | x :: r, p, 0, h => pfxE_none _ p h
  | x :: r, p, k + 1, h => by
    unfold pfxE at h
    split at h
    · cases h
    · split at h
      · cases h
      · exact pfxE_drop r _ k h
theorem pfxE_take : ∀ (l : List Pfx) (p : Option Pfx) (k : Nat), pfxE p l = 0 → pfxE p (l.take k) = 0
  | [], _, k, _ => by simp [pfxE]
  | x :: r, p, 0, h => by simp [pfxE]
  | x :: r, p, k + 1, h => by
    rw [List.take_succ_cons]
    unfold pfxE at h ⊢
    split at h
    · cases h
    · split at h
      · cases h
      · rename_i h1 h2
        rw [if_neg h1, if_neg h2]
        exact pfxE_take r _ k h
theorem chunk_parts (room : Int) : ∀ (f : Nat) (l : List Pfx) (L : List (List Pfx)), pfxE none l = 0 → chunkS room f l = some L → L.flatten = l ∧ ∀ c ∈ L, c ≠ [] ∧ pfxE none c = 0 ∧ ((packP c).length : Int) ≤ room
  | f, [], L, _, h => by
    obtain rfl : [] = L := by cases f <;> exact Option.some.inj h
    simp
  | 0, p :: r, L, _, h => by cases h
  | f + 1, p :: r, L, hp, h => by
    rw [chunkS] at h
    split at h
    · cases h
    · rename_i hk
      obtain ⟨L', h1, rfl⟩ := Option.map_eq_some_iff.1 h
      obtain ⟨i1, i2⟩ := chunk_parts room f _ L' (pfxE_drop _ none _ hp) h1
      refine ⟨by rw [List.flatten_cons, i1, List.take_append_drop], fun c hc => ?_⟩
      rcases List.mem_cons.1 hc with rfl | hc
      · refine ⟨?_, pfxE_take _ none _ hp, fit_pack _ _ hk⟩
        cases hf : fitN room (p :: r) with
        | zero => exact absurd hf hk
        | succ k => simp
      · exact i2 c hc
theorem comS_nil_left (l : List Pfx) : comS [] l = false := by unfold comS; cases l <;> rfl
theorem comS_nil_right (l : List Pfx) : comS l [] = false := by unfold comS; cases l <;> rfl
theorem check_w {l : List Pfx} (h : pfxE none l = 0) : checkM (updM l [] zeroA) = 0 := by
  have hu : unusedS (updM l [] zeroA) = true := by simp [unusedS, unO, unU, unN, updM, zeroM]
  unfold checkM
  rw [if_neg (by simp [updM]), if_neg (by simp [hu]), if_neg (by simp [updM]), if_pos (by simp [updM])]
  unfold updE
  rw [show (updM l [] zeroA).withdrawn = l from rfl, show (updM l [] zeroA).reach = [] from rfl, if_neg (by simp [h]), if_neg (by simp [pfxE]), comS_nil_right]
  simp [tailU, updM]
theorem check_x {l : List Pfx} {a : Attrs} (hl : l ≠ []) (h : pfxE none l = 0) (ha : checkS a = 0) : checkM (updM [] l a) = 0 := by
  have hu : unusedS (updM [] l a) = true := by simp [unusedS, unO, unU, unN, updM, zeroM]
  unfold checkM
  rw [if_neg (by simp [updM]), if_neg (by simp [hu]), if_neg (by simp [updM]), if_pos (by simp [updM])]
  unfold updE
  rw [show (updM [] l a).withdrawn = [] from rfl, show (updM [] l a).reach = l from rfl, if_neg (by simp [pfxE]), if_neg (by simp [h]), comS_nil_left]
  have : l.length > 0 := List.length_pos_iff.2 hl
  simp [tailU, updM, this, ha]
end Go.AM.IR
set_option maxHeartbeats 4000000
set_option maxRecDepth 20000
namespace Go.AM.IR
theorem encE_w {l : List Pfx} (h : pfxE none l = 0) (hl : ((packP l).length : Int) ≤ 65512) (wide : Bool) : encE (updM l [] zeroA) wide = 0 := by
  refine zero_encE (check_w h) (fun q => q.2.1 rfl) ?_
  rw [show bodyB (updM l [] zeroA) wide = updB (updM l [] zeroA) wide from by simp [bodyB, updM]]
  have hp : (packP ([] : List Pfx)).length = 0 := rfl
  simp only [updB, attsB, updM, zeroM, if_true, List.length_append, be_length, hp, List.length_nil]
  omega
theorem encE_x {l : List Pfx} {a : Attrs} (hn : l ≠ []) (h : pfxE none l = 0) (ha : checkS a = 0) {wide : Bool} (hb : encBad a wide = false) (hs : ((packP l).length : Int) ≤ 65512 - ((encB a wide).length : Nat)) : encE (updM [] l a) wide = 0 := by
  refine zero_encE (check_x hn h ha) (fun q => absurd q.2.2 (by rw [show (updM [] l a).attrs = a from rfl, hb]; simp)) ?_
  rw [show bodyB (updM [] l a) wide = updB (updM [] l a) wide from by simp [bodyB, updM]]
  have e : attsB (updM [] l a) wide = encB a wide := by unfold attsB; exact if_neg hn
  have hp : (packP ([] : List Pfx)).length = 0 := rfl
  unfold updB
  rw [e]
  simp only [updM, zeroM, List.length_append, be_length, hp]
  omega
theorem upd_parts {m : PMsg} (h : checkM m = 0) (hk : m.kind = 2) : pfxE none m.withdrawn = 0 ∧ pfxE none m.reach = 0 := by
  obtain ⟨_, _, _, _, ho, _⟩ := check_parts h
  have ho := ho hk
  by_cases h1 : pfxE none m.withdrawn = 0
  · refine ⟨h1, ?_⟩
    by_cases h2 : pfxE none m.reach = 0
    · exact h2
    · unfold updE at ho; rw [if_neg (by simp [h1]), if_pos h2] at ho; exact ho
  · unfold updE at ho; rw [if_pos h1] at ho; exact absurd ho h1
theorem cost_w {m : PMsg} (h : checkM m = 0) (hk : m.kind = 2) : ∀ p ∈ m.withdrawn, costP p ≤ 65512 := by
  intro p hp
  have := (upd_ok h hk).withdrawn p hp
  unfold validP at this
  rw [decide_eq_true_eq] at this
  have := len8_le this.2.1
  unfold costP; omega
structure PartsOk (m : PMsg) (wide : Bool) (L : List PMsg) : Prop where
  enc : ∀ x ∈ L, encE x wide = 0
  withdrawn : L.flatMap (·.withdrawn) = m.withdrawn
  reach : L.flatMap (·.reach) = m.reach
  some : L ≠ []
  small : ∀ x ∈ L, (∀ p ∈ x.withdrawn, p ∈ m.withdrawn) ∧ (∀ p ∈ x.reach, p ∈ m.reach) ∧ x.withdrawn.length ≤ m.withdrawn.length ∧ x.reach.length ≤ m.reach.length ∧ (x = updM x.withdrawn x.reach x.attrs) ∧ (x.attrs = m.attrs ∨ x.attrs = zeroA)
theorem flat_w (L : List (List Pfx)) : (L.map fun l => updM l [] zeroA).flatMap (·.withdrawn) = L.flatten ∧ (L.map fun l => updM l [] zeroA).flatMap (·.reach) = [] := by
  induction L with
  | nil => exact ⟨rfl, rfl⟩
  | cons l L ih => obtain ⟨h1, h2⟩ := ih; constructor <;> simp_all [updM]
theorem flat_x (a : Attrs) (L : List (List Pfx)) : (L.map fun l => updM [] l a).flatMap (·.withdrawn) = [] ∧ (L.map fun l => updM [] l a).flatMap (·.reach) = L.flatten := by
  induction L with
  | nil => exact ⟨rfl, rfl⟩
  | cons l L ih => obtain ⟨h1, h2⟩ := ih; constructor <;> simp_all [updM, zeroM]
theorem mem_flat {L : List (List Pfx)} {c l : List Pfx} (h : L.flatten = l) (hc : c ∈ L) : (∀ p ∈ c, p ∈ l) ∧ c.length ≤ l.length := by
  subst h
  refine ⟨fun p hp => List.mem_flatten.2 ⟨c, hc, hp⟩, ?_⟩
  induction L with
  | nil => simp at hc
  | cons x L ih =>
    rw [List.flatten_cons, List.length_append]
    rcases List.mem_cons.1 hc with rfl | hc
    · omega
    · have := ih hc; omega
theorem parts_ok {m : PMsg} {wide : Bool} {L : List PMsg} (hk : m.kind = 2) (hc : checkM m = 0) (he : encE m wide = 4) (h : splitM m wide = some L) : PartsOk m wide L := by
  obtain ⟨p1, p2⟩ := upd_parts hc hk
  have hb : ¬ badM m wide := by
    intro hb; unfold encE at he; rw [if_neg (by simp [hc]), if_pos hb] at he; omega
  have hlong : 65535 < 19 + (bodyB m wide).length := by
    unfold encE at he; rw [if_neg (by simp [hc]), if_neg hb] at he
    split at he
    · omega
    · omega
  unfold splitM at h
  obtain ⟨R, h1, rfl⟩ := Option.map_eq_some_iff.1 h
  obtain ⟨r1, r2⟩ := chunk_parts _ _ _ _ p2 h1
  obtain ⟨w1, w2⟩ := chunk_parts _ m.withdrawn.length _ _ p1 (chunk_ref 65512 m.withdrawn.length m.withdrawn (cost_w hc hk) (Nat.le_refl _))
  generalize refC 65512 [] 0 m.withdrawn = W at *
  obtain ⟨f1, f2⟩ := flat_w W
  obtain ⟨f3, f4⟩ := flat_x m.attrs R
  refine ⟨fun x hx => ?_, by rw [List.flatMap_append, f1, f3, w1, List.append_nil], by rw [List.flatMap_append, f2, f4, r1, List.nil_append], fun h0 => ?_, fun x hx => ?_⟩
  · rcases List.mem_append.1 hx with hx | hx
    · obtain ⟨c, hc', rfl⟩ := List.mem_map.1 hx
      obtain ⟨_, q2, q3⟩ := w2 c hc'
      exact encE_w q2 q3 wide
    · obtain ⟨c, hc', rfl⟩ := List.mem_map.1 hx
      obtain ⟨q1, q2, q3⟩ := r2 c hc'
      have hr : m.reach ≠ [] := by
        intro h0
        obtain ⟨p, hp⟩ := List.exists_mem_of_ne_nil c q1
        have := (mem_flat r1 hc').1 p hp
        rw [h0] at this; simp at this
      have ha := (upd_ok hc hk).attrs hr
      have hb2 : encBad m.attrs wide = false := by
        cases hq : encBad m.attrs wide with
        | false => rfl
        | true => exact absurd ⟨hk, hr, hq⟩ hb
      refine encE_x q1 q2 ha hb2 ?_
      rw [show attsB m wide = encB m.attrs wide from by unfold attsB; rw [if_neg hr]] at q3
      exact q3
  · obtain ⟨e1, e2⟩ := List.append_eq_nil_iff.1 h0
    have hw0 : m.withdrawn = [] := by rw [← w1, List.map_eq_nil_iff.1 e1]; rfl
    have hr0 : m.reach = [] := by rw [← r1, List.map_eq_nil_iff.1 e2]; rfl
    have : (bodyB m wide).length = 4 := by simp [bodyB, hk, updB, attsB, hw0, hr0, packP]
    omega
  · rcases List.mem_append.1 hx with hx | hx
    · obtain ⟨c, hc', rfl⟩ := List.mem_map.1 hx
      obtain ⟨g1, g2⟩ := mem_flat w1 hc'
      exact ⟨g1, by simp [updM], g2, by simp [updM], rfl, .inr rfl⟩
    · obtain ⟨c, hc', rfl⟩ := List.mem_map.1 hx
      obtain ⟨g1, g2⟩ := mem_flat r1 hc'
      exact ⟨by simp [updM, zeroM], g1, by simp [updM, zeroM], g2, rfl, .inl rfl⟩
end Go.AM.IR
set_option maxHeartbeats 4000000
set_option maxRecDepth 20000
namespace Go.AM.IR
theorem upd_eq {m : PMsg} (hk : m.kind = 2) (h : UpdOk m) : m = updM m.withdrawn m.reach m.attrs := by
  obtain ⟨a, b, c, d, e, f, g, i⟩ := h.rest
  cases m
  simp only [updM, zeroM] at *
  subst_vars
  rfl
theorem am_upd {w r : List Pfx} {a : Attrs} (ha : AB a) (hw : w.length < 2 ^ 40) (hr : r.length < 2 ^ 40) : AM (updM w r a) :=
  ⟨ha, by simp [updM, zeroM], hw, hr, by simp [updM, zeroM], by simp [updM, zeroM, capT]⟩
theorem ok_upd {w r : List Pfx} {a : Attrs} (ha : a.ok) (hw : ∀ p ∈ w, p.ok) (hr : ∀ p ∈ r, p.ok) : (updM w r a).ok :=
  ⟨by simp [updM, okI], by simp [updM, zeroM, okI], by simp [updM, zeroM, okI], by simp [updM, zeroM, okI], by simp [updM, zeroM, okU], by simp [updM, zeroM], hw, ha, hr, by simp [updM, zeroM, okI], by simp [updM, zeroM, okI]⟩
theorem dup_gives202 (w r : List Pfx) (a : Attrs) (ha : AB a) (hao : a.ok) (hw : w.length < 2 ^ 30) (hr : r.length < 2 ^ 29) (hwo : ∀ p ∈ w, p.ok) (hro : ∀ p ∈ r, p.ok) : Gives G 202 [.agg (updM w r a).enc] [] ⟨.agg (updM w r a).enc, []⟩ := by
  have one : ∀ (w r : List Pfx), w.length < 2 ^ 30 → r.length ≤ 1 → (∀ p ∈ w, p.ok) → (∀ p ∈ r, p.ok) → Gives G 202 [.agg (updM w r a).enc] [] ⟨.agg (updM w r a).enc, []⟩ := by
    intro w r hw hr hwo hro
    by_cases h0 : encE (updM w r a) true = 0
    · exact dup_a _ (am_upd ha (by omega) (by omega)) (ok_upd hao hwo hro) hw (by show r.length < _; omega) h0
    · exact dup_b _ (am_upd ha (by omega) (by omega)) (ok_upd hao hwo hro) hw hr h0
  match r, hr, hro with
  | [], _, hro => exact one w [] hw (by simp) hwo hro
  | [p], _, hro => exact one w [p] hw (by simp) hwo hro
  | p :: q :: r, hr, hro =>
    simp only [List.length_cons] at hr
    by_cases h0 : encE (updM w (p :: q :: r) a) true = 0
    · exact dup_a _ (am_upd ha (by omega) (by simp; omega)) (ok_upd hao hwo hro) hw (by show (p :: q :: r).length < _; simp only [List.length_cons]; omega) h0
    · exact dup_c w r p q a (am_upd ha (by omega) (by simp; omega)) (ok_upd hao hwo hro) hw (by omega) h0 (one [] [p] (by simp) (by simp) (by simp) (fun x hx => hro x (by simp at hx; simp [hx])))
end Go.AM.IR
set_option maxHeartbeats 4000000
set_option maxRecDepth 20000
namespace Go.AM.IR
theorem leS {P : Env → Prop} {s : Nat} {X Y : List (List AV)} (h : X = Y) : LeP P (.sl s X) (.sl s Y) := h ▸ .refl _
@[simp] theorem pureL_pfxO (p : Pfx) : pureL (Pfx.enc p) = true := rfl
@[simp] theorem pureLL_takeG : ∀ {l : List (List AV)} {n : Nat}, pureLL l = true → pureLL (l.take n) = true
  | [], n, _ => by simp [pureLL]
  | x :: l, 0, _ => by simp [pureLL]
  | x :: l, n + 1, h => by
    simp only [pureLL, Bool.and_eq_true] at h
    rw [List.take_succ_cons]
    simp only [pureLL, h.1, pureLL_takeG h.2, Bool.and_self]
@[simp] theorem pureLL_pfxT (l : List Pfx) (n : Nat) : pureLL ((l.map Pfx.enc).take n) = true := by rw [← List.map_take]; exact pureLL_pfxZ _
@[simp] theorem pureLL_pfxD (l : List Pfx) (n : Nat) : pureLL ((l.map Pfx.enc).drop n) = true := by rw [← List.map_drop]; exact pureLL_pfxZ _
theorem fit_le : ∀ (l : List Pfx) (room : Int), fitN room l ≤ l.length
  | [], _ => by simp [fitN]
  | p :: r, room => by
    rw [fitN]
    split
    · omega
    · have := fit_le r (room - costP p); simp only [List.length_cons]; omega
theorem chunkS_succ (room : Int) (f : Nat) {l : List Pfx} (h : l ≠ []) : chunkS room (f + 1) l = if fitN room l = 0 then none else (chunkS room f (l.drop (fitN room l))).map (l.take (fitN room l) :: ·) := by
  cases l with
  | nil => exact absurd rfl h
  | cons p r => rfl
theorem w_loop195 (m : PMsg) (size : Int) (R : Ret) (P : List PMsg) (hP : P.length < 2 ^ 36) (go : ∀ (T : List (Nat × AV)) (H : Heap) (c g g0 k : Nat) (es : List (List AV)), k = P.length → es = P.map PMsg.enc → Ev G ⟨[.code (sfy 9 f195.body)], ⟨(12, .vs 132 g k) :: (2, .ref 66 g0 0) :: (9, .int .i64 size) :: T, (132, some (g, .vec 27 es)) :: (66, some (g0, .cells m.enc)) :: H, c⟩, f195.results, 0⟩ R) :
  ∀ (f : Nat) (l : List Pfx) (L : List (List Pfx)) (acc : List PMsg) (T : List (Nat × AV)) (H : Heap) (c g g0 k : Nat) (es : List (List AV)) (hv : ∀ p ∈ l, 0 ≤ p.len ∧ p.len ≤ 32) (hl : l.length < 2 ^ 30) (hL : chunkS 65512 f l = some L) (hp : acc ++ L.map (fun c => updM c [] zeroA) = P) (hk : k = acc.length) (hes : es = acc.map PMsg.enc),
   Ev G ⟨f195x21LH, ⟨(13, .sl 2 (l.map Pfx.enc)) :: (12, .vs 132 g k) :: (2, .ref 66 g0 0) :: (9, .int .i64 size) :: T, (132, some (g, .vec 27 es)) :: (66, some (g0, .cells m.enc)) :: H, c⟩, [.t 4, .t 5], 0⟩ R
  | f, [], L, acc, T, H, c, g, g0, k, es, hv, hl, hL, hp, hk, hes => by
    obtain rfl : [] = L := by cases f <;> exact Option.some.inj hL
    rw [List.map_nil, List.append_nil] at hp
    subst hp
    refine ev_loop' (W_okd 1 300 _ _ _ _ ?_)
    repeat' (first | refine stpA ?_ | (refine condS ?_ ?_ <;> intro h))
    refine ev_keep [12, 2, 9] [132, 66] ?_
    exact go _ _ _ _ _ _ _ hk hes
  | 0, p :: r, L, acc, T, H, c, g, g0, k, es, hv, hl, hL, hp, hk, hes => by cases hL
  | f + 1, p :: r, L, acc, T, H, c, g, g0, k, es, hv, hl, hL, hp, hk, hes => by
    have hne : (p :: r) ≠ [] := by simp
    have hpos : 0 < (p :: r).length := by simp
    generalize p :: r = l at *
    rw [chunkS_succ _ _ hne] at hL
    split at hL
    · cases hL
    · rename_i hn0
      obtain ⟨L', h1, rfl⟩ := Option.map_eq_some_iff.1 hL
      have hfit := fit_gives203 l (by omega) hv 65512 (by omega) (by omega)
      have hle := fit_le l 65512
      generalize fitN 65512 l = n at *
      have hll : (l.map Pfx.enc).length = l.length := by simp
      have hel : es.length = k := by rw [hes, hk]; simp
      have hPl : P.length = acc.length + (1 + L'.length) := by rw [← hp]; simp; omega
      refine ev_loop' (W_ok 300 _ _ _ _ ?_)
      repeat' (first | refine stpA ?_ | refine kB [(125, _, _)] ⟨rfl, pz trivial⟩ ?_ | refine takP ?_ | (refine condS ?_ ?_ <;> intro h))
      refine ev_keep [13, 12, 2, 9] [132, 66] ?_
      have h13 : List.take ((l.map Pfx.enc).length - ((n : Nat) : Int).toNat) (List.drop ((n : Nat) : Int).toNat (l.map Pfx.enc)) = (l.drop n).map Pfx.enc := by rw [Int.toNat_natCast, List.take_of_length_le (by simp), List.map_drop]
      have h6 : [] ++ List.take (((n : Nat) : Int).toNat - 0) (List.drop 0 (l.map Pfx.enc)) = (l.take n).map Pfx.enc := by simp
      refine ev_le [(13, .sl 2 ((l.drop n).map Pfx.enc))] [(132, some (_, .vec 27 (es ++ [(updM (l.take n) [] zeroA).enc])))] ⟨leS h13, trivial⟩ ⟨⟨rfl, rfl, LLLe_app _ (by repeat' (first | exact trivial | exact leS h6 | exact LeP.refl _ | exact LeP.nil _ | refine LeP.sl ?_ | refine ⟨?_, ?_⟩))⟩, trivial⟩ ?_
      refine ev_keep [13, 12, 2, 9] [132, 66] ?_
      refine w_loop195 m size R P hP go f (l.drop n) L' (acc ++ [updM (l.take n) [] zeroA]) _ _ _ _ _ _ _ (fun p hp => hv p (List.mem_of_mem_drop hp)) (by rw [List.length_drop]; omega) h1 (by rw [← hp]; simp) ?_ ?_
      · simp [hk]
      · simp [hes]
def endS (acc : List PMsg) (a : Attrs) : Option (List (List Pfx)) → List PMsg × Int
  | none => ([], 4)
  | some L => (acc ++ L.map (fun c => updM [] c a), 0)
theorem endS_cons (acc : List PMsg) (a : Attrs) (x : List Pfx) (o : Option (List (List Pfx))) : endS acc a (o.map (x :: ·)) = endS (acc ++ [updM [] x a]) a o := by cases o <;> simp [endS]
theorem x_loop195 (m : PMsg) (size : Int) (hs : 0 ≤ size ∧ size < 2 ^ 30) : ∀ (f : Nat) (l : List Pfx) (acc : List PMsg) (T : List (Nat × AV)) (H : Heap) (c g g0 k : Nat) (es : List (List AV)) (hv : ∀ p ∈ l, 0 ≤ p.len ∧ p.len ≤ 32) (hl : l.length < 2 ^ 30) (hf : l.length ≤ f) (hd : ∀ p ∈ l, Gives G 202 [.agg (rawX p m.attrs)] [] ⟨.agg (updM [] [p] m.attrs).enc, []⟩) (ha : acc.length + f < 2 ^ 36) (hk : k = acc.length) (hes : es = acc.map PMsg.enc),
   Ev G ⟨f195x31LH, ⟨(15, .sl 2 (l.map Pfx.enc)) :: (12, .vs 132 g k) :: (2, .ref 66 g0 0) :: (9, .int .i64 size) :: T, (132, some (g, .vec 27 es)) :: (66, some (g0, .cells m.enc)) :: H, c⟩, [.t 4, .t 5], 0⟩ (splR (endS acc m.attrs (chunkS (65512 - size) f l)))
  | f, [], acc, T, H, c, g, g0, k, es, hv, hl, hf, hd, ha, hk, hes => by
    rw [show chunkS (65512 - size) f [] = some [] from by cases f <;> rfl]
    subst hes hk
    rw [show endS acc m.attrs (some []) = (acc, 0) from by simp [endS]]
    refine ev_loop' (W_ok 300 _ _ _ _ ?_)
    repeat' (first | refine stpA ?_ | (refine condS ?_ ?_ <;> intro h))
    refine ev_finN [(132, _, .vec 27 _)] ⟨⟨rfl, (by exact pureLL_msg _), trivial⟩, rfl, rfl, (by simp), ?_⟩
    unfold splR
    rw [if_pos rfl]
    exact tupS_ren 132 rfl rfl
  | 0, p :: r, acc, T, H, c, g, g0, k, es, hv, hl, hf, hd, ha, hk, hes => by simp at hf
  | f + 1, p :: r, acc, T, H, c, g, g0, k, es, hv, hl, hf, hd, ha, hk, hes => by
    have hx := hd p (by simp)
    have hne : (p :: r) ≠ [] := by simp
    have hfit := fit_gives203 (p :: r) (by omega) hv (65512 - size) (by omega) (by omega)
    have hle := fit_le (p :: r) (65512 - size)
    rw [chunkS_succ _ _ hne]
    have hll : ((p :: r).map Pfx.enc).length = (p :: r).length := by simp
    have hpl : (p :: r).length = r.length + 1 := rfl
    have hel : es.length = k := by rw [hes, hk]; simp
    generalize fitN (65512 - size) (p :: r) = n at *
    by_cases hn0 : n = 0
    · rw [if_pos hn0]
      have hn0' : (n : Int) = 0 := by omega
      refine ev_loop' (W_ok 300 _ _ _ _ ?_)
      repeat' (first | refine stpA ?_ | refine takP ?_ | (refine condS ?_ ?_ <;> intro h))
      all_goals ((first | refine fin1 ?_ | refine fin0 ?_); rfl)
    · rw [if_neg hn0]
      refine ev_loop' (W_ok 300 _ _ _ _ ?_)
      repeat' (first | refine stpA ?_ | refine kB [(153, _, _)] ⟨rfl, pz trivial⟩ ?_ | refine takP ?_ | refine callW hx ?_ (rawP p m.attrs) (encP _) | (refine condS ?_ ?_ <;> intro h))
      have h13 : List.take (((p :: r).map Pfx.enc).length - ((n : Nat) : Int).toNat) (List.drop ((n : Nat) : Int).toNat ((p :: r).map Pfx.enc)) = ((p :: r).drop n).map Pfx.enc := by rw [Int.toNat_natCast, List.take_of_length_le (by rw [List.length_drop]; omega), List.map_drop]
      have h6 : [] ++ List.take (((n : Nat) : Int).toNat - 0) (List.drop 0 ((p :: r).map Pfx.enc)) = ((p :: r).take n).map Pfx.enc := by rw [List.nil_append, List.drop_zero, Int.toNat_natCast, Nat.sub_zero, List.map_take]
      refine ev_keep [15, 12, 2, 9] [132, 66] ?_
      refine ev_le [(15, .sl 2 (((p :: r).drop n).map Pfx.enc))] [(132, some (_, .vec 27 (es ++ [(updM [] ((p :: r).take n) m.attrs).enc])))] ⟨leS h13, trivial⟩ ⟨⟨rfl, rfl, LLLe_app _ (by repeat' (first | exact trivial | exact leS h6 | exact LeP.refl _ | exact LeP.nil _ | refine LeP.sl ?_ | refine ⟨?_, ?_⟩))⟩, trivial⟩ ?_
      refine ev_keep [15, 12, 2, 9] [132, 66] ?_
      have ih := x_loop195 m size hs f ((p :: r).drop n) (acc ++ [updM [] ((p :: r).take n) m.attrs])
      rw [endS_cons]
      refine ih _ _ _ _ _ _ _ (fun q hq => hv q (List.mem_of_mem_drop hq)) (by rw [List.length_drop]; omega) (by rw [List.length_drop]; omega) (fun q hq => hd q (List.mem_of_mem_drop hq)) (by simp; omega) ?_ ?_
      · simp [hk]
      · simp [hes]
end Go.AM.IR
set_option maxHeartbeats 4000000
set_option maxRecDepth 20000
namespace Go.AM.IR
theorem mid195 (m : PMsg) (hc : checkM m = 0) (hk : m.kind = 2) (hw : m.withdrawn.length < 2 ^ 30) (hr : m.reach.length < 2 ^ 29) (hd : ∀ p ∈ m.reach, Gives G 202 [.agg (rawX p m.attrs)] [] ⟨.agg (updM [] [p] m.attrs).enc, []⟩) (size : Int) (hs : 0 ≤ size ∧ size < 2 ^ 30) (T : List (Nat × AV)) (H : Heap) (c g0 : Nat) :
    Ev G ⟨[.code (sfy 7 f195.body)], ⟨(2, .ref 66 g0 0) :: (9, .int .i64 size) :: T, (66, some (g0, .cells m.enc)) :: H, c⟩, f195.results, 0⟩ (splR (endS ((refC 65512 [] 0 m.withdrawn).map (fun c => updM c [] zeroA)) m.attrs (chunkS (65512 - size) m.reach.length m.reach))) := by
  have hu := upd_ok hc hk
  have hL := chunk_ref 65512 m.withdrawn.length m.withdrawn (cost_w hc hk) (Nat.le_refl _)
  have hlen := refC_len 65512 m.withdrawn [] 0
  generalize refC 65512 [] 0 m.withdrawn = L at *
  refine W_ok 300 _ _ _ _ ?_
  repeat' (first | refine stpA ?_ | (refine condS ?_ ?_ <;> intro h))
  refine ev_nil 132 27 [(12, .vs 132 _ 0)] [] ⟨LeP.nilV _ _ _, trivial⟩ trivial ?_
  refine ev_keep [13, 12, 2, 9] [132, 66] ?_
  refine w_loop195 m size _ (L.map (fun c => updM c [] zeroA)) (by simp; omega) ?_ m.withdrawn.length m.withdrawn L [] _ _ _ _ _ _ _ (fun p hp => valid_len (hu.withdrawn p hp)) hw hL (by simp) rfl rfl
  intro T H c g g0 k es hk' hes
  refine W_ok 300 _ _ _ _ ?_
  repeat' (first | refine stpA ?_ | (refine condS ?_ ?_ <;> intro h))
  refine ev_keep [15, 12, 2, 9] [132, 66] ?_
  exact x_loop195 m size hs m.reach.length m.reach (L.map (fun c => updM c [] zeroA)) _ _ _ _ _ _ _ (fun p hp => valid_len (hu.reach p hp)) (by omega) (Nat.le_refl _) hd (by simp; omega) hk' hes
theorem split_end {m : PMsg} {wide : Bool} (hk : m.kind = 2) (he : encE m wide = 4) (hc : checkM m = 0) : splitS m wide = endS ((refC 65512 [] 0 m.withdrawn).map (fun c => updM c [] zeroA)) m.attrs (chunkS (65512 - (attsB m wide).length) m.reach.length m.reach) := by
  unfold splitS splitM
  rw [if_neg (by simp [hk]), if_neg (by simp [he]), if_neg (by simp [he, hc])]
  cases chunkS (65512 - ((attsB m wide).length : Int)) m.reach.length m.reach <;> rfl
theorem split_gives195 (m : PMsg) (h : AM m) (ho : m.ok) (hw : m.withdrawn.length < 2 ^ 30) (hr : m.reach.length < 2 ^ 29) (wide : Bool) : Gives G 195 [.agg m.enc, .bool wide] [] (splR (splitS m wide)) := by
  have he := enc_gives193 m h ho hw (by omega) wide
  have hcc := check_gives144 m h.lenO (sizeS_le h.attrs) ⟨ho.withdrawn, ho.reach⟩
  by_cases hk : m.kind = 2
  rotate_left
  · rw [show splitS m wide = ([], 15) from by unfold splitS; rw [if_pos hk]]
    refine gives_code (F := f195) rfl rfl (W_ok 300 _ _ _ _ ?_)
    repeat' (first | refine stpA ?_ | (refine condS ?_ ?_ <;> intro h))
    all_goals ((first | refine fin1 ?_ | refine fin0 ?_); rfl)
  by_cases h0 : encE m wide = 0
  · have hc := (encE_zero h0).1
    have hu := upd_eq hk (upd_ok hc hk)
    have hd := dup_gives202 m.withdrawn m.reach m.attrs h.attrs ho.attrs hw hr ho.withdrawn ho.reach
    rw [← hu] at hd
    rw [show splitS m wide = ([m], 0) from by unfold splitS; rw [if_neg (by simp [hk]), if_pos h0]]
    rw [encMR_zero h0] at he
    clear hu
    refine gives_code (F := f195) rfl rfl (W_ok 300 _ _ _ _ ?_)
    repeat' (first | refine stpA ?_ | (refine condS ?_ ?_ <;> intro h))
    refine ev_finN [(95, _, .vec 27 _)] ⟨⟨rfl, (by exact pureLL_msg [m]), trivial⟩, rfl, rfl, (by simp), ?_⟩
    unfold splR
    rw [if_pos rfl]
    exact tupS_ren 95 rfl rfl
  rw [encMR_ne rfl h0] at he
  by_cases hc : checkM m = 0
  rotate_left
  · have e1 : encE m wide = checkM m := by unfold encE; rw [if_pos hc]
    rw [show splitS m wide = ([], checkM m) from by unfold splitS; rw [if_neg (by simp [hk]), if_neg h0, if_pos (.inr hc), e1]]
    unfold splR
    rw [if_neg hc]
    rw [e1] at he h0
    generalize checkM m = k at *
    refine gives_code (F := f195) rfl rfl (W_ok 300 _ _ _ _ ?_)
    repeat' (first | refine stpA ?_ | (refine condS ?_ ?_ <;> intro h))
    all_goals ((first | refine fin1 ?_ | refine fin0 ?_); rfl)
  have hu := upd_ok hc hk
  rw [hc] at hcc
  have h67 := encode67 m.attrs wide h.attrs ho.attrs
  unfold encR encRet at h67
  by_cases h4 : encE m wide = 4
  rotate_left
  · obtain ⟨⟨_, hz, hb⟩, h5⟩ := encE_other hc h0 h4
    rw [show splitS m wide = ([], 5) from by unfold splitS; rw [if_neg (by simp [hk]), if_neg h0, if_pos (.inl h4), h5]]
    rw [if_pos (hu.attrs hz), hb, if_pos rfl] at h67
    have hzl : 0 < (m.reach.map Pfx.enc).length := by rw [List.length_map]; exact List.length_pos_iff.2 hz
    rw [h5] at he
    refine gives_code (F := f195) rfl rfl (W_ok 300 _ _ _ _ ?_)
    repeat' (first | refine stpA ?_ | (refine condS ?_ ?_ <;> intro h))
    all_goals ((first | refine fin1 ?_ | refine fin0 ?_); rfl)
  rw [split_end hk h4 hc]
  rw [h4] at he
  have hd : ∀ p ∈ m.reach, Gives G 202 [.agg (rawX p m.attrs)] [] ⟨.agg (updM [] [p] m.attrs).enc, []⟩ := fun p hp => dup_raw p m.attrs (dup_gives202 [] [p] m.attrs h.attrs ho.attrs (by simp) (by simp) (by simp) (fun q hq => ho.reach q (by simp at hq; simp [hq, hp])))
  by_cases hz : m.reach = []
  · have hA : attsB m wide = [] := by unfold attsB; rw [if_pos hz]
    have hmid := mid195 m hc hk hw hr hd 0 (by omega)
    rw [hA]
    have hzl : (m.reach.map Pfx.enc).length = 0 := by rw [hz]; rfl
    refine gives_code (F := f195) rfl rfl ?_
    refine ev_seq (b := sfy 1 f195.body) ?_
    refine W_okd 1 300 _ _ _ _ ?_
    repeat' (first | refine stpA ?_ | (refine condS ?_ ?_ <;> intro h))
    refine ev_seq (b := sfy 2 f195.body) ?_
    refine W_okd 1 300 _ _ _ _ ?_
    repeat' (first | refine stpA ?_ | (refine condS ?_ ?_ <;> intro h))
    refine ev_seq (b := sfy 3 f195.body) ?_
    refine W_okd 1 300 _ _ _ _ ?_
    repeat' (first | refine stpA ?_ | (refine condS ?_ ?_ <;> intro h))
    refine ev_seq (b := sfy 4 f195.body) ?_
    refine W_okd 1 300 _ _ _ _ ?_
    repeat' (first | refine stpA ?_ | (refine condS ?_ ?_ <;> intro h))
    refine ev_seq (b := sfy 5 f195.body) ?_
    refine W_okd 1 300 _ _ _ _ ?_
    repeat' (first | refine stpA ?_ | (refine condS ?_ ?_ <;> intro h))
    refine ev_seq (b := sfy 6 f195.body) ?_
    refine W_okd 1 300 _ _ _ _ ?_
    repeat' (first | refine stpA ?_ | (refine condS ?_ ?_ <;> intro h))
    refine ev_seq (b := sfy 7 f195.body) ?_
    refine W_okd 1 300 _ _ _ _ ?_
    repeat' (first | refine stpA ?_ | (refine condS ?_ ?_ <;> intro h))
    refine ev_keep [2, 9] [66] ?_
    exact hmid _ _ _ _
  · have hzl : 0 < (m.reach.map Pfx.enc).length := by rw [List.length_map]; exact List.length_pos_iff.2 hz
    have hA : attsB m wide = encB m.attrs wide := by unfold attsB; rw [if_neg hz]
    have hb : encBad m.attrs wide = false := by
      cases hq : encBad m.attrs wide with
      | false => rfl
      | true => exact absurd ⟨hk, hz, hq⟩ (encE_four hc h4)
    rw [if_pos (hu.attrs hz), hb, if_neg (by simp)] at h67
    rw [hA]
    have hs := encB_le (valid_of (hu.attrs hz)) wide
    have hmid := mid195 m hc hk hw hr hd (encB m.attrs wide).length (by omega)
    generalize encB m.attrs wide = A at *
    refine gives_code (F := f195) rfl rfl ?_
    refine ev_seq (b := sfy 1 f195.body) ?_
    refine W_okd 1 300 _ _ _ _ ?_
    repeat' (first | refine stpA ?_ | (refine condS ?_ ?_ <;> intro h))
    refine ev_seq (b := sfy 2 f195.body) ?_
    refine W_okd 1 300 _ _ _ _ ?_
    repeat' (first | refine stpA ?_ | (refine condS ?_ ?_ <;> intro h))
    refine ev_seq (b := sfy 3 f195.body) ?_
    refine W_okd 1 300 _ _ _ _ ?_
    repeat' (first | refine stpA ?_ | (refine condS ?_ ?_ <;> intro h))
    refine ev_seq (b := sfy 4 f195.body) ?_
    refine W_okd 1 300 _ _ _ _ ?_
    repeat' (first | refine stpA ?_ | (refine condS ?_ ?_ <;> intro h))
    refine ev_seq (b := sfy 5 f195.body) ?_
    refine W_okd 1 300 _ _ _ _ ?_
    repeat' (first | refine stpA ?_ | (refine condS ?_ ?_ <;> intro h))
    refine ev_seq (b := sfy 6 f195.body) ?_
    refine W_okd 1 300 _ _ _ _ ?_
    repeat' (first | refine stpA ?_ | (refine condS ?_ ?_ <;> intro h))
    refine ev_seq (b := sfy 7 f195.body) ?_
    refine W_okd 1 300 _ _ _ _ ?_
    repeat' (first | refine stpA ?_ | (refine condS ?_ ?_ <;> intro h))
    refine ev_keep [2, 9] [66] ?_
    exact hmid _ _ _ _
end Go.AM.IR
set_option maxHeartbeats 4000000
set_option maxRecDepth 20000
namespace Go.AM.IR
end Go.AM.IR
set_option maxHeartbeats 4000000
set_option maxRecDepth 20000
namespace Go.AM.IR
theorem abZ0 : AB zeroA := ⟨by simp [zeroA], by simp [zeroA, flatS], by simp [zeroA], by simp [zeroA], by simp [zeroA], by simp [zeroA], by simp [zeroA, unkS]⟩
theorem split_parts {m : PMsg} {wide : Bool} {L : List PMsg} (h : splitS m wide = (L, 0)) : PartsOk m wide L := by
  unfold splitS at h
  split at h
  · cases h
  · rename_i hk
    have hk : m.kind = 2 := by omega
    split at h
    · rename_i h0
      obtain rfl := (Prod.mk.inj h).1
      have hu := upd_eq hk (upd_ok (encE_zero h0).1 hk)
      exact ⟨fun x hx => by simp at hx; rw [hx]; exact h0, by simp, by simp, by simp, fun x hx => by
        simp at hx
        rw [hx]
        exact ⟨fun p hp => hp, fun p hp => hp, Nat.le_refl _, Nat.le_refl _, hu, .inl rfl⟩⟩
    · split at h
      · rename_i h0 _
        exact absurd (Prod.mk.inj h).2 h0
      · rename_i h0 h1
        have h4 : encE m wide = 4 := by omega
        have hc : checkM m = 0 := by omega
        cases hs : splitM m wide with
        | none => rw [hs] at h; simp at h
        | some L' =>
          rw [hs] at h
          obtain rfl := (Prod.mk.inj h).1
          exact parts_ok hk hc h4 hs
structure PartA (x : PMsg) : Prop where
  am : AM x
  ok : x.ok
  withdrawn : x.withdrawn.length < 2 ^ 30
  reach : x.reach.length < 2 ^ 30
theorem part_am {m : PMsg} {wide : Bool} {L : List PMsg} (p : PartsOk m wide L) (h : AM m) (ho : m.ok) (hw : m.withdrawn.length < 2 ^ 30) (hr : m.reach.length < 2 ^ 30) : ∀ x ∈ L, PartA x := by
  intro x hx
  obtain ⟨s1, s2, s3, s4, s5, s6⟩ := p.small x hx
  have ha : AB x.attrs ∧ x.attrs.ok := by
    rcases s6 with q | q
    · rw [q]; exact ⟨h.attrs, ho.attrs⟩
    · rw [q]; exact ⟨abZ0, (zero_rng 4).ok⟩
  have h1 := am_upd (w := x.withdrawn) (r := x.reach) ha.1 (by omega) (by omega)
  have h2 := ok_upd ha.2 (fun p hp => ho.withdrawn p (s1 p hp)) (fun p hp => ho.reach p (s2 p hp))
  rw [← s5] at h1 h2
  exact ⟨h1, h2, by omega, by omega⟩
theorem chunk_len (room : Int) : ∀ (f : Nat) (l : List Pfx) (L : List (List Pfx)), chunkS room f l = some L → L.length ≤ f
  | f, [], L, h => by
    obtain rfl : [] = L := by cases f <;> exact Option.some.inj h
    simp
  | 0, p :: r, L, h => by cases h
  | f + 1, p :: r, L, h => by
    rw [chunkS] at h
    split at h
    · cases h
    · obtain ⟨L', h1, rfl⟩ := Option.map_eq_some_iff.1 h
      have := chunk_len room f _ L' h1
      simp only [List.length_cons]; omega
theorem split_len (m : PMsg) (wide : Bool) : (splitS m wide).1.length ≤ m.withdrawn.length + m.reach.length + 2 := by
  unfold splitS
  split
  · simp
  · split
    · simp
    · split
      · simp
      · cases hs : splitM m wide with
        | none => simp
        | some L =>
          unfold splitM at hs
          obtain ⟨R, h1, rfl⟩ := Option.map_eq_some_iff.1 hs
          have := chunk_len _ _ _ _ h1
          have := refC_len 65512 m.withdrawn [] 0
          simp only [List.length_append, List.length_map]; omega
theorem msg_len (m : PMsg) (h : bkL m.enc ≤ 1048576) : m.withdrawn.length < 2 ^ 29 ∧ m.reach.length < 2 ^ 29 ∧ (flatS m.attrs.path).length < 2 ^ 39 := by
  have h3 := len_bk Pfx.enc pfx1 m.withdrawn
  have h4 := len_bk Pfx.enc pfx1 m.reach
  have h2 := bkLL_map_le Seg.enc (fun s => s.as.length) (fun s => by have := seg_bk s; omega) m.attrs.path
  rw [← flat_len] at h2
  simp only [PMsg.enc, bkL, AV.bk] at h
  generalize bkLL (m.caps.map Cap.enc) = z1 at *
  generalize bkLL (m.withdrawn.map Pfx.enc) = z2 at *
  generalize bkLL (m.reach.map Pfx.enc) = z3 at *
  generalize bkLL (byteCells m.data) = z4 at *
  generalize bkLL (m.attrs.path.map Seg.enc) = z5 at *
  generalize bkLL (m.attrs.comms.map encU) = z6 at *
  generalize bkLL (m.attrs.clusters.map encU) = z7 at *
  generalize bkLL (m.attrs.unknown.map TLV.enc) = z8 at *
  exact ⟨by omega, by omega, by omega⟩
end Go.AM.IR
set_option maxHeartbeats 4000000
set_option maxRecDepth 20000
namespace Go.AM.IR
theorem flat_mid {α : Type} (f : PMsg → List α) {l done r : List PMsg} {x : PMsg} (e : l = done ++ x :: r) : (l.flatMap f).length = (done.flatMap f).length + (f x).length + (r.flatMap f).length := by
  subst e; simp; omega
theorem parts_loop190 (l : List PMsg) (m : PMsg) (wide : Bool) (hp : ∀ x ∈ l, PartA x) (he : ∀ x ∈ l, encE x wide = 0) (hne : l ≠ []) (hw : (l.flatMap (·.withdrawn)).length < 2 ^ 30) (hr : (l.flatMap (·.reach)).length < 2 ^ 30) (e1 : l.flatMap (·.withdrawn) = m.withdrawn) (e2 : l.flatMap (·.reach) = m.reach) (hl : l.length < 2 ^ 40) (ln : Int) (hln : ln = l.length) : ∀ (rest done : List PMsg) (g1 g2 g0 k1 k2 : Nat) (es1 es2 : List (List AV)) (T : List (Nat × AV)) (H : Heap) (c : Nat) (n : Int) (e : l = done ++ rest) (hn : n = done.length) (hk1 : k1 = (done.flatMap (·.withdrawn)).length) (hk2 : k2 = (done.flatMap (·.reach)).length) (hes1 : es1 = (done.flatMap (·.withdrawn)).map Pfx.enc) (hes2 : es2 = (done.flatMap (·.reach)).map Pfx.enc), Ev G ⟨f190x16LH, ⟨(25, .sl 27 (l.map PMsg.enc)) :: (26, .int .i64 ln) :: (27, .int .i64 n) :: (7, .vs 111 g1 k1) :: (8, .vs 115 g2 k2) :: (1, .bool wide) :: (2, .ref 66 g0 0) :: (5, .sl 27 (l.map PMsg.enc)) :: T, (111, some (g1, .vec 2 es1)) :: (115, some (g2, .vec 2 es2)) :: (66, some (g0, .cells m.enc)) :: H, c⟩, [.t 4], 0⟩ ⟨.bool true, []⟩
  | [], done, g1, g2, g0, k1, k2, es1, es2, T, H, c, n, e, hn, hk1, hk2, hes1, hes2 => by
    have hd : l.length = done.length := by simp [e]
    have hll : (l.map PMsg.enc).length = l.length := by simp
    have aw := awake192_gives
    obtain rfl : l = done := by simpa using e
    clear e
    have s1 := samePfx_gives139 m.withdrawn m.withdrawn (by rw [← e1]; omega)
    have s2 := samePfx_gives139 m.reach m.reach (by rw [← e2]; omega)
    rw [decide_eq_true rfl] at s1 s2
    have hlp : 0 < l.length := List.length_pos_iff.2 hne
    rw [e1] at hes1 hk1
    rw [e2] at hes2 hk2
    have hl1 : (m.withdrawn.map Pfx.enc).length = m.withdrawn.length := by simp
    have hl2 : (m.reach.map Pfx.enc).length = m.reach.length := by simp
    clear e1 e2
    subst hes1 hes2 hk1 hk2
    refine ev_frzk [(111, _, _), (115, _, _)] [7, 8, 1, 2, 5, 25, 26, 27] [66] ⟨rfl, (by first | rfl | (simp [Blk.pure, pureL, pureLL, AV.pure, *]; done) | fail), rfl, (by first | rfl | (simp [Blk.pure, pureL, pureLL, AV.pure, *]; done) | fail), trivial⟩ ?_; repeat ((conv => whnf); first | refine And.intro (by first | rfl | omega | (simp [pureL, pureLL, AV.pure]; done) | (simp; omega) | (simp [pureL, pureLL, AV.pure, *]; done) | assumption | fail) ?_ | intro T H)
    refine ev_loop' (W_ok 300 _ _ _ _ ?_)
    repeat' (first | refine stpA ?_ | (refine condS ?_ ?_ <;> intro h))
    all_goals ((first | refine fin1 ?_ | refine fin0 ?_); rfl)
  | x :: r, done, g1, g2, g0, k1, k2, es1, es2, T, H, c, n, e, hn, hk1, hk2, hes1, hes2 => by
    have hd : l.length = done.length + (r.length + 1) := by simp [e]
    have hll : (l.map PMsg.enc).length = l.length := by simp
    have hx : (l.map PMsg.enc)[n.toNat]? = some (PMsg.enc x) := by simp [e, hn]
    have hx := hp x (by simp [e])
    have hE := he x (by simp [e])
    have hm1 := flat_mid (·.withdrawn) e
    have hm2 := flat_mid (·.reach) e
    have h1 := enc_gives193 x hx.am hx.ok hx.withdrawn hx.reach wide
    rw [encMR_zero hE] at h1
    have hlen : (msgB x wide).length ≤ 65535 := by have := (encE_zero hE).2.2; rw [msgB_length]; omega
    generalize msgB x wide = B at *
    have hl1 : (x.withdrawn.map Pfx.enc).length = x.withdrawn.length := by simp
    have hl2 : (x.reach.map Pfx.enc).length = x.reach.length := by simp
    have hel1 : es1.length = k1 := by rw [hes1, hk1]; simp
    have hel2 : es2.length = k2 := by rw [hes2, hk2]; simp
    refine ev_loop' (W_ok 300 _ _ _ _ ?_)
    repeat' (first | refine stpA ?_ | (refine condS ?_ ?_ <;> intro h))
    refine ev_keep [25, 26, 27, 7, 8, 1, 2, 5] [111, 115, 66] ?_; exact parts_loop190 l m wide hp he hne hw hr e1 e2 hl ln hln r (done ++ [x]) _ _ _ _ _ _ _ _ _ _ (n + 1) (by simp [e]) (by simp [hn] <;> omega) (by simp [hk1]) (by simp [hk2]) (by simp [hes1]) (by simp [hes2])
theorem law190_gives (m : PMsg) (h : AM m) (ho : m.ok) (hw : m.withdrawn.length < 2 ^ 29) (hr : m.reach.length < 2 ^ 29) (wide : Bool) : Gives G 190 [.agg m.enc, .bool wide] [] ⟨.bool true, []⟩ := by
  have l1 := large_gives130 m h
  have s1 := split_gives195 m h ho (by omega) hr wide
  have hL : (splitS m wide).1.length < 2 ^ 40 := by have := split_len m wide; omega
  have aw := awake192_gives
  generalize largeM m = lm at *
  cases lm
  rotate_left
  · refine gives_code (F := f190) rfl rfl (W_ok 300 _ _ _ _ ?_)
    repeat' (first | refine stpA ?_ | (refine condS ?_ ?_ <;> intro h))
    all_goals try ((first | refine fin1 ?_ | refine fin0 ?_); first | rfl | (simp [Bool.cond_eq_ite, *]; done) | (simp [Bool.cond_eq_ite, *]; omega))
  cases hS : splitS m wide with
  | mk L e =>
  rw [hS] at s1 hL
  unfold splR at s1
  simp only at s1 hL
  by_cases he : e = 0
  · rw [if_pos he] at s1
    have hp := split_parts (m := m) (wide := wide) (L := L) (by rw [hS, he])
    have hpa := part_am hp h ho (by omega) (by omega)
    have hLl : (L.map PMsg.enc).length = L.length := by simp
    refine gives_code (F := f190) rfl rfl ?_
    refine ev_seq (b := sfy 1 f190.body) ?_
    refine W_okd 1 300 _ _ _ _ ?_
    repeat' (first | refine stpA ?_ | (refine condS ?_ ?_ <;> intro h))
    refine ev_seq (b := sfy 2 f190.body) ?_
    refine W_okd 1 300 _ _ _ _ ?_
    repeat' (first | refine stpA ?_ | (refine condS ?_ ?_ <;> intro h))
    refine ev_seq (b := sfy 3 f190.body) ?_
    refine W_okd 1 300 _ _ _ _ ?_
    repeat' (first | refine stpA ?_ | (refine condS ?_ ?_ <;> intro h))
    refine ev_seq (b := sfy 4 f190.body) ?_
    refine W_okd 1 300 _ _ _ _ ?_
    repeat' (first | refine stpA ?_ | (refine condS ?_ ?_ <;> intro h))
    refine ev_seq (b := sfy 5 f190.body) ?_
    refine W_okd 1 300 _ _ _ _ ?_
    repeat' (first | refine stpA ?_ | (refine condS ?_ ?_ <;> intro h))
    refine ev_frzk [(83, _, _)] [5, 6, 1, 2, 7, 8] [66] ⟨rfl, (by first | rfl | (simp [Blk.pure, pureL, pureLL, AV.pure, *]; done) | fail), trivial⟩ ?_; repeat ((conv => whnf); first | refine And.intro (by first | rfl | omega | (simp [pureL, pureLL, AV.pure]; done) | (simp; omega) | (simp [pureL, pureLL, AV.pure, *]; done) | assumption | fail) ?_ | intro T H)
    refine W_ok 300 _ _ _ _ ?_
    repeat' (first | refine stpA ?_ | (refine condS ?_ ?_ <;> intro h))
    refine ev_nil 111 2 [(7, .vs 111 _ 0)] [] ⟨LeP.nilV _ _ _, trivial⟩ trivial ?_
    refine ev_nil 115 2 [(8, .vs 115 _ 0)] [] ⟨LeP.nilV _ _ _, trivial⟩ trivial ?_
    refine ev_keep [25, 26, 27, 7, 8, 1, 2, 5] [111, 115, 66] ?_
    exact parts_loop190 L m wide hpa hp.enc hp.some (by rw [hp.withdrawn]; omega) (by rw [hp.reach]; omega) hp.withdrawn hp.reach hL _ (by simp) L [] _ _ _ _ _ _ _ _ _ _ 0 rfl rfl rfl rfl rfl rfl
  · rw [if_neg he] at s1
    refine gives_code (F := f190) rfl rfl (W_ok 300 _ _ _ _ ?_)
    repeat' (first | refine stpA ?_ | (refine condS ?_ ?_ <;> intro h))
    all_goals try ((first | refine fin1 ?_ | refine fin0 ?_); first | rfl | (simp [Bool.cond_eq_ite, *]; done) | (simp [Bool.cond_eq_ite, *]; omega))
theorem law190_all (ass : List (List AV)) (h : ArgsT [tMsg, .bool] ass) (hb : bkLL ass ≤ 1048576) : Gives G 190 (argsA [tMsg, .bool] ass) [] ⟨.bool true, []⟩ := by
  obtain ⟨x, s1, rfl, h1, h⟩ := argsT_cons h
  obtain ⟨y, s2, rfl, h2, h⟩ := argsT_cons h
  obtain rfl := argsT_nil h
  obtain ⟨m, rfl, ho⟩ := T_msg h1
  obtain ⟨w, rfl⟩ := h2
  simp only [bkLL] at hb
  have hm := am_of m (by omega)
  obtain ⟨q1, q2, q3⟩ := msg_len m (by omega)
  exact law190_gives m hm ho q1 q2 w
end Go.AM.IR
