/- What the functions of this program give, on the abstract machine. -/
import Derived.Test.YtcieamgbfameoaaGreatDoorDataD
import Derived.Test.YtcieamgbfameoaaGreatDoorDataA
import Derived.Test.YtcieamgbfameoaaGreatDoorDataC
import Derived.Test.YtcieamgbfameoaaGreatDoorMachineB
set_option linter.unusedVariables false
set_option linter.unusedSimpArgs false
set_option maxHeartbeats 4000000
set_option maxRecDepth 20000
namespace Go.AM.IR
theorem Tw (a p q : List UInt8) (wide : Bool) (g1 g2 g3 g4 : Nat) (T : List (Nat × AV)) (H : aq) (c : Nat) (rp : List UInt8) (lp : List Pfx) (h1 : ah G 210 [.ref 0 0 0] [.cells [.sl 1 (byteCells p), .con (.slice none 0 0)]] ⟨.bool false, [(true, .cells [.sl 1 (byteCells rp), .vs 1 0 lp.length]), (false, .vec 2 (lp.map Pfx.enc))]⟩) : Ev G ⟨[.code (suf 9 dh.body)], ⟨(9, .ref 97 g1 0) :: (11, .ref 113 g2 0) :: (10, .sl 1 (byteCells a)) :: (1, .bool wide) :: (4, .ref 68 g3 0) :: (5, .ref 69 g4 0) :: T, (97, some (g1, .cells [.sl 1 (byteCells p), .con (.slice none 0 0)])) :: (113, some (g2, .cells [.sl 1 (byteCells q), .con (.slice none 0 0)])) :: (68, some (g3, .cells ap.enc)) :: (69, some (g4, .cells ap.enc)) :: H, c⟩, [.cell 4 (some 27), .cell 5 (some 27), .t 6], 0⟩ ⟨.tup [.agg ap.enc, .agg (bc 3 10 []).enc, .int .i64 2], []⟩ := by
 have h6 : ah G 198 [.int .i64 3, .int .i64 10, .con (.slice none 0 0)] [] ⟨.agg (bc 3 10 []).enc, []⟩ := bP 3 10
 refine wk3 ?_
 repeat' (first | refine ab ?_ | refine kX [(97, _, _)] [] ⟨rfl, trivial⟩ trivial (h1) ?_ | (refine aa ?_ ?_ <;> intro h))
 refine bm [] [(68, some (_, .cells ap.enc))] trivial ⟨⟨rfl, leA⟩, trivial⟩ ?_
 refine ax ?_
 repeat ((conv => whnf); refine frB ?_)
 rfl
theorem Tv (a p q : List UInt8) (wide : Bool) (g1 g2 g3 g4 : Nat) (T : List (Nat × AV)) (H : aq) (c : Nat) (rp rq : List UInt8) (lp lq : List Pfx) (h1 : ah G 210 [.ref 0 0 0] [.cells [.sl 1 (byteCells p), .con (.slice none 0 0)]] ⟨.bool true, [(true, .cells [.sl 1 (byteCells rp), .vs 1 0 lp.length]), (false, .vec 2 (lp.map Pfx.enc))]⟩) (h2 : ah G 210 [.ref 0 0 0] [.cells [.sl 1 (byteCells q), .con (.slice none 0 0)]] ⟨.bool false, [(true, .cells [.sl 1 (byteCells rq), .vs 1 0 lq.length]), (false, .vec 2 (lq.map Pfx.enc))]⟩) : Ev G ⟨[.code (suf 9 dh.body)], ⟨(9, .ref 97 g1 0) :: (11, .ref 113 g2 0) :: (10, .sl 1 (byteCells a)) :: (1, .bool wide) :: (4, .ref 68 g3 0) :: (5, .ref 69 g4 0) :: T, (97, some (g1, .cells [.sl 1 (byteCells p), .con (.slice none 0 0)])) :: (113, some (g2, .cells [.sl 1 (byteCells q), .con (.slice none 0 0)])) :: (68, some (g3, .cells ap.enc)) :: (69, some (g4, .cells ap.enc)) :: H, c⟩, [.cell 4 (some 27), .cell 5 (some 27), .t 6], 0⟩ ⟨.tup [.agg ap.enc, .agg (bc 3 10 []).enc, .int .i64 2], []⟩ := by
 have h6 : ah G 198 [.int .i64 3, .int .i64 10, .con (.slice none 0 0)] [] ⟨.agg (bc 3 10 []).enc, []⟩ := bP 3 10
 refine wk3 ?_
 repeat' (first | refine ab ?_ | refine kX [(97, _, _)] [] ⟨rfl, trivial⟩ trivial (h1) ?_ | refine kX [(113, _, _)] [] ⟨rfl, trivial⟩ trivial (h2) ?_ | (refine aa ?_ ?_ <;> intro h))
 refine bm [] [(68, some (_, .cells ap.enc))] trivial ⟨⟨rfl, leA⟩, trivial⟩ ?_
 refine ax ?_
 repeat ((conv => whnf); refine frB ?_)
 rfl
theorem ZC (a p q : List UInt8) (wide : Bool) (g1 g2 g3 g4 : Nat) (T : List (Nat × AV)) (H : aq) (c : Nat) (rp rq : List UInt8) (lp lq : List Pfx) (h1 : ah G 210 [.ref 0 0 0] [.cells [.sl 1 (byteCells p), .con (.slice none 0 0)]] ⟨.bool true, [(true, .cells [.sl 1 (byteCells rp), .vs 1 0 lp.length]), (false, .vec 2 (lp.map Pfx.enc))]⟩) (h2 : ah G 210 [.ref 0 0 0] [.cells [.sl 1 (byteCells q), .con (.slice none 0 0)]] ⟨.bool true, [(true, .cells [.sl 1 (byteCells rq), .vs 1 0 lq.length]), (false, .vec 2 (lq.map Pfx.enc))]⟩) (t : Ret)
  (K : ∀ (g1 g3 g4 : Nat) (T : List (Nat × AV)) (H : aq) (c : Nat), Ev G ⟨[.code (suf 11 dh.body)], ⟨(12, .ref 76 g1 0) :: (10, .sl 1 (byteCells a)) :: (1, .bool wide) :: (4, .ref 68 g3 0) :: (5, .ref 69 g4 0) :: T, (76, some (g1, .cells (bb lp lq zeroA).enc)) :: (68, some (g3, .cells ap.enc)) :: (69, some (g4, .cells ap.enc)) :: H, c⟩, [.cell 4 (some 27), .cell 5 (some 27), .t 6], 0⟩ t) : Ev G ⟨[.code (suf 9 dh.body)], ⟨(9, .ref 97 g1 0) :: (11, .ref 113 g2 0) :: (10, .sl 1 (byteCells a)) :: (1, .bool wide) :: (4, .ref 68 g3 0) :: (5, .ref 69 g4 0) :: T, (97, some (g1, .cells [.sl 1 (byteCells p), .con (.slice none 0 0)])) :: (113, some (g2, .cells [.sl 1 (byteCells q), .con (.slice none 0 0)])) :: (68, some (g3, .cells ap.enc)) :: (69, some (g4, .cells ap.enc)) :: H, c⟩, [.cell 4 (some 27), .cell 5 (some 27), .t 6], 0⟩ t := by
 refine aG (b := suf 10 dh.body) ?_
 refine wd1 ?_
 repeat' (first | refine ab ?_ | refine kX [(97, _, _)] [] ⟨rfl, trivial⟩ trivial (h1) ?_ | refine kX [(113, _, _)] [] ⟨rfl, trivial⟩ trivial (h2) ?_ | (refine aa ?_ ?_ <;> intro h))
 refine d8 [(115, _, _), (119, _, _)] [9, 11, 10, 1, 4, 5] [97, 113, 68, 69] ⟨rfl, frP, rfl, frP, trivial⟩ ?_; repeat ((conv => whnf); first | refine frA ?_ | intro T H)
 refine aG (b := suf 11 dh.body) ?_
 refine wd1 ?_
 repeat' (first | refine ab ?_ | (refine aa ?_ ?_ <;> intro h))
 refine bm [] [(76, some (_, .cells (bb lp lq zeroA).enc))] trivial ⟨⟨rfl, leA⟩, trivial⟩ ?_
 refine ag [12, 10, 1, 4, 5] [76, 68, 69] ?_
 exact K _ _ _ _ _ _
theorem rZ (a : List UInt8) (wide : Bool) (m : PMsg) (g1 g3 g4 : Nat) (T : List (Nat × AV)) (H : aq) (c : Nat) (hc : ah G 144 [.agg m.enc] [] ⟨.int .i64 (bh m), []⟩) : Ev G ⟨[.code (suf 13 dh.body)], ⟨(12, .ref 76 g1 0) :: (10, .sl 1 (byteCells a)) :: (1, .bool wide) :: (4, .ref 68 g3 0) :: (5, .ref 69 g4 0) :: T, (76, some (g1, .cells m.enc)) :: (68, some (g3, .cells ap.enc)) :: (69, some (g4, .cells ap.enc)) :: H, c⟩, [.cell 4 (some 27), .cell 5 (some 27), .t 6], 0⟩ (nu (qg m)) := by
 unfold qg
 generalize bh m = e at *
 by_cases h0 : e = 0
 ·rw [if_pos h0]
  refine wk3 ?_
  repeat' (first | refine ab ?_ | (refine aa ?_ ?_ <;> intro h))
  refine bm [] [(69, some (_, .cells ap.enc))] trivial ⟨⟨rfl, leA⟩, trivial⟩ ?_
  refine ax ?_
  repeat ((conv => whnf); refine frB ?_)
  rfl
 ·rw [if_neg h0]
  have h6 : ah G 198 [.int .i64 3, .int .i64 10, .con (.slice none 0 0)] [] ⟨.agg (bc 3 10 []).enc, []⟩ := bP 3 10
  refine wk3 ?_
  repeat' (first | refine ab ?_ | (refine aa ?_ ?_ <;> intro h))
  refine bm [] [(68, some (_, .cells ap.enc))] trivial ⟨⟨rfl, leA⟩, trivial⟩ ?_
  refine ax ?_
  repeat ((conv => whnf); refine frB ?_)
  rfl
theorem TF (w : List Pfx) (wide : Bool) (g1 g3 g4 : Nat) (T : List (Nat × AV)) (H : aq) (c : Nat) (hc : ah G 144 [.agg (bb w [] zeroA).enc] [] ⟨.int .i64 (bh (bb w [] zeroA)), []⟩) : Ev G ⟨[.code (suf 11 dh.body)], ⟨(12, .ref 76 g1 0) :: (10, .sl 1 (byteCells [])) :: (1, .bool wide) :: (4, .ref 68 g3 0) :: (5, .ref 69 g4 0) :: T, (76, some (g1, .cells (bb w [] zeroA).enc)) :: (68, some (g3, .cells ap.enc)) :: (69, some (g4, .cells ap.enc)) :: H, c⟩, [.cell 4 (some 27), .cell 5 (some 27), .t 6], 0⟩ (nu (qg (bb w [] zeroA))) := by
 refine aG (b := suf 12 dh.body) ?_
 refine wd1 ?_
 repeat' (first | refine ab ?_ | (refine aa ?_ ?_ <;> intro h))
 refine aG (b := suf 13 dh.body) ?_
 refine wd1 ?_
 repeat' (first | refine ab ?_ | (refine aa ?_ ?_ <;> intro h))
 refine ag [12, 10, 1, 4, 5] [76, 68, 69] ?_
 exact rZ [] wide _ _ _ _ _ _ _ hc
theorem TD (a : List UInt8) (w x : List Pfx) (ha : a.length < 2 ^ 40) (hx : x.length < 2 ^ 40) (hne : 0 < a.length ∨ 0 < x.length) (wide : Bool) (e : Int) (y : Attrs) (hd : ah G 69 [.sl 1 (byteCells a), .bool wide] [] ⟨.tup [.agg y.enc, .int .i64 e], []⟩) (g1 g3 g4 : Nat) (T : List (Nat × AV)) (H : aq) (c : Nat) (he : e = 6) : Ev G ⟨[.code (suf 11 dh.body)], ⟨(12, .ref 76 g1 0) :: (10, .sl 1 (byteCells a)) :: (1, .bool wide) :: (4, .ref 68 g3 0) :: (5, .ref 69 g4 0) :: T, (76, some (g1, .cells (bb w x zeroA).enc)) :: (68, some (g3, .cells ap.enc)) :: (69, some (g4, .cells ap.enc)) :: H, c⟩, [.cell 4 (some 27), .cell 5 (some 27), .t 6], 0⟩ ⟨.tup [.agg ap.enc, .agg (bc 3 3 []).enc, .int .i64 6], []⟩ := by
 subst he
 have h6 : ah G 198 [.int .i64 3, .int .i64 3, .con (.slice none 0 0)] [] ⟨.agg (bc 3 3 []).enc, []⟩ := bP 3 3
 have hal := au a
 have hxl : (x.map Pfx.enc).length = x.length := by simp
 have hxl0 : (List.map Pfx.enc (bb w x zeroA).reach).length = x.length := by simp [bb]
 have hxl1 : (List.map Pfx.enc (bb w x y).reach).length = x.length := by simp [bb]
 by_cases hp : 0 < a.length
 ·refine wk3 ?_
  repeat' (first | refine ab ?_ | (refine aa ?_ ?_ <;> intro h))
  refine bm [] [(68, some (_, .cells ap.enc))] trivial ⟨⟨rfl, leA⟩, trivial⟩ ?_
  refine ax ?_
  repeat ((conv => whnf); refine frB ?_)
  rfl
 ·have h0 : 0 < x.length := by omega
  refine wk3 ?_
  repeat' (first | refine ab ?_ | (refine aa ?_ ?_ <;> intro h))
  refine bm [] [(68, some (_, .cells ap.enc))] trivial ⟨⟨rfl, leA⟩, trivial⟩ ?_
  refine ax ?_
  repeat ((conv => whnf); refine frB ?_)
  rfl
theorem TE (a : List UInt8) (w x : List Pfx) (ha : a.length < 2 ^ 40) (hx : x.length < 2 ^ 40) (hne : 0 < a.length ∨ 0 < x.length) (wide : Bool) (e : Int) (y : Attrs) (hd : ah G 69 [.sl 1 (byteCells a), .bool wide] [] ⟨.tup [.agg y.enc, .int .i64 e], []⟩) (g1 g3 g4 : Nat) (T : List (Nat × AV)) (H : aq) (c : Nat) (he : ¬ e = 6) (he0 : ¬ e = 0) : Ev G ⟨[.code (suf 11 dh.body)], ⟨(12, .ref 76 g1 0) :: (10, .sl 1 (byteCells a)) :: (1, .bool wide) :: (4, .ref 68 g3 0) :: (5, .ref 69 g4 0) :: T, (76, some (g1, .cells (bb w x zeroA).enc)) :: (68, some (g3, .cells ap.enc)) :: (69, some (g4, .cells ap.enc)) :: H, c⟩, [.cell 4 (some 27), .cell 5 (some 27), .t 6], 0⟩ ⟨.tup [.agg ap.enc, .agg (bc 3 1 []).enc, .int .i64 e], []⟩ := by
 have h6 : ah G 198 [.int .i64 3, .int .i64 1, .con (.slice none 0 0)] [] ⟨.agg (bc 3 1 []).enc, []⟩ := bP 3 1
 have hal := au a
 have hxl : (x.map Pfx.enc).length = x.length := by simp
 have hxl0 : (List.map Pfx.enc (bb w x zeroA).reach).length = x.length := by simp [bb]
 have hxl1 : (List.map Pfx.enc (bb w x y).reach).length = x.length := by simp [bb]
 by_cases hp : 0 < a.length
 ·refine wk3 ?_
  repeat' (first | refine ab ?_ | (refine aa ?_ ?_ <;> intro h))
  refine bm [] [(68, some (_, .cells ap.enc))] trivial ⟨⟨rfl, leA⟩, trivial⟩ ?_
  refine ax ?_
  repeat ((conv => whnf); refine frB ?_)
  rfl
 ·have h0 : 0 < x.length := by omega
  refine wk3 ?_
  repeat' (first | refine ab ?_ | (refine aa ?_ ?_ <;> intro h))
  refine bm [] [(68, some (_, .cells ap.enc))] trivial ⟨⟨rfl, leA⟩, trivial⟩ ?_
  refine ax ?_
  repeat ((conv => whnf); refine frB ?_)
  rfl
theorem TC (a : List UInt8) (w x : List Pfx) (ha : a.length < 2 ^ 40) (hx : x.length < 2 ^ 40) (hne : 0 < a.length ∨ 0 < x.length) (wide : Bool) (e : Int) (y : Attrs) (hd : ah G 69 [.sl 1 (byteCells a), .bool wide] [] ⟨.tup [.agg y.enc, .int .i64 e], []⟩) (g1 g3 g4 : Nat) (T : List (Nat × AV)) (H : aq) (c : Nat) (he : e = 0) (t : Ret) (K : ∀ (g1 g3 g4 : Nat) (T : List (Nat × AV)) (H : aq) (c : Nat), Ev G ⟨[.code (suf 12 dh.body)], ⟨(12, .ref 76 g1 0) :: (10, .sl 1 (byteCells a)) :: (1, .bool wide) :: (4, .ref 68 g3 0) :: (5, .ref 69 g4 0) :: T, (76, some (g1, .cells (bb w x y).enc)) :: (68, some (g3, .cells ap.enc)) :: (69, some (g4, .cells ap.enc)) :: H, c⟩, [.cell 4 (some 27), .cell 5 (some 27), .t 6], 0⟩ t) : Ev G ⟨[.code (suf 11 dh.body)], ⟨(12, .ref 76 g1 0) :: (10, .sl 1 (byteCells a)) :: (1, .bool wide) :: (4, .ref 68 g3 0) :: (5, .ref 69 g4 0) :: T, (76, some (g1, .cells (bb w x zeroA).enc)) :: (68, some (g3, .cells ap.enc)) :: (69, some (g4, .cells ap.enc)) :: H, c⟩, [.cell 4 (some 27), .cell 5 (some 27), .t 6], 0⟩ t := by
 subst he
 have hal := au a
 have hxl : (x.map Pfx.enc).length = x.length := by simp
 have hxl0 : (List.map Pfx.enc (bb w x zeroA).reach).length = x.length := by simp [bb]
 have hxl1 : (List.map Pfx.enc (bb w x y).reach).length = x.length := by simp [bb]
 by_cases hp : 0 < a.length
 ·refine aG (b := suf 12 dh.body) ?_
  refine wd1 ?_
  repeat' (first | refine ab ?_ | (refine aa ?_ ?_ <;> intro h))
  refine ag [12, 10, 1, 4, 5] [76, 68, 69] ?_
  exact K _ _ _ _ _ _
 ·have h0 : 0 < x.length := by omega
  refine aG (b := suf 12 dh.body) ?_
  refine wd1 ?_
  repeat' (first | refine ab ?_ | (refine aa ?_ ?_ <;> intro h))
  refine ag [12, 10, 1, 4, 5] [76, 68, 69] ?_
  exact K _ _ _ _ _ _
theorem TA (a : List UInt8) (ha : a.length < 2 ^ 40) (hp : 0 < a.length) (wide : Bool) (w : List Pfx) (y : Attrs) (g1 g3 g4 : Nat) (T : List (Nat × AV)) (H : aq) (c : Nat) : Ev G ⟨[.code (suf 12 dh.body)], ⟨(12, .ref 76 g1 0) :: (10, .sl 1 (byteCells a)) :: (1, .bool wide) :: (4, .ref 68 g3 0) :: (5, .ref 69 g4 0) :: T, (76, some (g1, .cells (bb w [] y).enc)) :: (68, some (g3, .cells ap.enc)) :: (69, some (g4, .cells ap.enc)) :: H, c⟩, [.cell 4 (some 27), .cell 5 (some 27), .t 6], 0⟩ ⟨.tup [.agg ap.enc, .agg (bc 3 1 []).enc, .int .i64 2], []⟩ := by
 have h6 : ah G 198 [.int .i64 3, .int .i64 1, .con (.slice none 0 0)] [] ⟨.agg (bc 3 1 []).enc, []⟩ := bP 3 1
 have hal := au a
 refine wk3 ?_
 repeat' (first | refine ab ?_ | (refine aa ?_ ?_ <;> intro h))
 refine bm [] [(68, some (_, .cells ap.enc))] trivial ⟨⟨rfl, leA⟩, trivial⟩ ?_
 refine ax ?_
 repeat ((conv => whnf); refine frB ?_)
 rfl
theorem Tz (a : List UInt8) (ha : a.length < 2 ^ 40) (wide : Bool) (w x : List Pfx) (hx : x.length < 2 ^ 40) (hp : 0 < x.length) (y : Attrs) (hc : ah G 144 [.agg (bb w x y).enc] [] ⟨.int .i64 (bh (bb w x y)), []⟩) (g1 g3 g4 : Nat) (T : List (Nat × AV)) (H : aq) (c : Nat) : Ev G ⟨[.code (suf 12 dh.body)], ⟨(12, .ref 76 g1 0) :: (10, .sl 1 (byteCells a)) :: (1, .bool wide) :: (4, .ref 68 g3 0) :: (5, .ref 69 g4 0) :: T, (76, some (g1, .cells (bb w x y).enc)) :: (68, some (g3, .cells ap.enc)) :: (69, some (g4, .cells ap.enc)) :: H, c⟩, [.cell 4 (some 27), .cell 5 (some 27), .t 6], 0⟩ (nu (qg (bb w x y))) := by
 have hal := au a
 have hxl : (x.map Pfx.enc).length = x.length := by simp
 have hxl0 : (List.map Pfx.enc (bb w x zeroA).reach).length = x.length := by simp [bb]
 have hxl1 : (List.map Pfx.enc (bb w x y).reach).length = x.length := by simp [bb]
 by_cases h0 : 0 < a.length
 ·refine aG (b := suf 13 dh.body) ?_
  refine wd1 ?_
  repeat' (first | refine ab ?_ | (refine aa ?_ ?_ <;> intro h))
  refine ag [12, 10, 1, 4, 5] [76, 68, 69] ?_
  exact rZ a wide _ _ _ _ _ _ _ hc
 ·refine aG (b := suf 13 dh.body) ?_
  refine wd1 ?_
  repeat' (first | refine ab ?_ | (refine aa ?_ ?_ <;> intro h))
  refine ag [12, 10, 1, 4, 5] [76, 68, 69] ?_
  exact rZ a wide _ _ _ _ _ _ _ hc
end Go.AM.IR
namespace Go.AM.IR
theorem pm (b : List UInt8) (wide : Bool) (t : Ret) (l0 : List UInt8) (hl0 : l0.length < 2 ^ 40) (g1 g2 : Nat) : ∀ (l d : List UInt8) (T : List (Nat × AV)) (H : aq) (c : Nat) (n : Int), d ++ l = l0 → n = d.length →
  (l.any (fun c => c != 255) = false → ∀ (T : List (Nat × AV)) (H : aq) (c : Nat), Ev G ⟨[.code (suf 3 cz.body)], ⟨(0, .sl 1 (byteCells b)) :: (1, .bool wide) :: (4, .ref 68 g1 0) :: (6, .ref 70 g2 0) :: (7, .int .i64 0) :: T, (68, some (g1, .cells ap.enc)) :: (70, some (g2, .cells ap.enc)) :: H, c⟩, [.cell 4 (some 27), .t 5, .cell 6 (some 27), .t 7], 0⟩ t) → (l.any (fun c => c != 255) = true → kd (ap, 0, bc 1 1 [], 2) = t) →
  Ev G ⟨QQ, ⟨(23, .int .i64 n) :: (22, .int .i64 l0.length) :: (21, .sl 1 (byteCells l0)) :: (0, .sl 1 (byteCells b)) :: (1, .bool wide) :: (4, .ref 68 g1 0) :: (6, .ref 70 g2 0) :: (7, .int .i64 0) :: T, (68, some (g1, .cells ap.enc)) :: (70, some (g2, .cells ap.enc)) :: H, c⟩, [.cell 4 (some 27), .t 5, .cell 6 (some 27), .t 7], 0⟩ t
 | [], d, T, H, c, n, e, hn, K, B => by
  have hd : l0.length = d.length := by rw [← e]; simp
  have hle : ¬ (n < (l0.length : Int)) := by omega
  refine dG (cP 1 300 _ _ _ _ ?_)
  repeat' (first | refine ab ?_ | (refine aa ?_ ?_ <;> intro h))
  refine ag [0, 1, 4, 6, 7] [68, 70] ?_
  exact K rfl _ _ _
 | x :: r, d, T, H, c, n, e, hn, K, B => by
  have hd : l0.length = d.length + (r.length + 1) := by rw [← e]; simp
  have hlt : n < (l0.length : Int) := by omega
  have hx : (byteCells l0)[n.toNat]? = some [.int .u8 x.toNat] := by
   rw [← e, show n.toNat = d.length from by omega]
   simp [byteCells]
  have hx8 := x.toNat_lt
  by_cases h : x = 255
  ·subst h
   have hx' : (byteCells l0)[n.toNat]? = some [.int .u8 255] := hx
   clear hx
   refine dG (cP 1 300 _ _ _ _ ?_)
   repeat' (first | refine ab ?_ | (refine aa ?_ ?_ <;> intro h))
   refine ag [23, 22, 21, 0, 1, 4, 6, 7] [68, 70] ?_
   exact pm b wide t l0 hl0 g1 g2 r (d ++ [255]) _ _ _ (n + 1) (by rw [← e]; simp) (by rw [List.length_append]; simp only [List.length_cons, List.length_nil]; omega) (fun q => K (by simpa using q)) (fun q => B (by simpa using q))
  ·have hne : ¬ ((x.toNat : Int) = 255) := fun q => h (UInt8.toNat_inj.1 (by simp; omega))
   rw [← B (by simp [h])]
   have h6 : ah G 198 [.int .i64 1, .int .i64 1, .con (.slice none 0 0)] [] ⟨.agg (bc 1 1 []).enc, []⟩ := bP 1 1
   refine dG (cP 1 300 _ _ _ _ ?_)
   repeat' (first | refine ab ?_ | (refine aa ?_ ?_ <;> intro h))
   refine bm [] [(68, some (_, .cells ap.enc))] trivial ⟨⟨rfl, leA⟩, trivial⟩ ?_
   refine ax ?_
   repeat ((conv => whnf); refine frB ?_)
   rfl
theorem Sw (b : List UInt8) (hb : b.length < 2 ^ 40) (wide : Bool) (h : b.length < 19) : ah G 194 [.sl 1 (byteCells b), .bool wide] [] (kd (ap, 0, ap, 3)) := by
 have hbl := au b
 refine ae (F := cz) rfl rfl (az 300 _ _ _ _ ?_)
 repeat' (first | refine ab ?_ | (refine aa ?_ ?_ <;> intro h))
 refine bm [] [(68, some (_, .cells ap.enc)), (70, some (_, .cells ap.enc))] trivial ⟨⟨rfl, leA⟩, ⟨rfl, .refl _, .refl _, .refl _, .refl _, .refl _, LeP.nil 2, LeP.nil 2, .refl _, LeP.nil 2, .refl _, .refl _, .refl _, .refl _, .refl _, .refl _, .refl _, .refl _, .refl _, LeP.nil 1, .refl _, .refl _, LeP.nil 1, LeP.nil 2, LeP.nil 2, .refl _, .refl _, LeP.nil 1, trivial⟩, trivial⟩ ?_
 refine ax ?_
 repeat ((conv => whnf); refine frB ?_)
 rfl
theorem Sv (b : List UInt8) (hb : b.length < 2 ^ 40) (wide : Bool) (h : 19 ≤ b.length) (t : Ret)
  (K : (b.take 16).any (fun c => c != 255) = false → ∀ (g1 g2 : Nat) (T : List (Nat × AV)) (H : aq) (c : Nat), Ev G ⟨[.code (suf 3 cz.body)], ⟨(0, .sl 1 (byteCells b)) :: (1, .bool wide) :: (4, .ref 68 g1 0) :: (6, .ref 70 g2 0) :: (7, .int .i64 0) :: T, (68, some (g1, .cells ap.enc)) :: (70, some (g2, .cells ap.enc)) :: H, c⟩, [.cell 4 (some 27), .t 5, .cell 6 (some 27), .t 7], 0⟩ t) (B : (b.take 16).any (fun c => c != 255) = true → kd (ap, 0, bc 1 1 [], 2) = t) : ah G 194 [.sl 1 (byteCells b), .bool wide] [] t := by
 have hbl := au b
 have hcut : List.take (Int.toNat 16 - 0) (List.drop 0 (byteCells b)) = byteCells (b.take 16) := by simp [byteCells]
 have hln : (List.take (Int.toNat 16 - 0) (List.drop 0 (byteCells b))).length = (b.take 16).length := by rw [hcut, au]
 have hl16 : (b.take 16).length = 16 := by rw [List.length_take]; omega
 refine ae (F := cz) rfl rfl (az 300 _ _ _ _ ?_)
 repeat' (first | refine ab ?_ | (refine aa ?_ ?_ <;> intro h))
 refine bm [] [(68, some (_, .cells ap.enc)), (70, some (_, .cells ap.enc))] trivial ⟨⟨rfl, leA⟩, ⟨rfl, .refl _, .refl _, .refl _, .refl _, .refl _, LeP.nil 2, LeP.nil 2, .refl _, LeP.nil 2, .refl _, .refl _, .refl _, .refl _, .refl _, .refl _, .refl _, .refl _, .refl _, LeP.nil 1, .refl _, .refl _, LeP.nil 1, LeP.nil 2, LeP.nil 2, .refl _, .refl _, LeP.nil 1, trivial⟩, trivial⟩ ?_
 refine ag [23, 22, 21, 0, 1, 4, 6, 7] [68, 70] ?_
 rw [hln, hcut]
 exact pm b wide t (b.take 16) (by omega) _ _ (b.take 16) [] _ _ _ 0 rfl rfl (fun q => K q _ _) B
theorem Ol (b : List UInt8) (hb : b.length < 2 ^ 40) (wide : Bool) (h19 : 19 ≤ b.length) (x y k : UInt8) (hx : (byteCells b)[16]? = some [.int .u8 x.toNat]) (hy : (byteCells b)[17]? = some [.int .u8 y.toNat]) (hk : (byteCells b)[18]? = some [.int .u8 k.toNat]) (n : Nat) (hn : n = rd ((b.drop 16).take 2)) (q : n < 19) (g1 g2 : Nat) (T : List (Nat × AV)) (H : aq) (c : Nat) : Ev G ⟨[.code (suf 3 cz.body)], ⟨(0, .sl 1 (byteCells b)) :: (1, .bool wide) :: (4, .ref 68 g1 0) :: (6, .ref 70 g2 0) :: (7, .int .i64 0) :: T, (68, some (g1, .cells ap.enc)) :: (70, some (g2, .cells ap.enc)) :: H, c⟩, [.cell 4 (some 27), .t 5, .cell 6 (some 27), .t 7], 0⟩ (kd (ap, 0, bc 1 2 [x, y], 2)) := by
 have hbl := au b
 have hx8 := x.toNat_lt
 have hy8 := y.toNat_lt
 have hk8 := k.toNat_lt
 have hr : n < 256 ^ 2 := by rw [hn]; exact cn (by simp; omega)
 have hg : ah G 110 [.sl 1 (byteCells b), .int .i64 16, .int .i64 2] [] ⟨.tup [.int .u64 (n : Nat), .bool true], []⟩ := by
  rw [hn]; exact fQ b hb 16 2 (by omega) (by omega) (by omega) (by omega)
 have hN : ah G 198 [.int .i64 1, .int .i64 2, .sl 1 [[.int .u8 x.toNat], [.int .u8 y.toNat]]] [] ⟨.agg (bc 1 2 [x, y]).enc, []⟩ := il 1 2 [x, y]
 clear hn
 refine wk3 ?_
 repeat' (first | refine ab ?_ | refine kX [] [(113, _, _)] trivial ⟨rfl, pz trivial⟩ (hN) ?_ | (refine aa ?_ ?_ <;> intro h))
 refine bm [] [(68, some (_, .cells ap.enc))] trivial ⟨⟨rfl, leA⟩, trivial⟩ ?_
 refine ax ?_
 repeat ((conv => whnf); refine frB ?_)
 rfl
theorem Oh (b : List UInt8) (hb : b.length < 2 ^ 40) (wide : Bool) (h19 : 19 ≤ b.length) (x y k : UInt8) (hx : (byteCells b)[16]? = some [.int .u8 x.toNat]) (hy : (byteCells b)[17]? = some [.int .u8 y.toNat]) (hk : (byteCells b)[18]? = some [.int .u8 k.toNat]) (n : Nat) (hn : n = rd ((b.drop 16).take 2)) (q : ¬ n < 19) (qk : k.toNat < 1 ∨ k.toNat > 5) (g1 g2 : Nat) (T : List (Nat × AV)) (H : aq) (c : Nat) : Ev G ⟨[.code (suf 3 cz.body)], ⟨(0, .sl 1 (byteCells b)) :: (1, .bool wide) :: (4, .ref 68 g1 0) :: (6, .ref 70 g2 0) :: (7, .int .i64 0) :: T, (68, some (g1, .cells ap.enc)) :: (70, some (g2, .cells ap.enc)) :: H, c⟩, [.cell 4 (some 27), .t 5, .cell 6 (some 27), .t 7], 0⟩ (kd (ap, 0, bc 1 3 [k], 15)) := by
 have hbl := au b
 have hx8 := x.toNat_lt
 have hy8 := y.toNat_lt
 have hk8 := k.toNat_lt
 have hr : n < 256 ^ 2 := by rw [hn]; exact cn (by simp; omega)
 have hg : ah G 110 [.sl 1 (byteCells b), .int .i64 16, .int .i64 2] [] ⟨.tup [.int .u64 (n : Nat), .bool true], []⟩ := by
  rw [hn]; exact fQ b hb 16 2 (by omega) (by omega) (by omega) (by omega)
 have hN : ah G 198 [.int .i64 1, .int .i64 2, .sl 1 [[.int .u8 x.toNat], [.int .u8 y.toNat]]] [] ⟨.agg (bc 1 2 [x, y]).enc, []⟩ := il 1 2 [x, y]
 have hM : ah G 198 [.int .i64 1, .int .i64 3, .sl 1 [[.int .u8 k.toNat]]] [] ⟨.agg (bc 1 3 [k]).enc, []⟩ := il 1 3 [k]
 clear hn
 by_cases k1 : k.toNat < 1
 ·refine wk3 ?_
  repeat' (first | refine ab ?_ | refine kX [] [(113, _, _)] trivial ⟨rfl, pz trivial⟩ (hN) ?_ | refine kX [] [(131, _, _)] trivial ⟨rfl, pz trivial⟩ (hM) ?_ | (refine aa ?_ ?_ <;> intro h))
  refine bm [] [(68, some (_, .cells ap.enc))] trivial ⟨⟨rfl, leA⟩, trivial⟩ ?_
  refine ax ?_
  repeat ((conv => whnf); refine frB ?_)
  rfl
 ·have k5 : k.toNat > 5 := by omega
  refine wk3 ?_
  repeat' (first | refine ab ?_ | refine kX [] [(113, _, _)] trivial ⟨rfl, pz trivial⟩ (hN) ?_ | refine kX [] [(131, _, _)] trivial ⟨rfl, pz trivial⟩ (hM) ?_ | (refine aa ?_ ?_ <;> intro h))
  refine bm [] [(68, some (_, .cells ap.enc))] trivial ⟨⟨rfl, leA⟩, trivial⟩ ?_
  refine ax ?_
  repeat ((conv => whnf); refine frB ?_)
  rfl
theorem Og (b : List UInt8) (hb : b.length < 2 ^ 40) (wide : Bool) (h19 : 19 ≤ b.length) (x y k : UInt8) (hx : (byteCells b)[16]? = some [.int .u8 x.toNat]) (hy : (byteCells b)[17]? = some [.int .u8 y.toNat]) (hk : (byteCells b)[18]? = some [.int .u8 k.toNat]) (n : Nat) (hn : n = rd ((b.drop 16).take 2)) (q : ¬ n < 19) (k1 : ¬ k.toNat < 1) (k5 : ¬ k.toNat > 5) (qb : ef (k.toNat : Nat) (n : Nat) = true) (g1 g2 : Nat) (T : List (Nat × AV)) (H : aq) (c : Nat) : Ev G ⟨[.code (suf 3 cz.body)], ⟨(0, .sl 1 (byteCells b)) :: (1, .bool wide) :: (4, .ref 68 g1 0) :: (6, .ref 70 g2 0) :: (7, .int .i64 0) :: T, (68, some (g1, .cells ap.enc)) :: (70, some (g2, .cells ap.enc)) :: H, c⟩, [.cell 4 (some 27), .t 5, .cell 6 (some 27), .t 7], 0⟩ (kd (ap, 0, bc 1 2 [x, y], 2)) := by
 have hbl := au b
 have hx8 := x.toNat_lt
 have hy8 := y.toNat_lt
 have hk8 := k.toNat_lt
 have hr : n < 256 ^ 2 := by rw [hn]; exact cn (by simp; omega)
 have hg : ah G 110 [.sl 1 (byteCells b), .int .i64 16, .int .i64 2] [] ⟨.tup [.int .u64 (n : Nat), .bool true], []⟩ := by
  rw [hn]; exact fQ b hb 16 2 (by omega) (by omega) (by omega) (by omega)
 have hN : ah G 198 [.int .i64 1, .int .i64 2, .sl 1 [[.int .u8 x.toNat], [.int .u8 y.toNat]]] [] ⟨.agg (bc 1 2 [x, y]).enc, []⟩ := il 1 2 [x, y]
 have hB := mi (k.toNat : Nat) (n : Nat) (by omega)
 rw [qb] at hB
 clear hn
 refine wk3 ?_
 repeat' (first | refine ab ?_ | refine kX [] [(113, _, _)] trivial ⟨rfl, pz trivial⟩ (hN) ?_ | (refine aa ?_ ?_ <;> intro h))
 refine bm [] [(68, some (_, .cells ap.enc))] trivial ⟨⟨rfl, leA⟩, trivial⟩ ?_
 refine ax ?_
 repeat ((conv => whnf); refine frB ?_)
 rfl
theorem Od (b : List UInt8) (hb : b.length < 2 ^ 40) (wide : Bool) (h19 : 19 ≤ b.length) (x y k : UInt8) (hx : (byteCells b)[16]? = some [.int .u8 x.toNat]) (hy : (byteCells b)[17]? = some [.int .u8 y.toNat]) (hk : (byteCells b)[18]? = some [.int .u8 k.toNat]) (n : Nat) (hn : n = rd ((b.drop 16).take 2)) (q : ¬ n < 19) (k1 : ¬ k.toNat < 1) (k5 : ¬ k.toNat > 5) (qb : ef (k.toNat : Nat) (n : Nat) = false) (ql : b.length < n) (g1 g2 : Nat) (T : List (Nat × AV)) (H : aq) (c : Nat) : Ev G ⟨[.code (suf 3 cz.body)], ⟨(0, .sl 1 (byteCells b)) :: (1, .bool wide) :: (4, .ref 68 g1 0) :: (6, .ref 70 g2 0) :: (7, .int .i64 0) :: T, (68, some (g1, .cells ap.enc)) :: (70, some (g2, .cells ap.enc)) :: H, c⟩, [.cell 4 (some 27), .t 5, .cell 6 (some 27), .t 7], 0⟩ (kd (ap, 0, ap, 3)) := by
 have hbl := au b
 have hx8 := x.toNat_lt
 have hy8 := y.toNat_lt
 have hk8 := k.toNat_lt
 have hr : n < 256 ^ 2 := by rw [hn]; exact cn (by simp; omega)
 have hg : ah G 110 [.sl 1 (byteCells b), .int .i64 16, .int .i64 2] [] ⟨.tup [.int .u64 (n : Nat), .bool true], []⟩ := by
  rw [hn]; exact fQ b hb 16 2 (by omega) (by omega) (by omega) (by omega)
 have hN : ah G 198 [.int .i64 1, .int .i64 2, .sl 1 [[.int .u8 x.toNat], [.int .u8 y.toNat]]] [] ⟨.agg (bc 1 2 [x, y]).enc, []⟩ := il 1 2 [x, y]
 have hB := mi (k.toNat : Nat) (n : Nat) (by omega)
 rw [qb] at hB
 clear hn
 refine wk3 ?_
 repeat' (first | refine ab ?_ | refine kX [] [(113, _, _)] trivial ⟨rfl, pz trivial⟩ (hN) ?_ | (refine aa ?_ ?_ <;> intro h))
 refine bm [] [(68, some (_, .cells ap.enc)), (70, some (_, .cells ap.enc))] trivial ⟨⟨rfl, leA⟩, ⟨rfl, .refl _, .refl _, .refl _, .refl _, .refl _, LeP.nil 2, LeP.nil 2, .refl _, LeP.nil 2, .refl _, .refl _, .refl _, .refl _, .refl _, .refl _, .refl _, .refl _, .refl _, LeP.nil 1, .refl _, .refl _, LeP.nil 1, LeP.nil 2, LeP.nil 2, .refl _, .refl _, LeP.nil 1, trivial⟩, trivial⟩ ?_
 refine ax ?_
 repeat ((conv => whnf); refine frB ?_)
 rfl
theorem Oc (b : List UInt8) (hb : b.length < 2 ^ 40) (wide : Bool) (h19 : 19 ≤ b.length) (x y k : UInt8) (hx : (byteCells b)[16]? = some [.int .u8 x.toNat]) (hy : (byteCells b)[17]? = some [.int .u8 y.toNat]) (hk : (byteCells b)[18]? = some [.int .u8 k.toNat]) (n : Nat) (hn : n = rd ((b.drop 16).take 2)) (q : ¬ n < 19) (k1 : ¬ k.toNat < 1) (k5 : ¬ k.toNat > 5) (qb : ef (k.toNat : Nat) (n : Nat) = false) (ql : ¬ b.length < n) (d : List UInt8) (hd : d = (b.take n).drop 19) (t : Ret) (K : ∀ (g1 g2 g3 : Nat) (T : List (Nat × AV)) (H : aq) (c : Nat), Ev G ⟨[.code (suf 9 cz.body)], ⟨(14, .sl 1 (byteCells d)) :: (5, .int .i64 (n : Nat)) :: (12, .int .i64 (k.toNat : Nat)) :: (13, .ref 77 g3 0) :: (1, .bool wide) :: (4, .ref 68 g1 0) :: (6, .ref 70 g2 0) :: (7, .int .i64 0) :: T, (77, some (g3, .cells (bc 1 2 [x, y]).enc)) :: (68, some (g1, .cells ap.enc)) :: (70, some (g2, .cells ap.enc)) :: H, c⟩, [.cell 4 (some 27), .t 5, .cell 6 (some 27), .t 7], 0⟩ t) (g1 g2 : Nat) (T : List (Nat × AV)) (H : aq) (c : Nat) : Ev G ⟨[.code (suf 3 cz.body)], ⟨(0, .sl 1 (byteCells b)) :: (1, .bool wide) :: (4, .ref 68 g1 0) :: (6, .ref 70 g2 0) :: (7, .int .i64 0) :: T, (68, some (g1, .cells ap.enc)) :: (70, some (g2, .cells ap.enc)) :: H, c⟩, [.cell 4 (some 27), .t 5, .cell 6 (some 27), .t 7], 0⟩ t := by
 have hbl := au b
 have hx8 := x.toNat_lt
 have hy8 := y.toNat_lt
 have hk8 := k.toNat_lt
 have hr : n < 256 ^ 2 := by rw [hn]; exact cn (by simp; omega)
 have hg : ah G 110 [.sl 1 (byteCells b), .int .i64 16, .int .i64 2] [] ⟨.tup [.int .u64 (n : Nat), .bool true], []⟩ := by
  rw [hn]; exact fQ b hb 16 2 (by omega) (by omega) (by omega) (by omega)
 have hN : ah G 198 [.int .i64 1, .int .i64 2, .sl 1 [[.int .u8 x.toNat], [.int .u8 y.toNat]]] [] ⟨.agg (bc 1 2 [x, y]).enc, []⟩ := il 1 2 [x, y]
 have hB := mi (k.toNat : Nat) (n : Nat) (by omega)
 rw [qb] at hB
 have hcut : List.take (((n : Nat) : Int).toNat - Int.toNat 19) (List.drop (Int.toNat 19) (byteCells b)) = byteCells d := by
  rw [hd, List.drop_take]; simp [byteCells]
 clear hn
 refine aG (b := suf 4 cz.body) ?_
 refine wd1 ?_
 repeat' (first | refine ab ?_ | refine kX [] [(113, _, _)] trivial ⟨rfl, pz trivial⟩ (hN) ?_ | (refine aa ?_ ?_ <;> intro h))
 refine aG (b := suf 5 cz.body) ?_
 refine wd1 ?_
 repeat' (first | refine ab ?_ | refine kX [] [(113, _, _)] trivial ⟨rfl, pz trivial⟩ (hN) ?_ | (refine aa ?_ ?_ <;> intro h))
 refine aG (b := suf 6 cz.body) ?_
 refine wd1 ?_
 repeat' (first | refine ab ?_ | refine kX [] [(113, _, _)] trivial ⟨rfl, pz trivial⟩ (hN) ?_ | (refine aa ?_ ?_ <;> intro h))
 refine aG (b := suf 7 cz.body) ?_
 refine wd1 ?_
 repeat' (first | refine ab ?_ | refine kX [] [(113, _, _)] trivial ⟨rfl, pz trivial⟩ (hN) ?_ | (refine aa ?_ ?_ <;> intro h))
 refine aG (b := suf 8 cz.body) ?_
 refine wd1 ?_
 repeat' (first | refine ab ?_ | refine kX [] [(113, _, _)] trivial ⟨rfl, pz trivial⟩ (hN) ?_ | (refine aa ?_ ?_ <;> intro h))
 refine aG (b := suf 9 cz.body) ?_
 refine wd1 ?_
 repeat' (first | refine ab ?_ | refine kX [] [(113, _, _)] trivial ⟨rfl, pz trivial⟩ (hN) ?_ | (refine aa ?_ ?_ <;> intro h))
 rw [hcut]
 refine ag [14, 5, 12, 13, 1, 4, 6, 7] [77, 68, 70] ?_
 exact K _ _ _ _ _ _
end Go.AM.IR
namespace Go.AM.IR
theorem leEq {a b : AV} (h : a = b) : LeP Any a b := h ▸ LeP.refl _
theorem jD (m f : PMsg) (e : Int) (n : Nat) (g1 g2 : Nat) (T : List (Nat × AV)) (H : aq) (c : Nat) : Ev G ⟨[.code (suf 11 cz.body)], ⟨(4, .ref 68 g1 0) :: (5, .int .i64 (n : Nat)) :: (6, .ref 70 g2 0) :: (7, .int .i64 e) :: T, (68, some (g1, .cells m.enc)) :: (70, some (g2, .cells f.enc)) :: H, c⟩, [.cell 4 (some 27), .t 5, .cell 6 (some 27), .t 7], 0⟩ (kd (lW n (m, f, e))) := by
 unfold lW
 by_cases h : e = 0
 ·subst h
  rw [if_pos rfl]
  refine wk3 ?_
  repeat' (first | refine ab ?_ | (refine aa ?_ ?_ <;> intro h))
  refine bm [] [(70, some (_, .cells ap.enc))] trivial ⟨⟨rfl, leA⟩, trivial⟩ ?_
  refine ax ?_
  repeat ((conv => whnf); refine frB ?_)
  rfl
 ·rw [if_neg h]
  refine wk3 ?_
  repeat' (first | refine ab ?_ | (refine aa ?_ ?_ <;> intro h))
  refine bm [] [(68, some (_, .cells ap.enc))] trivial ⟨⟨rfl, leA⟩, trivial⟩ ?_
  refine ax ?_
  repeat ((conv => whnf); refine frB ?_)
  rfl
theorem Ob (d : List UInt8) (wide : Bool) (x y : UInt8) (n : Nat) (m f : PMsg) (e : Int) (h : ah G 200 [.sl 1 (byteCells d)] [] ⟨.tup [.agg m.enc, .agg f.enc, .int .i64 e], []⟩) (t : Ret) (K : ∀ (g1 g2 : Nat) (T : List (Nat × AV)) (H : aq) (c : Nat), Ev G ⟨[.code (suf 11 cz.body)], ⟨(4, .ref 68 g1 0) :: (5, .int .i64 (n : Nat)) :: (6, .ref 70 g2 0) :: (7, .int .i64 e) :: T, (68, some (g1, .cells m.enc)) :: (70, some (g2, .cells f.enc)) :: H, c⟩, [.cell 4 (some 27), .t 5, .cell 6 (some 27), .t 7], 0⟩ t) (g1 g2 g3 : Nat) (T : List (Nat × AV)) (H : aq) (c : Nat) : Ev G ⟨[.code (suf 9 cz.body)], ⟨(14, .sl 1 (byteCells d)) :: (5, .int .i64 (n : Nat)) :: (12, .int .i64 1) :: (13, .ref 77 g3 0) :: (1, .bool wide) :: (4, .ref 68 g1 0) :: (6, .ref 70 g2 0) :: (7, .int .i64 0) :: T, (77, some (g3, .cells (bc 1 2 [x, y]).enc)) :: (68, some (g1, .cells ap.enc)) :: (70, some (g2, .cells ap.enc)) :: H, c⟩, [.cell 4 (some 27), .t 5, .cell 6 (some 27), .t 7], 0⟩ t := by
 refine aG (b := suf 10 cz.body) ?_
 refine wd1 ?_
 repeat' (first | refine ab ?_ | (refine aa ?_ ?_ <;> intro h))
 refine aG (b := suf 11 cz.body) ?_
 refine wd1 ?_
 repeat' (first | refine ab ?_ | (refine aa ?_ ?_ <;> intro h))
 refine ag [4, 5, 6, 7] [68, 70] ?_
 exact K _ _ _ _ _
theorem Oa (d : List UInt8) (wide : Bool) (x y : UInt8) (n : Nat) (m f : PMsg) (e : Int) (h : ah G 201 [.sl 1 (byteCells d), .bool wide] [] ⟨.tup [.agg m.enc, .agg f.enc, .int .i64 e], []⟩) (t : Ret) (K : ∀ (g1 g2 : Nat) (T : List (Nat × AV)) (H : aq) (c : Nat), Ev G ⟨[.code (suf 11 cz.body)], ⟨(4, .ref 68 g1 0) :: (5, .int .i64 (n : Nat)) :: (6, .ref 70 g2 0) :: (7, .int .i64 e) :: T, (68, some (g1, .cells m.enc)) :: (70, some (g2, .cells f.enc)) :: H, c⟩, [.cell 4 (some 27), .t 5, .cell 6 (some 27), .t 7], 0⟩ t) (g1 g2 g3 : Nat) (T : List (Nat × AV)) (H : aq) (c : Nat) : Ev G ⟨[.code (suf 9 cz.body)], ⟨(14, .sl 1 (byteCells d)) :: (5, .int .i64 (n : Nat)) :: (12, .int .i64 2) :: (13, .ref 77 g3 0) :: (1, .bool wide) :: (4, .ref 68 g1 0) :: (6, .ref 70 g2 0) :: (7, .int .i64 0) :: T, (77, some (g3, .cells (bc 1 2 [x, y]).enc)) :: (68, some (g1, .cells ap.enc)) :: (70, some (g2, .cells ap.enc)) :: H, c⟩, [.cell 4 (some 27), .t 5, .cell 6 (some 27), .t 7], 0⟩ t := by
 refine aG (b := suf 10 cz.body) ?_
 refine wd1 ?_
 repeat' (first | refine ab ?_ | (refine aa ?_ ?_ <;> intro h))
 refine aG (b := suf 11 cz.body) ?_
 refine wd1 ?_
 repeat' (first | refine ab ?_ | (refine aa ?_ ?_ <;> intro h))
 refine ag [4, 5, 6, 7] [68, 70] ?_
 exact K _ _ _ _ _
theorem N9 (c0 s0 : UInt8) (r : List UInt8) (hr : r.length < 2 ^ 40) (wide : Bool) (x y : UInt8) (n : Nat) (e : Int) (hc : ah G 144 [.agg (bc (c0.toNat : Nat) (s0.toNat : Nat) r).enc] [] ⟨.int .i64 e, []⟩) (t : Ret) (K : ∀ (g1 g2 : Nat) (T : List (Nat × AV)) (H : aq) (c : Nat), Ev G ⟨[.code (suf 11 cz.body)], ⟨(4, .ref 68 g1 0) :: (5, .int .i64 (n : Nat)) :: (6, .ref 70 g2 0) :: (7, .int .i64 e) :: T, (68, some (g1, .cells (bc (c0.toNat : Nat) (s0.toNat : Nat) r).enc)) :: (70, some (g2, .cells (if e = 0 then ap else bc 1 2 [x, y]).enc)) :: H, c⟩, [.cell 4 (some 27), .t 5, .cell 6 (some 27), .t 7], 0⟩ t) (g1 g2 g3 : Nat) (T : List (Nat × AV)) (H : aq) (c : Nat) : Ev G ⟨[.code (suf 9 cz.body)], ⟨(14, .sl 1 (byteCells (c0 :: s0 :: r))) :: (5, .int .i64 (n : Nat)) :: (12, .int .i64 3) :: (13, .ref 77 g3 0) :: (1, .bool wide) :: (4, .ref 68 g1 0) :: (6, .ref 70 g2 0) :: (7, .int .i64 0) :: T, (77, some (g3, .cells (bc 1 2 [x, y]).enc)) :: (68, some (g1, .cells ap.enc)) :: (70, some (g2, .cells ap.enc)) :: H, c⟩, [.cell 4 (some 27), .t 5, .cell 6 (some 27), .t 7], 0⟩ t := by
 have hrl := au r
 have hcl : (byteCells (c0 :: s0 :: r)).length = r.length + 2 := by rw [au]; rfl
 have h08 := c0.toNat_lt
 have hs8 := s0.toNat_lt
 have hcut : List.take ((byteCells (c0 :: s0 :: r)).length - Int.toNat 2) (List.drop (Int.toNat 2) (byteCells (c0 :: s0 :: r))) = byteCells r := by
  rw [List.take_of_length_le (by rw [List.length_drop]; exact Nat.le_refl _)]; rfl
 have hc2 : ah G 144 [.agg [.int .i64 3, .int .i64 0, .int .i64 0, .int .i64 0, .int .u32 0, nilV, nilV, .int .i64 0, nilV, .int .u32 0, .bool false, .int .i64 0, .bool false, .int .i64 0, .bool false, .bool false, .int .i64 0, .int .u32 0, nilV, .bool false, .int .u32 0, nilV, nilV, nilV, .int .i64 (c0.toNat : Nat), .int .i64 (s0.toNat : Nat), .sl 1 (List.take ((byteCells (c0 :: s0 :: r)).length - Int.toNat 2) (List.drop (Int.toNat 2) (byteCells (c0 :: s0 :: r))))]] [] ⟨.int .i64 e, []⟩ := by
  rw [hcut]
  exact iq rfl hc ⟨LeP.agg leA, trivial⟩
 by_cases h : e = 0
 ·subst h
  rw [if_pos rfl] at K
  refine aG (b := suf 10 cz.body) ?_
  refine wd1 ?_
  repeat' (first | refine ab ?_ | (refine aa ?_ ?_ <;> intro h))
  refine aG (b := suf 11 cz.body) ?_
  refine wd1 ?_
  repeat' (first | refine ab ?_ | refine kZ [(179, _, _)] ⟨rfl, pz trivial⟩ (hc2) ?_ | refine ox ?_ | (refine aa ?_ ?_ <;> intro h))
  refine d8 [(179, _, _)] [4, 5, 6, 7] [68, 70] ⟨rfl, frP, trivial⟩ ?_; repeat ((conv => whnf); first | refine frA ?_ | intro T H)
  refine bm [] [(68, some (_, .cells (bc (c0.toNat : Nat) (s0.toNat : Nat) r).enc))] trivial ⟨⟨rfl, .refl _, .refl _, .refl _, .refl _, .refl _, LeP.nil 2, LeP.nil 2, .refl _, LeP.nil 2, .refl _, .refl _, .refl _, .refl _, .refl _, .refl _, .refl _, .refl _, .refl _, LeP.nil 1, .refl _, .refl _, LeP.nil 1, LeP.nil 2, LeP.nil 2, .refl _, .refl _, leEq (by rw [List.nil_append, hcut]; rfl), trivial⟩, trivial⟩ ?_
  refine ag [4, 5, 6, 7] [68, 70] ?_
  exact K _ _ _ _ _
 ·rw [if_neg h] at K
  refine aG (b := suf 10 cz.body) ?_
  refine wd1 ?_
  repeat' (first | refine ab ?_ | (refine aa ?_ ?_ <;> intro h))
  refine aG (b := suf 11 cz.body) ?_
  refine wd1 ?_
  repeat' (first | refine ab ?_ | refine kZ [(179, _, _)] ⟨rfl, pz trivial⟩ (hc2) ?_ | refine ox ?_ | (refine aa ?_ ?_ <;> intro h))
  refine d8 [(179, _, _)] [4, 5, 6, 7] [68, 70] ⟨rfl, frP, trivial⟩ ?_; repeat ((conv => whnf); first | refine frA ?_ | intro T H)
  refine bm [] [(68, some (_, .cells (bc (c0.toNat : Nat) (s0.toNat : Nat) r).enc))] trivial ⟨⟨rfl, .refl _, .refl _, .refl _, .refl _, .refl _, LeP.nil 2, LeP.nil 2, .refl _, LeP.nil 2, .refl _, .refl _, .refl _, .refl _, .refl _, .refl _, .refl _, .refl _, .refl _, LeP.nil 1, .refl _, .refl _, LeP.nil 1, LeP.nil 2, LeP.nil 2, .refl _, .refl _, leEq (by rw [List.nil_append, hcut]; rfl), trivial⟩, trivial⟩ ?_
  refine ag [4, 5, 6, 7] [68, 70] ?_
  exact K _ _ _ _ _
theorem N8 (d : List UInt8) (wide : Bool) (x y : UInt8) (n : Nat) (t : Ret) (K : ∀ (g1 g2 : Nat) (T : List (Nat × AV)) (H : aq) (c : Nat), Ev G ⟨[.code (suf 11 cz.body)], ⟨(4, .ref 68 g1 0) :: (5, .int .i64 (n : Nat)) :: (6, .ref 70 g2 0) :: (7, .int .i64 0) :: T, (68, some (g1, .cells ({ ap with kind := 4 } : PMsg).enc)) :: (70, some (g2, .cells ap.enc)) :: H, c⟩, [.cell 4 (some 27), .t 5, .cell 6 (some 27), .t 7], 0⟩ t) (g1 g2 g3 : Nat) (T : List (Nat × AV)) (H : aq) (c : Nat) : Ev G ⟨[.code (suf 9 cz.body)], ⟨(14, .sl 1 (byteCells d)) :: (5, .int .i64 (n : Nat)) :: (12, .int .i64 4) :: (13, .ref 77 g3 0) :: (1, .bool wide) :: (4, .ref 68 g1 0) :: (6, .ref 70 g2 0) :: (7, .int .i64 0) :: T, (77, some (g3, .cells (bc 1 2 [x, y]).enc)) :: (68, some (g1, .cells ap.enc)) :: (70, some (g2, .cells ap.enc)) :: H, c⟩, [.cell 4 (some 27), .t 5, .cell 6 (some 27), .t 7], 0⟩ t := by
 refine aG (b := suf 10 cz.body) ?_
 refine wd1 ?_
 repeat' (first | refine ab ?_ | (refine aa ?_ ?_ <;> intro h))
 refine aG (b := suf 11 cz.body) ?_
 refine wd1 ?_
 repeat' (first | refine ab ?_ | (refine aa ?_ ?_ <;> intro h))
 refine bm [] [(68, some (_, .cells ({ ap with kind := 4 } : PMsg).enc))] trivial ⟨⟨rfl, leA⟩, trivial⟩ ?_
 refine ag [4, 5, 6, 7] [68, 70] ?_
 exact K _ _ _ _ _
theorem N7 (d : List UInt8) (wide : Bool) (x y : UInt8) (n : Nat) (t : Ret) (K : ∀ (g1 g2 : Nat) (T : List (Nat × AV)) (H : aq) (c : Nat), Ev G ⟨[.code (suf 11 cz.body)], ⟨(4, .ref 68 g1 0) :: (5, .int .i64 (n : Nat)) :: (6, .ref 70 g2 0) :: (7, .int .i64 (if d = [0, 1, 0, 1] then 0 else 2)) :: T, (68, some (g1, .cells ({ ap with kind := 5 } : PMsg).enc)) :: (70, some (g2, .cells (if d = [0, 1, 0, 1] then ap else bc 1 2 [x, y]).enc)) :: H, c⟩, [.cell 4 (some 27), .t 5, .cell 6 (some 27), .t 7], 0⟩ t) (g1 g2 g3 : Nat) (T : List (Nat × AV)) (H : aq) (c : Nat) : Ev G ⟨[.code (suf 9 cz.body)], ⟨(14, .sl 1 (byteCells d)) :: (5, .int .i64 (n : Nat)) :: (12, .int .i64 5) :: (13, .ref 77 g3 0) :: (1, .bool wide) :: (4, .ref 68 g1 0) :: (6, .ref 70 g2 0) :: (7, .int .i64 0) :: T, (77, some (g3, .cells (bc 1 2 [x, y]).enc)) :: (68, some (g1, .cells ap.enc)) :: (70, some (g2, .cells ap.enc)) :: H, c⟩, [.cell 4 (some 27), .t 5, .cell 6 (some 27), .t 7], 0⟩ t := by
 by_cases h : d = [0, 1, 0, 1]
 ·rw [if_pos h, if_pos h] at K
  subst h
  refine aG (b := suf 10 cz.body) ?_
  refine wd1 ?_
  repeat' (first | refine ab ?_ | (refine aa ?_ ?_ <;> intro h))
  refine aG (b := suf 11 cz.body) ?_
  refine wd1 ?_
  repeat' (first | refine ab ?_ | refine zBv (l := [0, 1, 0, 1]) rfl rfl ?_ | (refine aa ?_ ?_ <;> intro h))
  refine bm [] [(68, some (_, .cells ({ ap with kind := 5 } : PMsg).enc))] trivial ⟨⟨rfl, leA⟩, trivial⟩ ?_
  refine ag [4, 5, 6, 7] [68, 70] ?_
  exact K _ _ _ _ _
 ·rw [if_neg h, if_neg h] at K
  have hs : (d == [0, 1, 0, 1]) = false := by simpa using h
  have hs2 : (d != [0, 1, 0, 1]) = true := by simpa using h
  refine aG (b := suf 10 cz.body) ?_
  refine wd1 ?_
  repeat' (first | refine ab ?_ | (refine aa ?_ ?_ <;> intro h))
  refine aG (b := suf 11 cz.body) ?_
  refine wd1 ?_
  repeat' (first | refine ab ?_ | refine zBv (l := [0, 1, 0, 1]) rfl rfl ?_ | (refine aa ?_ ?_ <;> intro h))
  refine bm [] [(68, some (_, .cells ({ ap with kind := 5 } : PMsg).enc))] trivial ⟨⟨rfl, leA⟩, trivial⟩ ?_
  refine ag [4, 5, 6, 7] [68, 70] ?_
  exact K _ _ _ _ _
end Go.AM.IR
namespace Go.AM.IR
theorem BZ (wide : Bool) (w N : Nat) (hw : wd wide = w) (hN : N < 2 ^ 29) (b v rest : List UInt8) (c k : UInt8) (n : Nat) (hb0 : (byteCells b)[0]? = some [.int .u8 (c.toNat : Int)]) (hb1 : (byteCells b)[1]? = some [.int .u8 (k.toNat : Int)]) (hbit : fq c = false) (hlen : b.length < 2 ^ 29) (hh : 3 ≤ b.length)
 (aX : ah G 93 [.sl 1 (byteCells b), .int .i64 2, .int .i64 1] [] ⟨.int .i64 (n : Int), []⟩) (hn : n ≤ 65535) (last : Int) (nd : Nat) (hnd : nd < 2 ^ 40) (a : Attrs) (hu : a.unknown.length < 2 ^ 29) (R : Ret)
 (h1 : b.length < 3 + n → R = lZ (3, zeroA)) (h2 : 3 + n ≤ b.length → (k.toNat : Int) ≤ last → R = lZ (16, zeroA))
 (h3 : 3 + n ≤ b.length → ¬ (k.toNat : Int) ≤ last → di ⟨c, k, false, (b.drop 3).take n, b.drop (3 + n)⟩ → R = lZ (2, zeroA))
 (h4 : 3 + n ≤ b.length → ¬ (k.toNat : Int) ≤ last → ¬ di ⟨c, k, false, (b.drop 3).take n, b.drop (3 + n)⟩ → bz w k.toNat ((b.drop 3).take n) a = none → R = lZ (2, zeroA))
 (go : 3 + n ≤ b.length → ¬ (k.toNat : Int) ≤ last → ¬ di ⟨c, k, false, (b.drop 3).take n, b.drop (3 + n)⟩ → ∀ a', bz w k.toNat ((b.drop 3).take n) a = some a' → ∀ (T : List (Nat × AV)) (H : aq) (c g1 g2 g3 : Nat), Ev G ⟨lX, ⟨(4, .ref 68 g1 0) :: (0, .sl 1 (byteCells (b.drop (3 + n)))) :: (8, .int .i64 ((nd + fV k.toNat : Nat) : Int)) :: (6, .ref 70 g2 0) :: (1, .bool wide) :: (7, .int .i64 (k.toNat : Int)) :: T, (68, some (g1, .cells ta)) :: (70, some (g2, .cells (a'.cellsV (.vs 300 g3 a'.unknown.length)))) :: (300, some (g3, .vec 2 (a'.unknown.map TLV.enc))) :: H, c⟩, [.cell 4 (some 16), .t 5], 0⟩ R)
 (T : List (Nat × AV)) (H : aq) (c_ g1 g2 g3 : Nat) : Ev G ⟨lX, ⟨(4, .ref 68 g1 0) :: (0, .sl 1 (byteCells b)) :: (8, .int .i64 (nd : Int)) :: (6, .ref 70 g2 0) :: (1, .bool wide) :: (7, .int .i64 last) :: T, (68, some (g1, .cells ta)) :: (70, some (g2, .cells (a.cellsV (.vs 300 g3 a.unknown.length)))) :: (300, some (g3, .vec 2 (a.unknown.map TLV.enc))) :: H, c_⟩, [.cell 4 (some 16), .t 5], 0⟩ R := by
 have hbl := au b
 have hk := k.toNat_lt
 have hflag := jz (k.toNat : Int) (by omega)
 have hwg := kC wide
 rw [hw] at hwg
 by_cases c1 : b.length < 3 + n
 ·rw [h1 c1]
  refine evl ?_
  repeat' ((conv => whnf); first | refine kU hbit ?_ | refine gF ?_ | refine dz ?_ | (refine aa ?_ ?_ <;> intro h))
  refine bm [] [(68, some (_, .cells zeroA.enc))] trivial ⟨⟨rfl, leA⟩, trivial⟩ ?_
  refine ax ?_
  (conv => whnf); exact And.intro (by first | rfl | (simp [AV.pure, aZ]; done) | fail) rfl
 have c1 : 3 + n ≤ b.length := by omega
 by_cases c2 : (k.toNat : Int) ≤ last
 ·rw [h2 c1 c2]
  refine evl ?_
  repeat' ((conv => whnf); first | refine kU hbit ?_ | refine gF ?_ | refine dz ?_ | (refine aa ?_ ?_ <;> intro h))
  refine bm [] [(68, some (_, .cells zeroA.enc))] trivial ⟨⟨rfl, leA⟩, trivial⟩ ?_
  refine ax ?_
  (conv => whnf); exact And.intro (by first | rfl | (simp [AV.pure, aZ]; done) | fail) rfl
 have hvl : ((b.drop 3).take n).length = n := by simp; omega
 by_cases c3 : iM c = ((bx (k.toNat : Int)).toNat : Int)
 ·have hnb : ¬ di ⟨c, k, false, (b.drop 3).take n, b.drop (3 + n)⟩ := by simp [di, c3]
  have hsl := yp b 3 n (3 + (n : Int)).toNat (by omega)
  have hwl := fU wide
  rw [hw] at hwl
  have hrd := oD k.toNat (by omega) a ((b.drop 3).take n) (by omega) (by omega) w hwl
  unfold bp at hrd
  cases hs : bz w k.toNat ((b.drop 3).take n) a with
  | none =>
   rw [hs] at hrd
   rw [h4 c1 c2 hnb hs]
   rw [← hsl] at hrd
   refine evl ?_
   repeat' ((conv => whnf); first | refine kU hbit ?_ | refine gF ?_ | refine dz ?_ | refine kX [(70, _, _), (300, _, _)] [] ⟨rfl, rfl, trivial⟩ trivial (hrd) ?_ | (refine aa ?_ ?_ <;> intro h))
   refine bm [] [(68, some (_, .cells zeroA.enc))] trivial ⟨⟨rfl, leA⟩, trivial⟩ ?_
   refine ax ?_
   (conv => whnf); exact And.intro (by first | rfl | (simp [AV.pure, aZ]; done) | fail) rfl
  | some a' =>
   rw [hs] at hrd
   rw [← hsl] at hrd
   have go := go c1 c2 hnb a' hs
   simp only [bB] at hrd
   by_cases hq : 1 ≤ k.toNat ∧ k.toNat ≤ 3
   ·rw [show dy k.toNat = true from by simp [dy]; omega] at hrd
    rw [show ((nd + fV k.toNat : Nat) : Int) = (nd : Int) + 1 from by simp [fV, hq]] at go
    refine evl ?_
    repeat' ((conv => whnf); first | refine kU hbit ?_ | refine gF ?_ | refine dz ?_ | refine kX [(70, _, _), (300, _, _)] [] ⟨rfl, rfl, trivial⟩ trivial (hrd) ?_ | (refine aa ?_ ?_ <;> intro h))
    refine ag [4, 0, 8, 6, 1, 7] [68, 70, 300] ?_
    rw [jI b _ _ (by omega), show (3 + (n : Int)).toNat = 3 + n from by omega]
    exact go _ _ _ _ _ _
   ·rw [show ((nd + fV k.toNat : Nat) : Int) = (nd : Int) from by simp [fV, hq]] at go
    cases hik : dy k.toNat
    ·rw [hik] at hrd
     refine evl ?_
     repeat' ((conv => whnf); first | refine kU hbit ?_ | refine gF ?_ | refine dz ?_ | refine kX [(70, _, _), (300, _, _)] [] ⟨rfl, rfl, trivial⟩ trivial (hrd) ?_ | (refine aa ?_ ?_ <;> intro h))
     all_goals
      refine ag [4, 0, 8, 6, 1, 7] [68, 70, 300] ?_
      rw [jI b _ _ (by omega), show (3 + (n : Int)).toNat = 3 + n from by omega]
      exact go _ _ _ _ _ _
    ·rw [hik] at hrd
     refine evl ?_
     repeat' ((conv => whnf); first | refine kU hbit ?_ | refine gF ?_ | refine dz ?_ | refine kX [(70, _, _), (300, _, _)] [] ⟨rfl, rfl, trivial⟩ trivial (hrd) ?_ | (refine aa ?_ ?_ <;> intro h))
     all_goals
      refine ag [4, 0, 8, 6, 1, 7] [68, 70, 300] ?_
      rw [jI b _ _ (by omega), show (3 + (n : Int)).toNat = 3 + n from by omega]
      exact go _ _ _ _ _ _
 ·rw [h3 c1 c2 (.inl c3)]
  refine evl ?_
  repeat' ((conv => whnf); first | refine kU hbit ?_ | refine gF ?_ | refine dz ?_ | (refine aa ?_ ?_ <;> intro h))
  refine bm [] [(68, some (_, .cells zeroA.enc))] trivial ⟨⟨rfl, leA⟩, trivial⟩ ?_
  refine ax ?_
  (conv => whnf); exact And.intro (by first | rfl | (simp [AV.pure, aZ]; done) | fail) rfl
end Go.AM.IR
namespace Go.AM.IR
theorem JN (wide : Bool) (w N : Nat) (hw : wd wide = w) (hN : N < 2 ^ 29) (b v rest : List UInt8) (c k : UInt8) (n : Nat) (hb0 : (byteCells b)[0]? = some [.int .u8 (c.toNat : Int)]) (hb1 : (byteCells b)[1]? = some [.int .u8 (k.toNat : Int)]) (hbit : fq c = true) (hlen : b.length < 2 ^ 29) (hh : 4 ≤ b.length)
 (aX : ah G 93 [.sl 1 (byteCells b), .int .i64 2, .int .i64 2] [] ⟨.int .i64 (n : Int), []⟩) (hn : n ≤ 65535) (last : Int) (nd : Nat) (hnd : nd < 2 ^ 40) (a : Attrs) (hu : a.unknown.length < 2 ^ 29) (R : Ret)
 (h1 : b.length < 4 + n → R = lZ (3, zeroA)) (h2 : 4 + n ≤ b.length → (k.toNat : Int) ≤ last → R = lZ (16, zeroA))
 (h3 : 4 + n ≤ b.length → ¬ (k.toNat : Int) ≤ last → di ⟨c, k, true, (b.drop 4).take n, b.drop (4 + n)⟩ → R = lZ (2, zeroA))
 (h4 : 4 + n ≤ b.length → ¬ (k.toNat : Int) ≤ last → ¬ di ⟨c, k, true, (b.drop 4).take n, b.drop (4 + n)⟩ → bz w k.toNat ((b.drop 4).take n) a = none → R = lZ (2, zeroA))
 (go : 4 + n ≤ b.length → ¬ (k.toNat : Int) ≤ last → ¬ di ⟨c, k, true, (b.drop 4).take n, b.drop (4 + n)⟩ → ∀ a', bz w k.toNat ((b.drop 4).take n) a = some a' → ∀ (T : List (Nat × AV)) (H : aq) (c g1 g2 g3 : Nat), Ev G ⟨lX, ⟨(4, .ref 68 g1 0) :: (0, .sl 1 (byteCells (b.drop (4 + n)))) :: (8, .int .i64 ((nd + fV k.toNat : Nat) : Int)) :: (6, .ref 70 g2 0) :: (1, .bool wide) :: (7, .int .i64 (k.toNat : Int)) :: T, (68, some (g1, .cells ta)) :: (70, some (g2, .cells (a'.cellsV (.vs 300 g3 a'.unknown.length)))) :: (300, some (g3, .vec 2 (a'.unknown.map TLV.enc))) :: H, c⟩, [.cell 4 (some 16), .t 5], 0⟩ R)
 (T : List (Nat × AV)) (H : aq) (c_ g1 g2 g3 : Nat) : Ev G ⟨lX, ⟨(4, .ref 68 g1 0) :: (0, .sl 1 (byteCells b)) :: (8, .int .i64 (nd : Int)) :: (6, .ref 70 g2 0) :: (1, .bool wide) :: (7, .int .i64 last) :: T, (68, some (g1, .cells ta)) :: (70, some (g2, .cells (a.cellsV (.vs 300 g3 a.unknown.length)))) :: (300, some (g3, .vec 2 (a.unknown.map TLV.enc))) :: H, c_⟩, [.cell 4 (some 16), .t 5], 0⟩ R := by
 have hbl := au b
 have hk := k.toNat_lt
 have hflag := jz (k.toNat : Int) (by omega)
 have hwg := kC wide
 rw [hw] at hwg
 by_cases c1 : b.length < 4 + n
 ·rw [h1 c1]
  refine evl ?_
  repeat' ((conv => whnf); first | refine jm hbit ?_ | refine gF ?_ | refine dz ?_ | (refine aa ?_ ?_ <;> intro h))
  refine bm [] [(68, some (_, .cells zeroA.enc))] trivial ⟨⟨rfl, leA⟩, trivial⟩ ?_
  refine ax ?_
  (conv => whnf); exact And.intro (by first | rfl | (simp [AV.pure, aZ]; done) | fail) rfl
 have c1 : 4 + n ≤ b.length := by omega
 by_cases c2 : (k.toNat : Int) ≤ last
 ·rw [h2 c1 c2]
  refine evl ?_
  repeat' ((conv => whnf); first | refine jm hbit ?_ | refine gF ?_ | refine dz ?_ | (refine aa ?_ ?_ <;> intro h))
  refine bm [] [(68, some (_, .cells zeroA.enc))] trivial ⟨⟨rfl, leA⟩, trivial⟩ ?_
  refine ax ?_
  (conv => whnf); exact And.intro (by first | rfl | (simp [AV.pure, aZ]; done) | fail) rfl
 have hvl : ((b.drop 4).take n).length = n := by simp; omega
 by_cases c3 : iM c = ((bx (k.toNat : Int)).toNat : Int)
 ·by_cases c4 : n ≤ 255
  ·rw [h3 c1 c2 (.inr ⟨rfl, by simp only; omega⟩)]
   refine evl ?_
   repeat' ((conv => whnf); first | refine jm hbit ?_ | refine gF ?_ | refine dz ?_ | (refine aa ?_ ?_ <;> intro h))
   refine bm [] [(68, some (_, .cells zeroA.enc))] trivial ⟨⟨rfl, leA⟩, trivial⟩ ?_
   refine ax ?_
   (conv => whnf); exact And.intro (by first | rfl | (simp [AV.pure, aZ]; done) | fail) rfl
  ·have hnb : ¬ di ⟨c, k, true, (b.drop 4).take n, b.drop (4 + n)⟩ := by simp [di, c3]; omega
   have hsl := yp b 4 n (4 + (n : Int)).toNat (by omega)
   have hwl := fU wide
   rw [hw] at hwl
   have hrd := oD k.toNat (by omega) a ((b.drop 4).take n) (by omega) (by omega) w hwl
   unfold bp at hrd
   cases hs : bz w k.toNat ((b.drop 4).take n) a with
   | none =>
    rw [hs] at hrd
    rw [h4 c1 c2 hnb hs]
    rw [← hsl] at hrd
    refine evl ?_
    repeat' ((conv => whnf); first | refine jm hbit ?_ | refine gF ?_ | refine dz ?_ | refine kX [(70, _, _), (300, _, _)] [] ⟨rfl, rfl, trivial⟩ trivial (hrd) ?_ | (refine aa ?_ ?_ <;> intro h))
    refine bm [] [(68, some (_, .cells zeroA.enc))] trivial ⟨⟨rfl, leA⟩, trivial⟩ ?_
    refine ax ?_
    (conv => whnf); exact And.intro (by first | rfl | (simp [AV.pure, aZ]; done) | fail) rfl
   | some a' =>
    rw [hs] at hrd
    rw [← hsl] at hrd
    have go := go c1 c2 hnb a' hs
    simp only [bB] at hrd
    by_cases hq : 1 ≤ k.toNat ∧ k.toNat ≤ 3
    ·rw [show dy k.toNat = true from by simp [dy]; omega] at hrd
     rw [show ((nd + fV k.toNat : Nat) : Int) = (nd : Int) + 1 from by simp [fV, hq]] at go
     refine evl ?_
     repeat' ((conv => whnf); first | refine jm hbit ?_ | refine gF ?_ | refine dz ?_ | refine kX [(70, _, _), (300, _, _)] [] ⟨rfl, rfl, trivial⟩ trivial (hrd) ?_ | (refine aa ?_ ?_ <;> intro h))
     refine ag [4, 0, 8, 6, 1, 7] [68, 70, 300] ?_
     rw [jI b _ _ (by omega), show (4 + (n : Int)).toNat = 4 + n from by omega]
     exact go _ _ _ _ _ _
    ·rw [show ((nd + fV k.toNat : Nat) : Int) = (nd : Int) from by simp [fV, hq]] at go
     cases hik : dy k.toNat
     ·rw [hik] at hrd
      refine evl ?_
      repeat' ((conv => whnf); first | refine jm hbit ?_ | refine gF ?_ | refine dz ?_ | refine kX [(70, _, _), (300, _, _)] [] ⟨rfl, rfl, trivial⟩ trivial (hrd) ?_ | (refine aa ?_ ?_ <;> intro h))
      all_goals
       refine ag [4, 0, 8, 6, 1, 7] [68, 70, 300] ?_
       rw [jI b _ _ (by omega), show (4 + (n : Int)).toNat = 4 + n from by omega]
       exact go _ _ _ _ _ _
     ·rw [hik] at hrd
      refine evl ?_
      repeat' ((conv => whnf); first | refine jm hbit ?_ | refine gF ?_ | refine dz ?_ | refine kX [(70, _, _), (300, _, _)] [] ⟨rfl, rfl, trivial⟩ trivial (hrd) ?_ | (refine aa ?_ ?_ <;> intro h))
      all_goals
       refine ag [4, 0, 8, 6, 1, 7] [68, 70, 300] ?_
       rw [jI b _ _ (by omega), show (4 + (n : Int)).toNat = 4 + n from by omega]
       exact go _ _ _ _ _ _
 ·rw [h3 c1 c2 (.inl c3)]
  refine evl ?_
  repeat' ((conv => whnf); first | refine jm hbit ?_ | refine gF ?_ | refine dz ?_ | (refine aa ?_ ?_ <;> intro h))
  refine bm [] [(68, some (_, .cells zeroA.enc))] trivial ⟨⟨rfl, leA⟩, trivial⟩ ?_
  refine ax ?_
  (conv => whnf); exact And.intro (by first | rfl | (simp [AV.pure, aZ]; done) | fail) rfl
end Go.AM.IR
namespace Go.AM.IR
theorem J8 (c k n : UInt8) (r : List UInt8) (hb : fq c = false) : gY (c :: k :: n :: r) = if r.length < n.toNat then none else some ⟨c, k, false, r.take n.toNat, r.drop n.toNat⟩ := by
 simp [gY, hb]
theorem OB (c k n m : UInt8) (r : List UInt8) (hb : fq c = true) : gY (c :: k :: n :: m :: r) = if r.length < n.toNat * 256 + m.toNat then none else some ⟨c, k, true, r.take (n.toNat * 256 + m.toNat), r.drop (n.toNat * 256 + m.toNat)⟩ := by
 simp [gY, hb]
theorem P8 (k : Nat) : fV k ≤ 1 := by unfold fV; split <;> omega
theorem NR (c k n : UInt8) (r : List UInt8) (x : Nat) : (c :: k :: n :: r).drop (3 + x) = r.drop x := by rw [Nat.add_comm]; rfl
theorem NQ (c k n m : UInt8) (r : List UInt8) (x : Nat) : (c :: k :: n :: m :: r).drop (4 + x) = r.drop x := by rw [Nat.add_comm]; rfl
theorem nR (wide : Bool) (w N : Nat) (hw : wd wide = w) (hN : N < 2 ^ 29) : ∀ (f : Nat) (b : List UInt8) (last : Int) (nd : Nat) (a : Attrs) (T : List (Nat × AV)) (H : aq) (c g1 g2 g3 : Nat) (hf : b.length ≤ f) (hu : a.unknown.length + b.length ≤ N) (hnd : nd + b.length ≤ N) (hD : DB N a),
  Ev G ⟨lX, ⟨(4, .ref 68 g1 0) :: (0, .sl 1 (byteCells b)) :: (8, .int .i64 (nd : Int)) :: (6, .ref 70 g2 0) :: (1, .bool wide) :: (7, .int .i64 last) :: T, (68, some (g1, .cells ta)) :: (70, some (g2, .cells (a.cellsV (.vs 300 g3 a.unknown.length)))) :: (300, some (g3, .vec 2 (a.unknown.map TLV.enc))) :: H, c⟩, [.cell 4 (some 16), .t 5], 0⟩ (lZ (jC w f b last nd a))
 | f, [], last, nd, a, T, H, c_, g1, g2, g3, hf, hu, hnd, hD => by
  rw [show jC w f [] last nd a = kH nd a from by cases f <;> rfl]
  have hul : (a.unknown.map TLV.enc).length = a.unknown.length := by simp
  have hck := i6 a (hD.lenB (by omega) (by omega))
  refine d8 [(300, _, _)] [4, 0, 8, 6, 1, 7] [68, 70] ⟨rfl, frP, trivial⟩ ?_; repeat ((conv => whnf); first | refine frA ?_ | intro T H)
  by_cases h3 : nd < 3
  ·rw [show kH nd a = (6, zeroA) from by rw [kH, if_pos h3]]
   refine evl ?_
   repeat' (first | refine ab ?_ | (refine aa ?_ ?_ <;> intro h))
   refine bm [] [(68, some (_, .cells zeroA.enc))] trivial ⟨⟨rfl, leA⟩, trivial⟩ ?_
   refine ax ?_
   (conv => whnf); exact And.intro (by first | rfl | (simp [AV.pure, aZ]; done) | fail) rfl
  ·by_cases h0 : bW a = 0
   ·rw [show kH nd a = (0, a) from by rw [kH, if_neg h3, if_pos h0]]
    rw [h0] at hck
    refine evl ?_
    repeat' (first | refine ab ?_ | (refine aa ?_ ?_ <;> intro h))
    refine ax ?_
    (conv => whnf); exact And.intro (by simp [AV.pure, aZ]) rfl
   ·rw [show kH nd a = (bW a, zeroA) from by rw [kH, if_neg h3, if_neg h0]]
    refine evl ?_
    repeat' (first | refine ab ?_ | (refine aa ?_ ?_ <;> intro h))
    refine bm [] [(68, some (_, .cells zeroA.enc))] trivial ⟨⟨rfl, leA⟩, trivial⟩ ?_
    refine ax ?_
    (conv => whnf); exact And.intro (by first | rfl | (simp [AV.pure, aZ]; done) | fail) rfl
 | 0, c :: r, last, nd, a, T, H, c_, g1, g2, g3, hf, hu, hnd, hD => absurd hf (by simp)
 | f + 1, [c], last, nd, a, T, H, c_, g1, g2, g3, hf, hu, hnd, hD => by
  rw [iv rfl]
  cases hbit : fq c
  ·refine evl ?_
   repeat' ((conv => whnf); first | refine kU hbit ?_ | refine dz ?_ | (refine aa ?_ ?_ <;> intro h))
   refine bm [] [(68, some (_, .cells zeroA.enc))] trivial ⟨⟨rfl, leA⟩, trivial⟩ ?_
   refine ax ?_
   (conv => whnf); exact And.intro (by first | rfl | (simp [AV.pure, aZ]; done) | fail) rfl
  ·refine evl ?_
   repeat' ((conv => whnf); first | refine jm hbit ?_ | refine dz ?_ | (refine aa ?_ ?_ <;> intro h))
   refine bm [] [(68, some (_, .cells zeroA.enc))] trivial ⟨⟨rfl, leA⟩, trivial⟩ ?_
   refine ax ?_
   (conv => whnf); exact And.intro (by first | rfl | (simp [AV.pure, aZ]; done) | fail) rfl
 | f + 1, [c, k], last, nd, a, T, H, c_, g1, g2, g3, hf, hu, hnd, hD => by
  rw [iv rfl]
  cases hbit : fq c
  ·refine evl ?_
   repeat' ((conv => whnf); first | refine kU hbit ?_ | refine dz ?_ | (refine aa ?_ ?_ <;> intro h))
   refine bm [] [(68, some (_, .cells zeroA.enc))] trivial ⟨⟨rfl, leA⟩, trivial⟩ ?_
   refine ax ?_
   (conv => whnf); exact And.intro (by first | rfl | (simp [AV.pure, aZ]; done) | fail) rfl
  ·refine evl ?_
   repeat' ((conv => whnf); first | refine jm hbit ?_ | refine dz ?_ | (refine aa ?_ ?_ <;> intro h))
   refine bm [] [(68, some (_, .cells zeroA.enc))] trivial ⟨⟨rfl, leA⟩, trivial⟩ ?_
   refine ax ?_
   (conv => whnf); exact And.intro (by first | rfl | (simp [AV.pure, aZ]; done) | fail) rfl
 | f + 1, c :: k :: n :: r, last, nd, a, T, H, c_, g1, g2, g3, hf, hu, hnd, hD => by
  have hn := n.toNat_lt
  have hle : (c :: k :: n :: r).length = r.length + 3 := rfl
  have hrq := P8 k.toNat
  cases hbit : fq c
  ·have aX := fb (c :: k :: n :: r) (by omega) 2 1 (by omega) (by omega) (by omega) (by omega)
   rw [show rd (((c :: k :: n :: r).drop (2 : Int).toNat).take (1 : Int).toNat) = n.toNat from by simp [rd]] at aX
   have hat := J8 c k n r hbit
   refine BZ wide w N hw hN (c :: k :: n :: r) [] [] c k n.toNat rfl rfl hbit (by omega) (by omega) aX (by omega) last nd (by omega) a (by omega) _ ?_ ?_ ?_ ?_ ?_ T H c_ g1 g2 g3
   all_goals try simp only [NR, show ∀ x : List UInt8, (c :: k :: n :: x).drop 3 = x from fun _ => rfl]
   ·intro q; rw [if_pos (by omega)] at hat; rw [iv hat]
   ·intro q q2; rw [if_neg (by omega)] at hat; rw [fj hat, if_pos q2]
   ·intro q q2 q3; rw [if_neg (by omega)] at hat; rw [fj hat, if_neg q2, if_pos q3]
   ·intro q q2 q3 q4; rw [if_neg (by omega)] at hat; rw [fj hat, if_neg q2, if_neg q3]; simp only [q4]
   ·intro q q2 q3 a' q4 T H c_ g1 g2 g3
    rw [if_neg (by omega)] at hat; rw [fj hat, if_neg q2, if_neg q3]; simp only [q4]
    obtain ⟨d1, d2⟩ := uQ hD (by simp; omega) q4
    exact nR wide w N hw hN f _ _ _ a' T H c_ g1 g2 g3 (by simp; omega) (by simp; omega) (by simp; omega) d1
  ·cases r with
   | nil =>
    rw [iv (show gY [c, k, n] = none from by simp [gY, hbit])]
    refine evl ?_
    repeat' ((conv => whnf); first | refine jm hbit ?_ | refine dz ?_ | (refine aa ?_ ?_ <;> intro h))
    refine bm [] [(68, some (_, .cells zeroA.enc))] trivial ⟨⟨rfl, leA⟩, trivial⟩ ?_
    refine ax ?_
    (conv => whnf); exact And.intro (by first | rfl | (simp [AV.pure, aZ]; done) | fail) rfl
   | cons m r =>
    have hm := m.toNat_lt
    simp only [List.length_cons] at hle
    have aX := fb (c :: k :: n :: m :: r) (by simp only [List.length_cons] at hf hu hnd ⊢; omega) 2 2 (by omega) (by omega) (by omega) (by simp only [List.length_cons]; omega)
    rw [show rd (((c :: k :: n :: m :: r).drop (2 : Int).toNat).take (2 : Int).toNat) = n.toNat * 256 + m.toNat from by simp [rd]] at aX
    have hat := OB c k n m r hbit
    simp only [List.length_cons] at hf hu hnd
    refine JN wide w N hw hN (c :: k :: n :: m :: r) [] [] c k (n.toNat * 256 + m.toNat) rfl rfl hbit (by simp only [List.length_cons]; omega) (by simp only [List.length_cons]; omega) aX (by omega) last nd (by omega) a (by omega) _ ?_ ?_ ?_ ?_ ?_ T H c_ g1 g2 g3
    all_goals try simp only [NQ, List.length_cons, show ∀ x : List UInt8, (c :: k :: n :: m :: x).drop 4 = x from fun _ => rfl]
    ·intro q; rw [if_pos (by omega)] at hat; rw [iv hat]
    ·intro q q2; rw [if_neg (by omega)] at hat; rw [fj hat, if_pos q2]
    ·intro q q2 q3; rw [if_neg (by omega)] at hat; rw [fj hat, if_neg q2, if_pos q3]
    ·intro q q2 q3 q4; rw [if_neg (by omega)] at hat; rw [fj hat, if_neg q2, if_neg q3]; simp only [q4]
    ·intro q q2 q3 a' q4 T H c_ g1 g2 g3
     rw [if_neg (by omega)] at hat; rw [fj hat, if_neg q2, if_neg q3]; simp only [q4]
     obtain ⟨d1, d2⟩ := uQ hD (by simp; omega) q4
     exact nR wide w N hw hN f _ _ _ a' T H c_ g1 g2 g3 (by simp; omega) (by simp; omega) (by simp; omega) d1
theorem vN (b : List UInt8) (wide : Bool) (hb : b.length < 2 ^ 28) : ah G 69 [.sl 1 (byteCells b), .bool wide] [] (lZ (jV (wd wide) b)) := by
 refine ae (F := f69) rfl rfl (az 300 _ _ _ _ ?_)
 repeat' (first | refine ab ?_ | (refine aa ?_ ?_ <;> intro h))
 refine cH 300 2 [] [(70, some (_, .cells (zeroA.cellsV (.vs 300 _ 0))))] trivial ⟨⟨rfl, .refl _, LeP.nil 2, .refl _, .refl _, .refl _, .refl _, .refl _, .refl _, .refl _, .refl _, .refl _, LeP.nil 1, .refl _, .refl _, LeP.nil 1, LeP.nilV _ _ _, trivial⟩, trivial⟩ ?_
 refine ag [4, 0, 8, 6, 1, 7] [68, 70, 300] ?_
 exact nR wide (wd wide) b.length rfl (by omega) b.length b (-1) 0 zeroA _ _ _ _ _ _ (Nat.le_refl _) (by simp [zeroA]) (by simp) ⟨by simp [zeroA], by simp [zeroA], by simp [zeroA], by simp [zeroA], by simp [zeroA]⟩
end Go.AM.IR
namespace Go.AM.IR
theorem DB.ab2 {N : Nat} {a : Attrs} (h : DB N a) (hN : N ≤ 65535) (hu : a.unknown.length ≤ N) : AB a := by
 have h1 := ud a.path h.segs
 have h2 := yh a.unknown h.vals
 have h3 := h.path
 have h4 := h.comms
 have h5 := h.clusters
 have h6 : N * a.unknown.length ≤ 65535 * 65535 := Nat.mul_le_mul hN (by omega)
 exact ⟨by omega, by omega, by omega, by omega, by omega, fun t ht => by have := h.vals t ht; omega, by omega⟩
theorem Ui {a : Attrs} (h : AB a) : LenC a where
 path := h.path
 segs s hs := by
  have h1 := h.flat
  have h2 : s.as.length ≤ (bC a.path).length := by
   unfold bC
   obtain ⟨p, q, e⟩ := List.append_of_mem hs
   rw [e]; simp; omega
  omega
 comms := h.comms
 clusters := h.clusters
 unknown := h.unknown
theorem ale {a : List UInt8} {wide : Bool} (ha : a.length ≤ 65535) {e : Int} {A : Attrs} (h : jV (wd wide) a = (e, A)) : A.ok ∧ AB A := by
 unfold jV at h
 obtain ⟨r, d, u⟩ := II (N := a.length) (by unfold wd; split <;> omega) _ _ _ _ _ h (rY _) (Cy _) (by simp [zeroA]) (rY _) (Cy _)
 exact ⟨r.ok, d.ab2 ha u⟩
theorem sk : ∀ l : List Pfx, l.length ≤ (bi l).length
 | [] => Nat.zero_le _
 | p :: r => by
  have := sk r
  simp only [bi, List.flatMap_cons, List.length_append, List.length_cons, js] at *
  omega
theorem ye {w x : List Pfx} {a : Attrs} (hw : w.length < 2 ^ 40) (hx : x.length < 2 ^ 40) (ha : AB a) : LenO (bb w x a) ∧ LenB (bb w x a).attrs := ⟨⟨⟨by simp [bb, ap], hw, hx, Ui ha⟩, by simp [bb, ap, capT]⟩, dY ha⟩
theorem OW (a p q : List UInt8) (wide : Bool) (ha : a.length ≤ 65535) (hp : p.length < 2 ^ 30) (hq : q.length < 2 ^ 30) (g1 g2 g3 g4 : Nat) (T : List (Nat × AV)) (H : aq) (c : Nat) : Ev G ⟨[.code (suf 9 dh.body)], ⟨(9, .ref 97 g1 0) :: (11, .ref 113 g2 0) :: (10, .sl 1 (byteCells a)) :: (1, .bool wide) :: (4, .ref 68 g3 0) :: (5, .ref 69 g4 0) :: T, (97, some (g1, .cells [.sl 1 (byteCells p), .con (.slice none 0 0)])) :: (113, some (g2, .cells [.sl 1 (byteCells q), .con (.slice none 0 0)])) :: (68, some (g3, .cells ap.enc)) :: (69, some (g4, .cells ap.enc)) :: H, c⟩, [.cell 4 (some 27), .cell 5 (some 27), .t 6], 0⟩ (nu (JP wide a (unP p.length p) (unP q.length q))) := by
 have hp1 := Dc p (by omega)
 have hq1 := Dc q (by omega)
 have pu := sg p.length p []
 have qu := sg q.length q []
 cases hup : unP p.length p with
 | none =>
  have h0 := pu.2 hup
  rw [show i9 p.length p [] = (false, (i9 p.length p []).2.1, (i9 p.length p []).2.2) from Prod.ext h0 rfl] at hp1
  exact Tw a p q wide g1 g2 g3 g4 T H c _ _ hp1
 | some w =>
  have h0 := pu.1 w hup
  rw [h0, List.nil_append] at hp1
  cases huq : unP q.length q with
  | none =>
   have h1 := qu.2 huq
   rw [show i9 q.length q [] = (false, (i9 q.length q []).2.1, (i9 q.length q []).2.2) from Prod.ext h1 rfl] at hq1
   exact Tv a p q wide g1 g2 g3 g4 T H c _ _ _ _ hp1 hq1
  | some x =>
   have h1 := qu.1 x huq
   rw [h1, List.nil_append] at hq1
   obtain ⟨e1, o1⟩ := sj _ _ _ hup
   obtain ⟨e2, o2⟩ := sj _ _ _ huq
   have n1 := sk w
   have n2 := sk x
   rw [e1] at n1
   rw [e2] at n2
   have hok : ∀ A : Attrs, (bb w x A).okP := fun A => ⟨fun y hy => (o1 y hy).1, fun y hy => (o2 y hy).1⟩
   have hz : AB zeroA := ⟨by simp [zeroA], by simp [zeroA, bC], by simp [zeroA], by simp [zeroA], by simp [zeroA], by simp [zeroA], by simp [zeroA, fY]⟩
   refine ZC a p q wide g1 g2 g3 g4 T H c [] [] w x hp1 hq1 _ ?_
   intro g1 g3 g4 T H c
   show Ev G _ (nu (xN wide a w x))
   unfold xN
   by_cases he : a = [] ∧ x = []
   ·rw [if_pos he]
    obtain ⟨ea, ex⟩ := he
    subst ea ex
    obtain ⟨l1, l2⟩ := ye (w := w) (x := []) (by omega) (by simp) hz
    exact TF w wide g1 g3 g4 T H c (fK _ l1 l2 (hok _))
   ·rw [if_neg he]
    have hne : 0 < a.length ∨ 0 < x.length := by
     rcases Nat.eq_zero_or_pos a.length with h | h
     ·rcases Nat.eq_zero_or_pos x.length with h' | h'
      ·exact absurd ⟨List.length_eq_zero_iff.1 h, List.length_eq_zero_iff.1 h'⟩ he
      ·exact .inr h'
     ·exact .inl h
    have hd := vN a wide (by omega)
    cases hD : jV (wd wide) a with
    | mk e y =>
     rw [hD, lZ] at hd
     simp only at hd ⊢
     obtain ⟨oy, ay⟩ := ale ha hD
     by_cases e6 : e = 6
     ·rw [if_pos e6]; exact TD a w x (by omega) (by omega) hne wide e y hd g1 g3 g4 T H c e6
     ·rw [if_neg e6]
      by_cases e0 : e = 0
      ·rw [if_neg (by simp [e0])]
       refine TC a w x (by omega) (by omega) hne wide e y hd g1 g3 g4 T H c e0 _ ?_
       intro g1 g3 g4 T H c
       by_cases hx : x = []
       ·rw [if_pos hx]; subst hx
        exact TA a (by omega) (by rcases hne with h | h; exact h; simp at h) wide w y g1 g3 g4 T H c
       ·rw [if_neg hx]
        obtain ⟨l1, l2⟩ := ye (w := w) (x := x) (by omega) (by omega) ay
        exact Tz a (by omega) wide w x (by omega) (List.length_pos_iff.2 hx) y (fK _ l1 l2 (hok _)) g1 g3 g4 T H c
      ·rw [if_pos e0]; exact TE a w x (by omega) (by omega) hne wide e y hd g1 g3 g4 T H c e6 e0
theorem Zf (b : List UInt8) (hb : b.length < 2 ^ 28) (h4 : 4 ≤ b.length) (wide : Bool) : ah G 201 [.sl 1 (byteCells b), .bool wide] [] (nu (Bg wide b)) := by
 unfold Bg
 by_cases h : b.length < 4 + rd (b.take 2)
 ·rw [if_pos h]; exact NY b wide (by omega) (by omega) h
 ·rw [if_neg h]
  have l1 : (b.drop 2).length = b.length - 2 := List.length_drop
  have l3 : ((b.drop 2).drop (rd (b.take 2) + 2)).length = b.length - 2 - (rd (b.take 2) + 2) := by rw [List.length_drop, l1]
  unfold JO
  by_cases h2 : ((b.drop 2).drop (rd (b.take 2) + 2)).length < rd (((b.drop 2).drop (rd (b.take 2))).take 2)
  ·rw [if_pos h2]; exact NX b wide (by omega) _ rfl (by omega) _ rfl h2
  ·rw [if_neg h2]
   refine NW b wide (by omega) _ rfl (by omega) _ rfl (by omega) _ ?_
   intro g1 g2 g3 g4 T H c
   have hr : rd (((b.drop 2).drop (rd (b.take 2))).take 2) < 256 ^ 2 := cn (by simp; omega)
   exact OW _ _ _ wide (by rw [List.length_take]; omega) (by rw [List.length_take]; omega) (by rw [List.length_drop]; omega) g1 g2 g3 g4 T H c
end Go.AM.IR
namespace Go.AM.IR
theorem KU (c s : Int) (d : List UInt8) : LenO (bc c s d) ∧ LenB (bc c s d).attrs ∧ (bc c s d).okP := ⟨⟨⟨by simp [bc, ap], by simp [bc, ap], by simp [bc, ap], io⟩, by simp [bc, ap, capT]⟩, wt, ⟨by simp [bc, ap], by simp [bc, ap]⟩⟩
theorem aqn (b : List UInt8) (h : 19 ≤ b.length) : ∃ x y k : UInt8, (byteCells b)[16]? = some [.int .u8 x.toNat] ∧ (byteCells b)[17]? = some [.int .u8 y.toNat] ∧ (byteCells b)[18]? = some [.int .u8 k.toNat] ∧ (b.drop 16).take 2 = [x, y] ∧ (b.drop 18).take 1 = [k] ∧ mp b = k.toNat := by
 have l : (b.drop 16).length = b.length - 16 := List.length_drop
 obtain ⟨x, y, k, r, e⟩ : ∃ x y k r, b.drop 16 = x :: y :: k :: r := by
  match h : b.drop 16 with
  | x :: y :: k :: r => exact ⟨x, y, k, r, rfl⟩
  | [] => rw [h] at l; simp at l; omega
  | [_] => rw [h] at l; simp at l; omega
  | [_, _] => rw [h] at l; simp at l; omega
 have e18 : b.drop 18 = k :: r := by rw [show b.drop 18 = (b.drop 16).drop 2 from by rw [List.drop_drop], e]; rfl
 have at_ : ∀ i, b[16 + i]? = (b.drop 16)[i]? := fun i => by rw [List.getElem?_drop]
 refine ⟨x, y, k, ?_, ?_, ?_, by rw [e]; rfl, by rw [e18]; rfl, ?_⟩
 ·simp only [byteCells, List.getElem?_map]; rw [at_ 0, e]; rfl
 ·simp only [byteCells, List.getElem?_map]; rw [at_ 1, e]; rfl
 ·simp only [byteCells, List.getElem?_map]; rw [at_ 2, e]; rfl
 ·unfold mp; rw [e18]; simp [rd]
theorem NU (b : List UInt8) (hb : b.length < 2 ^ 28) (wide : Bool) : ah G 194 [.sl 1 (byteCells b), .bool wide] [] (kd (JW wide b)) := by
 unfold JW
 by_cases h : b.length < 19
 ·rw [if_pos h]; exact Sw b (by omega) wide h
 ·rw [if_neg h]
  refine Sv b (by omega) wide (by omega) _ (fun ha => ?_) (fun ha => by rw [if_pos ha])
  rw [if_neg (by rw [ha]; simp)]
  intro g1 g2 T H c
  obtain ⟨x, y, k, hx, hy, hk, e2, e1, ek⟩ := aqn b (by omega)
  rw [e2, e1, ek]
  have hn : nC b = rd ((b.drop 16).take 2) := rfl
  generalize hL : nC b = n at *
  have hr : n < 256 ^ 2 := by rw [hn]; exact cn (by simp; omega)
  by_cases q1 : n < 19
  ·rw [if_pos q1]; exact Ol b (by omega) wide (by omega) x y k hx hy hk n hn q1 g1 g2 T H c
  ·rw [if_neg q1]
   by_cases q2 : k.toNat < 1 ∨ k.toNat > 5
   ·rw [if_pos q2]; exact Oh b (by omega) wide (by omega) x y k hx hy hk n hn q1 q2 g1 g2 T H c
   ·rw [if_neg q2]
    have k1 : ¬ k.toNat < 1 := fun q => q2 (.inl q)
    have k5 : ¬ k.toNat > 5 := fun q => q2 (.inr q)
    by_cases q3 : ef (k.toNat : Nat) (n : Nat) = true
    ·rw [if_pos q3]; exact Og b (by omega) wide (by omega) x y k hx hy hk n hn q1 k1 k5 q3 g1 g2 T H c
    ·rw [if_neg q3]
     have q3' : ef (k.toNat : Nat) (n : Nat) = false := by simpa using q3
     by_cases q4 : b.length < n
     ·rw [if_pos q4]; exact Od b (by omega) wide (by omega) x y k hx hy hk n hn q1 k1 k5 q3' q4 g1 g2 T H c
     ·rw [if_neg q4]
      refine Oc b (by omega) wide (by omega) x y k hx hy hk n hn q1 k1 k5 q3' q4 _ rfl _ ?_ g1 g2 T H c
      intro g1 g2 g3 T H c
      have hd : ((b.take n).drop 19).length = n - 19 := by rw [List.length_drop, List.length_take]; omega
      generalize (b.take n).drop 19 = d at *
      simp only [ef, decide_eq_false_iff_not] at q3'
      unfold JX
      have hkk : k.toNat = 1 ∨ k.toNat = 2 ∨ k.toNat = 3 ∨ k.toNat = 4 ∨ k.toNat = 5 := by omega
      rcases hkk with hkk | hkk | hkk | hkk | hkk
      ·rw [hkk, if_pos (show ((1 : Nat) : Int) = 1 from rfl)]
       exact Ob d wide x y n _ _ _ (Zh d (by omega) (by omega)) _ (fun g1 g2 T H c => jD _ _ _ n g1 g2 T H c) g1 g2 g3 T H c
      ·rw [hkk, if_neg (show ¬ (((2 : Nat) : Int) = 1) by decide), if_pos (show ((2 : Nat) : Int) = 2 from rfl)]
       exact Oa d wide x y n _ _ _ (Zf d (by omega) (by omega) wide) _ (fun g1 g2 T H c => jD _ _ _ n g1 g2 T H c) g1 g2 g3 T H c
      ·rw [hkk, if_neg (show ¬ (((3 : Nat) : Int) = 1) by decide), if_neg (show ¬ (((3 : Nat) : Int) = 2) by decide), if_pos (show ((3 : Nat) : Int) = 3 from rfl)]
       obtain ⟨c0, s0, r, rfl⟩ : ∃ c0 s0 r, d = c0 :: s0 :: r := by
        match d, hd with
        | c0 :: s0 :: r, _ => exact ⟨c0, s0, r, rfl⟩
        | [], hd => simp at hd; omega
        | [_], hd => simp at hd; omega
       have en : nA (c0 :: s0 :: r) = bc (c0.toNat : Nat) (s0.toNat : Nat) r := by simp [nA, rd]
       rw [en]
       obtain ⟨l1, l2, l3⟩ := KU (c0.toNat : Nat) (s0.toNat : Nat) r
       have hc := fK _ l1 l2 l3
       refine N9 c0 s0 r (by simp at hd; omega) wide x y n _ hc _ (fun g1 g2 T H c => ?_) g1 g2 g3 T H c
       have := jD (bc (c0.toNat : Nat) (s0.toNat : Nat) r) (if bh (bc (c0.toNat : Nat) (s0.toNat : Nat) r) = 0 then ap else bc 1 2 [x, y]) (bh (bc (c0.toNat : Nat) (s0.toNat : Nat) r)) n g1 g2 T H c
       rw [show lW n (bc (c0.toNat : Nat) (s0.toNat : Nat) r, (if bh (bc (c0.toNat : Nat) (s0.toNat : Nat) r) = 0 then ap else bc 1 2 [x, y]), bh (bc (c0.toNat : Nat) (s0.toNat : Nat) r)) = lW n (if bh (bc (c0.toNat : Nat) (s0.toNat : Nat) r) = 0 then (bc (c0.toNat : Nat) (s0.toNat : Nat) r, ap, 0) else (ap, bc 1 2 [x, y], bh (bc (c0.toNat : Nat) (s0.toNat : Nat) r))) from by unfold lW; split <;> simp_all] at this
       exact this
      ·rw [hkk, if_neg (show ¬ (((4 : Nat) : Int) = 1) by decide), if_neg (show ¬ (((4 : Nat) : Int) = 2) by decide), if_neg (show ¬ (((4 : Nat) : Int) = 3) by decide), if_neg (fun q => absurd q.1 (by decide))]
       exact N8 d wide x y n _ (fun g1 g2 T H c => jD _ _ _ n g1 g2 T H c) g1 g2 g3 T H c
      ·rw [hkk, if_neg (show ¬ (((5 : Nat) : Int) = 1) by decide), if_neg (show ¬ (((5 : Nat) : Int) = 2) by decide), if_neg (show ¬ (((5 : Nat) : Int) = 3) by decide)]
       refine N7 d wide x y n _ (fun g1 g2 T H c => ?_) g1 g2 g3 T H c
       have := jD { ap with kind := 5 } (if d = [0, 1, 0, 1] then ap else bc 1 2 [x, y]) (if d = [0, 1, 0, 1] then 0 else 2) n g1 g2 T H c
       rw [show lW n (({ ap with kind := 5 } : PMsg), (if d = [0, 1, 0, 1] then ap else bc 1 2 [x, y]), (if d = [0, 1, 0, 1] then (0 : Int) else 2)) = lW n (if ((5 : Nat) : Int) = 5 ∧ d ≠ [0, 1, 0, 1] then (ap, bc 1 2 [x, y], 2) else ({ ap with kind := ((5 : Nat) : Int) }, ap, 0)) from by
        by_cases hz : d = [0, 1, 0, 1]
        ·simp [hz, lW]
        ·simp [hz, lW]] at this
       exact this
end Go.AM.IR
namespace Go.AM.IR
theorem nj : ah G 192 [] [] ⟨.bool true, []⟩ := KX 100000 rfl rfl (by kernel_rfl)
end Go.AM.IR
namespace Go.AM.IR
end Go.AM.IR
namespace Go.AM.IR
theorem ofN {n : Nat} (h : n < 256) : ((UInt8.ofNat n).toNat : Int) = n := by rw [show (UInt8.ofNat n).toNat = n by simp; omega]
theorem Br (done : List Cap) (x : Cap) (h1 : 1 ≤ x.code ∧ x.code ≤ 255) : byteCells (bG done) ++ [[.int .u8 x.code], [.int .u8 ((UInt8.ofNat (byteCells x.value).length).toNat : Int)]] ++ byteCells x.value = byteCells (bG (done ++ [x])) := by
 have e1 : ((UInt8.ofNat x.code.toNat).toNat : Int) = x.code := by rw [ofN (by omega)]; omega
 rw [au]
 simp only [bG, List.flatMap_append, List.flatMap_cons, List.flatMap_nil, List.append_nil, byteCells, List.map_append, List.map_cons, e1, List.append_assoc, List.cons_append, List.nil_append]
theorem rU (l : List Cap) (b : List UInt8) (hv : ∀ c ∈ l, (1 ≤ c.code ∧ c.code ≤ 255) ∧ c.value.length ≤ 255) (hcl : (bG l).length ≤ 253) (hb : b.length < 2 ^ 20) (hl : l.length < 2 ^ 40) (ln : Int) (hln : ln = l.length) : ∀ (rest done : List Cap) (g gb m mb : Nat) (es eb : List (List AV)) (T : List (Nat × AV)) (H : aq) (c : Nat) (n : Int) (e : l = done ++ rest) (hn : n = done.length) (hm : m = (bG done).length) (hes : es = byteCells (bG done)) (hmb : mb = b.length) (heb : eb = byteCells b), Ev G ⟨M8, ⟨(28, .sl 2 (l.map Cap.enc)) :: (29, .int .i64 ln) :: (30, .int .i64 n) :: (4, .vs 200 g m) :: (3, .vs 90 gb mb) :: T, (200, some (g, .vec 1 es)) :: (90, some (gb, .vec 1 eb)) :: H, c⟩, [.t 2], 0⟩ (rB (b ++ dK l))
 | [], done, g, gb, m, mb, es, eb, T, H, c, n, e, hn, hm, hes, hmb, heb => by
  have hd : l.length = done.length := by simp [e]
  have hll : (l.map Cap.enc).length = l.length := by simp
  obtain rfl : l = done := by simpa using e
  subst hm hes hmb heb
  unfold dK
  by_cases h0 : bG l = []
  ·have hz : (bG l).length = 0 := by simp [h0]
   rw [if_pos h0]
   refine evl ?_
   repeat' (first | refine ab ?_ | (refine aa ?_ ?_ <;> intro h))
   refine e7 90 ⟨_, _, _, rfl, rfl, (by simp), ?_⟩
   simp [byteCells]
  ·have hz : 0 < (bG l).length := List.length_pos_iff.2 h0
   rw [if_neg h0]
   have e1 : ((UInt8.ofNat ((bG l).length + 2)).toNat : Int) = ((bG l).length + 2 : Nat) := ofN (by omega)
   have e2 : ((UInt8.ofNat (bG l).length).toNat : Int) = ((bG l).length : Nat) := ofN (by omega)
   refine evl ?_
   repeat' (first | refine ab ?_ | (refine aa ?_ ?_ <;> intro h))
   refine e7 90 ⟨_, _, _, rfl, rfl, (by simp; omega), ?_⟩
   simp only [byteCells, List.map_append, List.map_cons, e1, e2, List.append_assoc, List.cons_append, List.nil_append]
   simp
 | x :: r, done, g, gb, m, mb, es, eb, T, H, c, n, e, hn, hm, hes, hmb, heb => by
  have hd : l.length = done.length + (r.length + 1) := by simp [e]
  have hll : (l.map Cap.enc).length = l.length := by simp
  have hx : (l.map Cap.enc)[n.toNat]? = some (Cap.enc x) := by simp [e, hn]
  obtain ⟨h1, h2⟩ := hv x (by simp [e])
  subst hm hes hmb heb
  have hcd : (bG done).length ≤ 253 := by rw [e] at hcl; simp [bG] at hcl ⊢; omega
  refine evl ?_
  repeat' (first | refine ab ?_ | (refine aa ?_ ?_ <;> intro h))
  refine ag [28, 29, 30, 4, 3] [200, 90] ?_; exact rU l b hv hcl hb hl ln hln r (done ++ [x]) _ _ _ _ _ _ _ _ _ (n + 1) (by simp [e]) (by simp [hn] <;> omega) (by simp [bG]; omega) (Br done x h1) rfl rfl
theorem xg (m : PMsg) (h : OpenOk m) (hr : okU m.router) : ah G 196 [.agg m.enc] [] (rB (dx m)) := by
 obtain ⟨c1, c2⟩ := h.caps
 obtain ⟨b1, b2⟩ := h.hold
 obtain ⟨a1, a2⟩ := h.as
 have hver := h.version
 unfold okU at hr
 have hs : 0 ≤ bI m.as ∧ bI m.as ≤ 65535 := by unfold bI; split <;> omega
 have h0 := mZ m.as
 have hp1 := cQ [UInt8.ofNat m.version.toNat] (by simp) 2 (bI m.as).toNat (by omega)
 have hp2 := cQ ([UInt8.ofNat m.version.toNat] ++ be 2 (bI m.as).toNat) (by simp) 2 m.hold.toNat (by omega)
 have hp3 := cQ ([UInt8.ofNat m.version.toNat] ++ be 2 (bI m.as).toNat ++ be 2 m.hold.toNat) (by simp) 4 m.router.toNat (by omega)
 have hcl := gz m.caps
 have hv : ∀ c ∈ m.caps, (1 ≤ c.code ∧ c.code ≤ 255) ∧ c.value.length ≤ 255 := fun c hc => ⟨c1 c hc, by have := nU hc; omega⟩
 have e1 : byteCells [UInt8.ofNat m.version.toNat] = [[.int .u8 m.version]] := by
  have : ((UInt8.ofNat m.version.toNat).toNat : Int) = m.version := by rw [ofN (by omega)]; omega
  simp only [byteCells, List.map_cons, List.map_nil, this]
 rw [e1, show (((bI m.as).toNat : Nat) : Int) = bI m.as by omega] at hp1
 rw [show ((m.hold.toNat : Nat) : Int) = m.hold by omega] at hp2
 rw [show ((m.router.toNat : Nat) : Int) = m.router by omega] at hp3
 have hl : (m.caps.map Cap.enc).length = m.caps.length := by simp
 have hlc : m.caps.length ≤ 253 := by
  have : ∀ l : List Cap, (l.length : Int) ≤ capT l := fun l => by
   induction l with
   | nil => simp [capT]
   | cons c r ih => simp only [capT, List.length_cons]; omega
  have := this m.caps; omega
 have key := rU m.caps ([UInt8.ofNat m.version.toNat] ++ be 2 (bI m.as).toNat ++ be 2 m.hold.toNat ++ be 4 m.router.toNat) hv (by omega) (by simp) (by omega) ((m.caps.map Cap.enc).length : Int) (by simp) m.caps []
 rw [show dx m = [UInt8.ofNat m.version.toNat] ++ be 2 (bI m.as).toNat ++ be 2 m.hold.toNat ++ be 4 m.router.toNat ++ dK m.caps from by simp [dx]]
 generalize bI m.as = sa at *
 refine ae (F := QP) rfl rfl (az 300 _ _ _ _ ?_)
 repeat' (first | refine ab ?_ | refine kX [] [(74, _, _)] trivial ⟨rfl, pz trivial⟩ (hp1) ?_ | refine kX [] [(80, _, _)] trivial ⟨rfl, pz trivial⟩ (hp2) ?_ | refine kX [] [(85, _, _)] trivial ⟨rfl, pz trivial⟩ (hp3) ?_ | (refine aa ?_ ?_ <;> intro h))
 refine cH 200 1 [(4, .vs 200 _ 0)] [] ⟨LeP.nilV _ _ _, trivial⟩ trivial ?_
 refine ag [28, 29, 30, 4, 3] [200, 90] ?_
 exact key _ _ _ _ _ _ _ _ _ 0 rfl rfl rfl rfl rfl rfl
end Go.AM.IR
namespace Go.AM.IR
def OX (m : PMsg) (wide : Bool) : Ret := if m.reach ≠ [] ∧ dU m.attrs wide = true then ⟨.tup [.con (.slice none 0 0), .int .i64 5], []⟩ else if (bi m.withdrawn).length > 65535 ∨ (bA m wide).length > 65535 then ⟨.tup [.con (.slice none 0 0), .int .i64 4], []⟩ else ⟨.tup [.vs 0 0 (cg m wide).length, .int .i64 0], [(false, .vec 1 (byteCells (cg m wide)))]⟩
theorem jh {n n' : Nat} {es es' : List (List AV)} (hn : n = n') (he : es = es') : (⟨.tup [.vs 0 0 n, .int .i64 0], [(false, .vec 1 es)]⟩ : Ret) = ⟨.tup [.vs 0 0 n', .int .i64 0], [(false, .vec 1 es')]⟩ := by subst hn he; rfl
theorem yb (m : PMsg) (h : UpdOk m) (ho : m.ok) (hb : AB m.attrs) (hw : m.withdrawn.length < 2 ^ 30) (hr : m.reach.length < 2 ^ 30) (wide : Bool) : ah G 197 [.agg m.enc, .bool wide] [] (OX m wide) := by
 have h1 := oH m.withdrawn (fun p hp => ⟨ho.withdrawn p hp, h.withdrawn p hp⟩) hw
 have h2 := oH m.reach (fun p hp => ⟨ho.reach p hp, h.reach p hp⟩) hr
 have l1 := ep (l := m.withdrawn) (fun p hp => by have := de (ho.withdrawn p hp) (h.withdrawn p hp); omega)
 have l2 := ep (l := m.reach) (fun p hp => by have := de (ho.reach p hp) (h.reach p hp); omega)
 have hll : (m.reach.map Pfx.enc).length = m.reach.length := by simp
 have hlm : (m.withdrawn.map Pfx.enc).length = m.withdrawn.length := by simp
 unfold OX cg
 by_cases hz : m.reach = []
 ·have hzl : m.reach.length = 0 := by simp [hz]
  have ha : bA m wide = [] := by unfold bA; rw [if_pos hz]
  rw [if_neg (fun q => q.1 hz), ha]
  have hq : bi m.reach = [] := by rw [hz]; rfl
  rw [hq] at h2 ⊢
  generalize bi m.withdrawn = g at *
  by_cases hg : g.length > 65535
  ·rw [if_pos (.inl hg)]
   refine ae (F := pH) rfl rfl (az 300 _ _ _ _ ?_)
   repeat' (first | refine ab ?_ | (refine aa ?_ ?_ <;> intro h))
   refine ax ?_; rfl
  ·rw [if_neg (by simp; omega)]
   have p1 := fw 2 g.length (by omega)
   have p2 := cQ (be 2 g.length ++ g) (by simp; omega) 2 0 (by omega)
   rw [dZ] at p2
   refine ae (F := pH) rfl rfl (az 300 _ _ _ _ ?_)
   repeat' (first | refine ab ?_ | refine kX [] [(104, _, _)] trivial ⟨rfl, pz trivial⟩ (p2) ?_ | (refine aa ?_ ?_ <;> intro h))
   refine dc [(111, _, .vec 1 _)] ⟨⟨rfl, puL, trivial⟩, rfl, rfl, (by simp), ?_⟩
   exact jh (by simp <;> omega) (by simp [byteCells])
 ·have hzl : 0 < m.reach.length := List.length_pos_iff.2 hz
  have hck := h.attrs hz
  have ha : bA m wide = fh m.attrs wide := by unfold bA; rw [if_neg hz]
  have h3 := Au m.attrs wide hb ho.attrs
  unfold sV bV at h3
  rw [if_pos hck] at h3
  rw [ha]
  have l3 := lj (ft hck) wide
  cases hbad : dU m.attrs wide
  ·rw [hbad, if_neg (by simp)] at h3
   rw [if_neg (by simp)]
   generalize fh m.attrs wide = a at *
   generalize bi m.withdrawn = g at *
   generalize bi m.reach = q at *
   by_cases hg : g.length > 65535
   ·rw [if_pos (.inl hg)]
    refine ae (F := pH) rfl rfl (az 300 _ _ _ _ ?_)
    repeat' (first | refine ab ?_ | (refine aa ?_ ?_ <;> intro h))
    refine ax ?_; rfl
   ·by_cases hga : a.length > 65535
    ·rw [if_pos (.inr hga)]
     refine ae (F := pH) rfl rfl (az 300 _ _ _ _ ?_)
     repeat' (first | refine ab ?_ | (refine aa ?_ ?_ <;> intro h))
     refine ax ?_; rfl
    ·rw [if_neg (by omega)]
     have p1 := fw 2 g.length (by omega)
     have p2 := cQ (be 2 g.length ++ g) (by simp; omega) 2 a.length (by omega)
     rw [dZ] at p2
     refine ae (F := pH) rfl rfl (az 300 _ _ _ _ ?_)
     repeat' (first | refine ab ?_ | refine kX [] [(104, _, _)] trivial ⟨rfl, pz trivial⟩ (p2) ?_ | (refine aa ?_ ?_ <;> intro h))
     refine dc [(111, _, .vec 1 _)] ⟨⟨rfl, puL, trivial⟩, rfl, rfl, (by simp), ?_⟩
     exact jh (by simp <;> omega) (by simp [byteCells])
  ·rw [hbad, if_pos rfl] at h3
   rw [if_pos ⟨hz, rfl⟩]
   generalize bi m.withdrawn = g at *
   refine ae (F := pH) rfl rfl (az 300 _ _ _ _ ?_)
   repeat' (first | refine ab ?_ | (refine aa ?_ ?_ <;> intro h))
   refine ax ?_; rfl
end Go.AM.IR
namespace Go.AM.IR
theorem lx (K : Nat) {g n n' : Nat} {es es' : List (List AV)} (hn : n = n') (he : es = es') : (⟨AV.ren (φR [(K, g, .vec 1 es)] 0) (.tup [.vs K g n, .int .i64 0]), [(false, .vec 1 es)]⟩ : Ret) = ⟨.tup [.vs 0 0 n', .int .i64 0], [(false, .vec 1 es')]⟩ := by subst hn he; simp [AV.ren, ch, φR]
def ff (j : Nat) : List UInt8 := List.replicate (16 - j) 255 ++ List.replicate j 0
theorem m9 (j : Nat) (hj : j < 16) : (byteCells (ff (j + 1))).set (16 - (j + 1)) [.int .u8 255] = byteCells (ff j) := by
 have h : j = 0 ∨ j = 1 ∨ j = 2 ∨ j = 3 ∨ j = 4 ∨ j = 5 ∨ j = 6 ∨ j = 7 ∨ j = 8 ∨ j = 9 ∨ j = 10 ∨ j = 11 ∨ j = 12 ∨ j = 13 ∨ j = 14 ∨ j = 15 := by omega
 rcases h with rfl | rfl | rfl | rfl | rfl | rfl | rfl | rfl | rfl | rfl | rfl | rfl | rfl | rfl | rfl | rfl <;> rfl
theorem pF (j : Nat) (hj : j < 16) : (byteCells (ff (j + 1)))[16 - (j + 1)]? = some [.int .u8 0] := by
 have h : j = 0 ∨ j = 1 ∨ j = 2 ∨ j = 3 ∨ j = 4 ∨ j = 5 ∨ j = 6 ∨ j = 7 ∨ j = 8 ∨ j = 9 ∨ j = 10 ∨ j = 11 ∨ j = 12 ∨ j = 13 ∨ j = 14 ∨ j = 15 := by omega
 rcases h with rfl | rfl | rfl | rfl | rfl | rfl | rfl | rfl | rfl | rfl | rfl | rfl | rfl | rfl | rfl | rfl <;> rfl
theorem ky (j : Nat) (hj : j ≤ 16) : (ff j).length = 16 := by simp [ff]; omega
def ka (k : Nat) (b : List UInt8) : Ret := ⟨.tup [.vs 0 0 (dl (19 + b.length) k ++ b).length, .int .i64 0], [(false, .vec 1 (byteCells (dl (19 + b.length) k ++ b)))]⟩
theorem wz (m : PMsg) (hk : 1 ≤ m.kind ∧ m.kind ≤ 5) (b : List UInt8) (hb : b.length ≤ 65516) : ∀ (j : Nat) (T : List (Nat × AV)) (H : aq) (c g gb mb n16 : Nat) (es eb : List (List AV)) (n : Int) (hj : j ≤ 16) (hn : n = 16 - j) (h16 : n16 = 16) (hes : es = byteCells (ff j)) (hmb : mb = b.length) (heb : eb = byteCells b),
  Ev G ⟨kz, ⟨(60, .int .i64 n) :: (10, .vs 121 g n16) :: (7, .vs 86 gb mb) :: (2, .ref 66 1 0) :: (59, .int .i64 16) :: T, (121, some (g, .vec 1 es)) :: (86, some (gb, .vec 1 eb)) :: (66, some (1, .cells m.enc)) :: H, c⟩, [.t 4, .t 5], 0⟩ (ka m.kind.toNat b)
 | 0, T, H, c, g, gb, mb, n16, es, eb, n, hj, hn, h16, hes, hmb, heb => by
  subst h16 hes hmb heb
  have hp := cQ (List.replicate 16 255) (by simp) 2 (19 + b.length) (by omega)
  have hff : ff 0 = List.replicate 16 255 := rfl
  have hk2 : ((UInt8.ofNat m.kind.toNat).toNat : Int) = m.kind := by rw [ofN (by omega)]; omega
  have hfl : (byteCells (ff 0)).length = 16 := by simp [ff]
  have hf0 : (ff 0).length = 16 := rfl
  rw [← hff] at hp
  refine evl ?_
  repeat' (first | refine ab ?_ | refine kX [] [(121, _, _)] trivial ⟨rfl, pz trivial⟩ (hp) ?_ | (refine aa ?_ ?_ <;> intro h))
  refine dc [(136, _, .vec 1 _)] ⟨⟨rfl, puL, trivial⟩, rfl, rfl, (by simp), ?_⟩
  unfold ka
  refine lx 136 ?_ ?_
  ·simp [dl, hf0] <;> omega
  ·simp [dl, hff, byteCells] <;> omega
 | j + 1, T, H, c, g, gb, mb, n16, es, eb, n, hj, hn, h16, hes, hmb, heb => by
  subst h16 hes hmb heb
  have hfl : (byteCells (ff (j + 1))).length = 16 := by rw [au, ky _ hj]
  have hnn : n.toNat = 16 - (j + 1) := by omega
  have hx : (byteCells (ff (j + 1)))[n.toNat]? = some [.int .u8 0] := by rw [hnn]; exact pF j (by omega)
  refine evl ?_
  repeat' (first | refine ab ?_ | (refine aa ?_ ?_ <;> intro h))
  refine ag [60, 10, 7, 2, 59] [121, 86, 66] ?_
  refine wz m hk b hb j _ _ _ _ _ _ _ _ _ (n + 1) (by omega) (by omega) rfl ?_ rfl rfl
  rw [← m9 j (by omega), ← hnn]; rfl
theorem wy (m : PMsg) (hk : 1 ≤ m.kind ∧ m.kind ≤ 5) (b : List UInt8) (hb : b.length ≤ 65516) : ∀ (j : Nat) (T : List (Nat × AV)) (H : aq) (c g gb mb n16 : Nat) (es eb : List (List AV)) (n : Int) (hj : j ≤ 16) (hn : n = 16 - j) (h16 : n16 = 16) (hes : es = byteCells (ff j)) (hmb : mb = b.length) (heb : eb = byteCells b),
  Ev G ⟨kz, ⟨(60, .int .i64 n) :: (10, .vs 121 g n16) :: (7, .vs 92 gb mb) :: (2, .ref 66 1 0) :: (59, .int .i64 16) :: T, (121, some (g, .vec 1 es)) :: (92, some (gb, .vec 1 eb)) :: (66, some (1, .cells m.enc)) :: H, c⟩, [.t 4, .t 5], 0⟩ (ka m.kind.toNat b)
 | 0, T, H, c, g, gb, mb, n16, es, eb, n, hj, hn, h16, hes, hmb, heb => by
  subst h16 hes hmb heb
  have hp := cQ (List.replicate 16 255) (by simp) 2 (19 + b.length) (by omega)
  have hff : ff 0 = List.replicate 16 255 := rfl
  have hk2 : ((UInt8.ofNat m.kind.toNat).toNat : Int) = m.kind := by rw [ofN (by omega)]; omega
  have hfl : (byteCells (ff 0)).length = 16 := by simp [ff]
  have hf0 : (ff 0).length = 16 := rfl
  rw [← hff] at hp
  refine evl ?_
  repeat' (first | refine ab ?_ | refine kX [] [(121, _, _)] trivial ⟨rfl, pz trivial⟩ (hp) ?_ | (refine aa ?_ ?_ <;> intro h))
  refine dc [(136, _, .vec 1 _)] ⟨⟨rfl, puL, trivial⟩, rfl, rfl, (by simp), ?_⟩
  unfold ka
  refine lx 136 ?_ ?_
  ·simp [dl, hf0] <;> omega
  ·simp [dl, hff, byteCells] <;> omega
 | j + 1, T, H, c, g, gb, mb, n16, es, eb, n, hj, hn, h16, hes, hmb, heb => by
  subst h16 hes hmb heb
  have hfl : (byteCells (ff (j + 1))).length = 16 := by rw [au, ky _ hj]
  have hnn : n.toNat = 16 - (j + 1) := by omega
  have hx : (byteCells (ff (j + 1)))[n.toNat]? = some [.int .u8 0] := by rw [hnn]; exact pF j (by omega)
  refine evl ?_
  repeat' (first | refine ab ?_ | (refine aa ?_ ?_ <;> intro h))
  refine ag [60, 10, 7, 2, 59] [121, 92, 66] ?_
  refine wy m hk b hb j _ _ _ _ _ _ _ _ _ (n + 1) (by omega) (by omega) rfl ?_ rfl rfl
  rw [← m9 j (by omega), ← hnn]; rfl
theorem uh (m : PMsg) (hk : 1 ≤ m.kind ∧ m.kind ≤ 5) (b : List UInt8) (hb : b.length ≤ 65516) : ∀ (j : Nat) (T : List (Nat × AV)) (H : aq) (c g gb mb n16 : Nat) (es eb : List (List AV)) (n : Int) (hj : j ≤ 16) (hn : n = 16 - j) (h16 : n16 = 16) (hes : es = byteCells (ff j)) (hmb : mb = b.length) (heb : eb = byteCells b),
  Ev G ⟨kz, ⟨(60, .int .i64 n) :: (10, .vs 121 g n16) :: (7, .vs 107 gb mb) :: (2, .ref 66 1 0) :: (59, .int .i64 16) :: T, (121, some (g, .vec 1 es)) :: (107, some (gb, .vec 1 eb)) :: (66, some (1, .cells m.enc)) :: H, c⟩, [.t 4, .t 5], 0⟩ (ka m.kind.toNat b)
 | 0, T, H, c, g, gb, mb, n16, es, eb, n, hj, hn, h16, hes, hmb, heb => by
  subst h16 hes hmb heb
  have hp := cQ (List.replicate 16 255) (by simp) 2 (19 + b.length) (by omega)
  have hff : ff 0 = List.replicate 16 255 := rfl
  have hk2 : ((UInt8.ofNat m.kind.toNat).toNat : Int) = m.kind := by rw [ofN (by omega)]; omega
  have hfl : (byteCells (ff 0)).length = 16 := by simp [ff]
  have hf0 : (ff 0).length = 16 := rfl
  rw [← hff] at hp
  refine evl ?_
  repeat' (first | refine ab ?_ | refine kX [] [(121, _, _)] trivial ⟨rfl, pz trivial⟩ (hp) ?_ | (refine aa ?_ ?_ <;> intro h))
  refine dc [(136, _, .vec 1 _)] ⟨⟨rfl, puL, trivial⟩, rfl, rfl, (by simp), ?_⟩
  unfold ka
  refine lx 136 ?_ ?_
  ·simp [dl, hf0] <;> omega
  ·simp [dl, hff, byteCells] <;> omega
 | j + 1, T, H, c, g, gb, mb, n16, es, eb, n, hj, hn, h16, hes, hmb, heb => by
  subst h16 hes hmb heb
  have hfl : (byteCells (ff (j + 1))).length = 16 := by rw [au, ky _ hj]
  have hnn : n.toNat = 16 - (j + 1) := by omega
  have hx : (byteCells (ff (j + 1)))[n.toNat]? = some [.int .u8 0] := by rw [hnn]; exact pF j (by omega)
  refine evl ?_
  repeat' (first | refine ab ?_ | (refine aa ?_ ?_ <;> intro h))
  refine ag [60, 10, 7, 2, 59] [121, 107, 66] ?_
  refine uh m hk b hb j _ _ _ _ _ _ _ _ _ (n + 1) (by omega) (by omega) rfl ?_ rfl rfl
  rw [← m9 j (by omega), ← hnn]; rfl
theorem ug (m : PMsg) (hk : 1 ≤ m.kind ∧ m.kind ≤ 5) (b : List UInt8) (hb : b.length ≤ 65516) : ∀ (j : Nat) (T : List (Nat × AV)) (H : aq) (c g gb mb n16 : Nat) (es eb : List (List AV)) (n : Int) (hj : j ≤ 16) (hn : n = 16 - j) (h16 : n16 = 16) (hes : es = byteCells (ff j)) (hmb : mb = b.length) (heb : eb = byteCells b),
  Ev G ⟨kz, ⟨(60, .int .i64 n) :: (10, .vs 121 g n16) :: (7, .vs 113 gb mb) :: (2, .ref 66 1 0) :: (59, .int .i64 16) :: T, (121, some (g, .vec 1 es)) :: (113, some (gb, .vec 1 eb)) :: (66, some (1, .cells m.enc)) :: H, c⟩, [.t 4, .t 5], 0⟩ (ka m.kind.toNat b)
 | 0, T, H, c, g, gb, mb, n16, es, eb, n, hj, hn, h16, hes, hmb, heb => by
  subst h16 hes hmb heb
  have hp := cQ (List.replicate 16 255) (by simp) 2 (19 + b.length) (by omega)
  have hff : ff 0 = List.replicate 16 255 := rfl
  have hk2 : ((UInt8.ofNat m.kind.toNat).toNat : Int) = m.kind := by rw [ofN (by omega)]; omega
  have hfl : (byteCells (ff 0)).length = 16 := by simp [ff]
  have hf0 : (ff 0).length = 16 := rfl
  rw [← hff] at hp
  refine evl ?_
  repeat' (first | refine ab ?_ | refine kX [] [(121, _, _)] trivial ⟨rfl, pz trivial⟩ (hp) ?_ | (refine aa ?_ ?_ <;> intro h))
  refine dc [(136, _, .vec 1 _)] ⟨⟨rfl, puL, trivial⟩, rfl, rfl, (by simp), ?_⟩
  unfold ka
  refine lx 136 ?_ ?_
  ·simp [dl, hf0] <;> omega
  ·simp [dl, hff, byteCells] <;> omega
 | j + 1, T, H, c, g, gb, mb, n16, es, eb, n, hj, hn, h16, hes, hmb, heb => by
  subst h16 hes hmb heb
  have hfl : (byteCells (ff (j + 1))).length = 16 := by rw [au, ky _ hj]
  have hnn : n.toNat = 16 - (j + 1) := by omega
  have hx : (byteCells (ff (j + 1)))[n.toNat]? = some [.int .u8 0] := by rw [hnn]; exact pF j (by omega)
  refine evl ?_
  repeat' (first | refine ab ?_ | (refine aa ?_ ?_ <;> intro h))
  refine ag [60, 10, 7, 2, 59] [121, 113, 66] ?_
  refine ug m hk b hb j _ _ _ _ _ _ _ _ _ (n + 1) (by omega) (by omega) rfl ?_ rfl rfl
  rw [← m9 j (by omega), ← hnn]; rfl
theorem uf (m : PMsg) (hk : 1 ≤ m.kind ∧ m.kind ≤ 5) (b : List UInt8) (hb : b.length ≤ 65516) : ∀ (j : Nat) (T : List (Nat × AV)) (H : aq) (c g gb mb n16 : Nat) (es eb : List (List AV)) (n : Int) (hj : j ≤ 16) (hn : n = 16 - j) (h16 : n16 = 16) (hes : es = byteCells (ff j)) (hmb : mb = b.length) (heb : eb = byteCells b),
  Ev G ⟨kz, ⟨(60, .int .i64 n) :: (10, .vs 121 g n16) :: (7, .vs 200 gb mb) :: (2, .ref 66 1 0) :: (59, .int .i64 16) :: T, (121, some (g, .vec 1 es)) :: (200, some (gb, .vec 1 eb)) :: (66, some (1, .cells m.enc)) :: H, c⟩, [.t 4, .t 5], 0⟩ (ka m.kind.toNat b)
 | 0, T, H, c, g, gb, mb, n16, es, eb, n, hj, hn, h16, hes, hmb, heb => by
  subst h16 hes hmb heb
  have hp := cQ (List.replicate 16 255) (by simp) 2 (19 + b.length) (by omega)
  have hff : ff 0 = List.replicate 16 255 := rfl
  have hk2 : ((UInt8.ofNat m.kind.toNat).toNat : Int) = m.kind := by rw [ofN (by omega)]; omega
  have hfl : (byteCells (ff 0)).length = 16 := by simp [ff]
  have hf0 : (ff 0).length = 16 := rfl
  rw [← hff] at hp
  refine evl ?_
  repeat' (first | refine ab ?_ | refine kX [] [(121, _, _)] trivial ⟨rfl, pz trivial⟩ (hp) ?_ | (refine aa ?_ ?_ <;> intro h))
  refine dc [(136, _, .vec 1 _)] ⟨⟨rfl, puL, trivial⟩, rfl, rfl, (by simp), ?_⟩
  unfold ka
  refine lx 136 ?_ ?_
  ·simp [dl, hf0] <;> omega
  ·simp [dl, hff, byteCells] <;> omega
 | j + 1, T, H, c, g, gb, mb, n16, es, eb, n, hj, hn, h16, hes, hmb, heb => by
  subst h16 hes hmb heb
  have hfl : (byteCells (ff (j + 1))).length = 16 := by rw [au, ky _ hj]
  have hnn : n.toNat = 16 - (j + 1) := by omega
  have hx : (byteCells (ff (j + 1)))[n.toNat]? = some [.int .u8 0] := by rw [hnn]; exact pF j (by omega)
  refine evl ?_
  repeat' (first | refine ab ?_ | (refine aa ?_ ?_ <;> intro h))
  refine ag [60, 10, 7, 2, 59] [121, 200, 66] ?_
  refine uf m hk b hb j _ _ _ _ _ _ _ _ _ (n + 1) (by omega) (by omega) rfl ?_ rfl rfl
  rw [← m9 j (by omega), ← hnn]; rfl
theorem dg {m : PMsg} {wide : Bool} (h : bR m wide = 0) : i3 m wide = ⟨.tup [.vs 0 0 (fD m wide).length, .int .i64 0], [(false, .vec 1 (byteCells (fD m wide)))]⟩ := by unfold i3; rw [if_pos h]
theorem fT {m : PMsg} {wide : Bool} {e : Int} (h : bR m wide = e) (he : e ≠ 0) : i3 m wide = ⟨.tup [.con (.slice none 0 0), .int .i64 e], []⟩ := by unfold i3; rw [h, if_neg he]
theorem um {m : PMsg} {wide : Bool} (h : bh m ≠ 0) : bR m wide = bh m := by unfold bR; rw [if_pos h]
theorem Az {m : PMsg} {wide : Bool} (h : bh m = 0) (hb : jZ m wide) : bR m wide = 5 := by unfold bR; rw [if_neg (by simp [h]), if_pos hb]
theorem pW {m : PMsg} {wide : Bool} (h : bh m = 0) (hb : ¬ jZ m wide) (hl : 19 + (bv m wide).length > 65535) : bR m wide = 4 := by unfold bR; rw [if_neg (by simp [h]), if_neg hb, if_pos hl]
theorem jB (m : PMsg) (h : AM m) (ho : m.ok) (hw : m.withdrawn.length < 2 ^ 30) (hr : m.reach.length < 2 ^ 30) (wide : Bool) : ah G 193 [.agg m.enc, .bool wide] [] (i3 m wide) := by
 have hc := fK m h.lenO (dY h.attrs) ⟨ho.withdrawn, ho.reach⟩
 by_cases h0 : bh m = 0
 ·rw [h0] at hc
  obtain ⟨k1, k2, _⟩ := du h0
  have hk : m.kind = 1 ∨ m.kind = 2 ∨ m.kind = 3 ∨ m.kind = 4 ∨ m.kind = 5 := by omega
  rcases hk with hk | hk | hk | hk | hk
  ·have ok := qF h0 hk
   have h1 := xg m ok ho.router
   have hl := lR ok
   have hb : bv m wide = dx m := by unfold bv; rw [if_pos hk]
   rw [dg (d6 h0 (fun q => by have := q.1; omega) (by rw [hb]; omega)), fD, hb]
   have key := wz m ⟨k1, k2⟩ (dx m) (by omega) 16
   generalize dx m = b at *
   refine ae (F := lY) rfl rfl (az 300 _ _ _ _ ?_)
   repeat' (first | refine ab ?_ | (refine aa ?_ ?_ <;> intro h))
   refine ag [60, 10, 7, 2, 59] [121, 86, 66] ?_
   exact key _ _ _ _ _ _ _ _ _ 0 (by omega) (by omega) rfl rfl rfl rfl
  ·have ok := ib h0 hk
   have h1 := yb m ok ho h.attrs hw hr wide
   have hb : bv m wide = cg m wide := by unfold bv; rw [if_neg (by omega), if_pos hk]
   unfold OX at h1
   by_cases hbd : m.reach ≠ [] ∧ dU m.attrs wide = true
   ·rw [if_pos hbd] at h1
    rw [fT (Az h0 ⟨hk, hbd⟩) (by decide)]
    refine ae (F := lY) rfl rfl (az 300 _ _ _ _ ?_)
    repeat' (first | refine ab ?_ | (refine aa ?_ ?_ <;> intro h))
    refine ax ?_; rfl
   ·rw [if_neg hbd] at h1
    have hlen : (cg m wide).length = 4 + (bi m.withdrawn).length + (bA m wide).length + (bi m.reach).length := by unfold cg; simp; omega
    by_cases hl : 19 + (cg m wide).length > 65535
    ·rw [fT (pW h0 (fun q => hbd q.2) (by rw [hb]; exact hl)) (by decide)]
     by_cases hl2 : (bi m.withdrawn).length > 65535 ∨ (bA m wide).length > 65535
     ·rw [if_pos hl2] at h1
      refine ae (F := lY) rfl rfl (az 300 _ _ _ _ ?_)
      repeat' (first | refine ab ?_ | (refine aa ?_ ?_ <;> intro h))
      refine ax ?_; rfl
     ·rw [if_neg hl2] at h1
      have l2 := ep (l := m.reach) (fun p hp => by have := de (ho.reach p hp) (ok.reach p hp); omega)
      have hup : (cg m wide).length < 2 ^ 40 := by omega
      clear hlen l2 hl2
      generalize cg m wide = b at *
      refine ae (F := lY) rfl rfl (az 300 _ _ _ _ ?_)
      repeat' (first | refine ab ?_ | (refine aa ?_ ?_ <;> intro h))
      refine ax ?_; rfl
    ·rw [dg (d6 h0 (fun q => hbd q.2) (by rw [hb]; omega)), fD, hb]
     rw [if_neg (by omega)] at h1
     have key := wy m ⟨k1, k2⟩ (cg m wide) (by omega) 16
     clear hlen
     generalize cg m wide = b at *
     refine ae (F := lY) rfl rfl (az 300 _ _ _ _ ?_)
     repeat' (first | refine ab ?_ | (refine aa ?_ ?_ <;> intro h))
     refine ag [60, 10, 7, 2, 59] [121, 92, 66] ?_
     exact key _ _ _ _ _ _ _ _ _ 0 (by omega) (by omega) rfl rfl rfl rfl
  ·have ok := u5 h0 hk
   have hb : bv m wide = eU m := by unfold bv; rw [if_neg (by omega), if_neg (by omega), if_pos hk]
   have hl : (eU m).length = m.data.length + 2 := by simp [eU]
   have hd := ok.data
   obtain ⟨c1, c2⟩ := ok.code
   obtain ⟨s1, s2⟩ := ok.sub
   have e1 : ((UInt8.ofNat m.code.toNat).toNat : Int) = m.code := by rw [ofN (by omega)]; omega
   have e2 : ((UInt8.ofNat m.sub.toNat).toNat : Int) = m.sub := by rw [ofN (by omega)]; omega
   have hbl : (byteCells m.data).length = m.data.length := by simp
   rw [dg (d6 h0 (fun q => by have := q.1; omega) (by rw [hb]; omega)), fD, hb]
   have key := uh m ⟨k1, k2⟩ (eU m) (by omega) 16
   refine ae (F := lY) rfl rfl (az 300 _ _ _ _ ?_)
   repeat' (first | refine ab ?_ | (refine aa ?_ ?_ <;> intro h))
   refine ag [60, 10, 7, 2, 59] [121, 107, 66] ?_
   refine key _ _ _ _ _ _ _ _ _ 0 (by omega) (by omega) rfl rfl (by simp [eU] <;> omega) ?_
   simp only [eU, byteCells, List.map_cons, e1, e2]; rfl
  ·have hb : bv m wide = [] := by unfold bv; rw [if_neg (by omega), if_neg (by omega), if_neg (by omega), if_neg (by omega)]
   rw [dg (d6 h0 (fun q => by have := q.1; omega) (by rw [hb]; simp)), fD, hb]
   have key := uf m ⟨k1, k2⟩ [] (by simp) 16
   refine ae (F := lY) rfl rfl (az 300 _ _ _ _ ?_)
   repeat' (first | refine ab ?_ | (refine aa ?_ ?_ <;> intro h))
   refine cH 200 1 [(7, .vs 200 _ 0)] [] ⟨LeP.nilV _ _ _, trivial⟩ trivial ?_
   refine ag [60, 10, 7, 2, 59] [121, 200, 66] ?_
   exact key _ _ _ _ _ _ _ _ _ 0 (by omega) (by omega) rfl rfl rfl rfl
  ·have hb : bv m wide = [0, 1, 0, 1] := by unfold bv; rw [if_neg (by omega), if_neg (by omega), if_neg (by omega), if_pos hk]
   rw [dg (d6 h0 (fun q => by have := q.1; omega) (by rw [hb]; simp)), fD, hb]
   have key := ug m ⟨k1, k2⟩ [0, 1, 0, 1] (by simp) 16
   refine ae (F := lY) rfl rfl (az 300 _ _ _ _ ?_)
   repeat' (first | refine ab ?_ | (refine aa ?_ ?_ <;> intro h))
   refine ag [60, 10, 7, 2, 59] [121, 113, 66] ?_
   exact key _ _ _ _ _ _ _ _ _ 0 (by omega) (by omega) rfl rfl rfl rfl
 ·rw [fT (um h0) h0]
  generalize bh m = k at *
  refine ae (F := lY) rfl rfl (az 300 _ _ _ _ ?_)
  repeat' (first | refine ab ?_ | (refine aa ?_ ?_ <;> intro h))
  refine ax ?_; rfl
end Go.AM.IR
namespace Go.AM.IR
end Go.AM.IR
namespace Go.AM.IR
theorem Td (m : PMsg) (h : AM m) (ho : m.ok) (hw : m.withdrawn.length < 2 ^ 30) (hr : m.reach.length < 2 ^ 30) (h0 : bR m true = 0) : ah G 202 [.agg m.enc] [] ⟨.agg m.enc, []⟩ := by
 have he := jB m h ho hw hr true
 rw [dg h0] at he
 have hb := N5 h0 ho []
 rw [List.append_nil] at hb
 have hlen : (fD m true).length ≤ 65535 := by have := (jk h0).2.2; rw [rF]; omega
 have hd := NU (fD m true) (by omega) true
 rw [hb] at hd
 unfold kd at hd
 simp only at hd
 generalize fD m true = B at *
 have hBl := au B
 refine ae (F := gj) rfl rfl ?_
 refine aG (b := sfy 1 gj.body) ?_
 refine wd1 ?_
 repeat' (first | refine ab ?_ | (refine aa ?_ ?_ <;> intro h))
 refine aG (b := sfy 2 gj.body) ?_
 refine wd1 ?_
 repeat' (first | refine ab ?_ | (refine aa ?_ ?_ <;> intro h))
 refine d8 [(76, _, _)] [3, 4, 1, 2] [65, 66] ⟨rfl, frP, trivial⟩ ?_; repeat ((conv => whnf); first | refine frA ?_ | intro T H)
 refine wk3 ?_
 repeat' (first | refine ab ?_ | (refine aa ?_ ?_ <;> intro h))
 refine ax ?_
 repeat' (first | exact trivial | refine And.intro ?_ ?_)
 all_goals first | rfl | simp [aZ, AV.pure] | trace_state
theorem aqm (m : PMsg) (h : AM m) (ho : m.ok) (hw : m.withdrawn.length < 2 ^ 30) (hr : m.reach.length ≤ 1) (h0 : bR m true ≠ 0) : ah G 202 [.agg m.enc] [] ⟨.agg m.enc, []⟩ := by
 have he := jB m h ho hw (by omega) true
 rw [fT rfl h0] at he
 have hwl : (m.withdrawn.map Pfx.enc).length = m.withdrawn.length := by simp
 have hrl : (m.reach.map Pfx.enc).length = m.reach.length := by simp
 generalize bR m true = e at *
 refine ae (F := gj) rfl rfl ?_
 refine aG (b := sfy 1 gj.body) ?_
 refine wd1 ?_
 repeat' (first | refine ab ?_ | (refine aa ?_ ?_ <;> intro h))
 refine aG (b := sfy 2 gj.body) ?_
 refine wd1 ?_
 repeat' (first | refine ab ?_ | (refine aa ?_ ?_ <;> intro h))
 refine aG (b := sfy 3 gj.body) ?_
 refine wd1 ?_
 repeat' (first | refine ab ?_ | (refine aa ?_ ?_ <;> intro h))
 refine aG (b := sfy 4 gj.body) ?_
 refine wd1 ?_
 repeat' (first | refine ab ?_ | (refine aa ?_ ?_ <;> intro h))
 refine aG (b := sfy 5 gj.body) ?_
 refine wd1 ?_
 repeat' (first | refine ab ?_ | (refine aa ?_ ?_ <;> intro h))
 refine aG (b := sfy 6 gj.body) ?_
 refine wd1 ?_
 repeat' (first | refine ab ?_ | (refine aa ?_ ?_ <;> intro h))
 refine aG (b := sfy 7 gj.body) ?_
 refine wd1 ?_
 repeat' (first | refine ab ?_ | (refine aa ?_ ?_ <;> intro h))
 refine d8 [(103, _, _), (108, _, _)] [1, 2, 9] [65, 66, 73] ⟨rfl, frP, rfl, frP, trivial⟩ ?_; repeat ((conv => whnf); first | refine frA ?_ | intro T H)
 refine wk3 ?_
 repeat' (first | refine ab ?_ | (refine aa ?_ ?_ <;> intro h))
 refine ax ?_
 repeat' (first | exact trivial | refine And.intro ?_ ?_)
 all_goals first | rfl | simp [aZ, AV.pure] | trace_state
end Go.AM.IR
namespace Go.AM.IR
def uW (p : Pfx) (a : Attrs) : List AV := [.int .i64 2, .int .i64 0, .int .i64 0, .int .i64 0, .int .u32 0, .con (.slice none 0 0), .con (.slice none 0 0), .int .i64 a.origin, .sl 2 (a.path.map Seg.enc), .int .u32 a.nextHop, .bool a.hasMED, .int .i64 a.med, .bool a.hasPref, .int .i64 a.pref, .bool a.atomic, .bool a.hasAggr, .int .i64 a.aggrAS, .int .u32 a.aggrAddr, .sl 1 (a.comms.map bf), .bool a.hasOrig, .int .u32 a.orig, .sl 1 (a.clusters.map bf), .sl 2 (a.unknown.map TLV.enc), .sl 2 [Pfx.enc p], .int .i64 0, .int .i64 0, .con (.slice none 0 0)]
theorem IG (p : Pfx) (a : Attrs) (h : ah G 202 [.agg (bb [] [p] a).enc] [] ⟨.agg (bb [] [p] a).enc, []⟩) : ah G 202 [.agg (uW p a)] [] ⟨.agg (bb [] [p] a).enc, []⟩ :=
 iq rfl h ⟨LeP.agg leA, trivial⟩
theorem ZP (p : Pfx) (a : Attrs) : aZ [.agg (uW p a)] = true := by simp [uW, aZ, ba, AV.pure, Pfx.enc]
theorem encP (m : PMsg) : (AV.agg m.enc).pure = true := by simp [PMsg.enc, Attrs.enc, aZ, ba, AV.pure]
theorem aql (w r : List Pfx) (p q : Pfx) (a : Attrs) (h : AM (bb w (p :: q :: r) a)) (ho : (bb w (p :: q :: r) a).ok) (hw : w.length < 2 ^ 30) (hr : r.length < 2 ^ 29) (h0 : bR (bb w (p :: q :: r) a) true ≠ 0) (ih : ah G 202 [.agg (bb [] [p] a).enc] [] ⟨.agg (bb [] [p] a).enc, []⟩) : ah G 202 [.agg (bb w (p :: q :: r) a).enc] [] ⟨.agg (bb w (p :: q :: r) a).enc, []⟩ := by
 have he := jB (bb w (p :: q :: r) a) h ho hw (by simp [bb]; omega) true
 rw [fT rfl h0] at he
 have hwl : ((bb w (p :: q :: r) a).withdrawn.map Pfx.enc).length = w.length := by simp [bb]
 have hrl : ((bb w (p :: q :: r) a).reach.map Pfx.enc).length = r.length + 2 := by simp [bb]
 have hx := IG p a ih
 generalize bR (bb w (p :: q :: r) a) true = e at *
 refine ae (F := gj) rfl rfl ?_
 refine aG (b := sfy 1 gj.body) ?_
 refine wd1 ?_
 repeat' (first | refine ab ?_ | (refine aa ?_ ?_ <;> intro h))
 refine aG (b := sfy 2 gj.body) ?_
 refine wd1 ?_
 repeat' (first | refine ab ?_ | (refine aa ?_ ?_ <;> intro h))
 refine aG (b := sfy 3 gj.body) ?_
 refine wd1 ?_
 repeat' (first | refine ab ?_ | (refine aa ?_ ?_ <;> intro h))
 refine aG (b := sfy 4 gj.body) ?_
 refine wd1 ?_
 repeat' (first | refine ab ?_ | (refine aa ?_ ?_ <;> intro h))
 refine aG (b := sfy 5 gj.body) ?_
 refine wd1 ?_
 repeat' (first | refine ab ?_ | refine nV hx ?_ (ZP p a) (encP _) | (refine aa ?_ ?_ <;> intro h))
 refine aG (b := sfy 6 gj.body) ?_
 refine wd1 ?_
 repeat' (first | refine ab ?_ | (refine aa ?_ ?_ <;> intro h))
 refine aG (b := sfy 7 gj.body) ?_
 refine wd1 ?_
 repeat' (first | refine ab ?_ | (refine aa ?_ ?_ <;> intro h))
 refine d8 [(103, _, _), (108, _, _)] [1, 2, 9] [65, 66, 73] ⟨rfl, frP, rfl, frP, trivial⟩ ?_; repeat ((conv => whnf); first | refine frA ?_ | intro T H)
 refine wk3 ?_
 repeat' (first | refine ab ?_ | (refine aa ?_ ?_ <;> intro h))
 refine ax ?_
 repeat' (first | exact trivial | refine And.intro ?_ ?_)
 all_goals first | rfl | simp [aZ, AV.pure] | trace_state
end Go.AM.IR
namespace Go.AM.IR
theorem Jo (p : Pfx) (l : List Pfx) : ((bi (p :: l)).length : Int) = bM p + (bi l).length := by
 have := js p
 have e : bi (p :: l) = j6 p ++ bi l := by simp [bi]
 rw [e, List.length_append, this]; unfold bM; omega
theorem zf : ∀ (l : List Pfx) (bg : Int), cA bg l ≠ 0 → ((bi (l.take (cA bg l))).length : Int) ≤ bg
 | [], bg, h => by simp [cA] at h
 | p :: r, bg, h => by
  rw [cA] at h ⊢
  split
  ·rename_i q; simp [q] at h
  ·rw [List.take_succ_cons, Jo]
   by_cases h0 : cA (bg - bM p) r = 0
   ·rw [h0]; simp [bi]; omega
   ·have := zf r _ h0; omega
theorem KF : ∀ (l : List Pfx) (p : Option Pfx), br p l = 0 → br none l = 0
 | [], _, _ => rfl
 | x :: r, p, h => by
  unfold br at h ⊢
  split at h
  ·cases h
  ·split at h
   ·cases h
   ·rename_i hv _
    rw [if_neg hv]
    simp only [Option.any_none, Bool.false_eq_true, if_false]
    exact h
theorem wh : ∀ (l : List Pfx) (p : Option Pfx) (k : Nat), br p l = 0 → br none (l.drop k) = 0
 | [], _, k, _ => by simp [br]
 | x :: r, p, 0, h => KF _ p h
 | x :: r, p, k + 1, h => by
  unfold br at h
  split at h
  ·cases h
  ·split at h
   ·cases h
   ·exact wh r _ k h
theorem wg : ∀ (l : List Pfx) (p : Option Pfx) (k : Nat), br p l = 0 → br p (l.take k) = 0
 | [], _, k, _ => by simp [br]
 | x :: r, p, 0, h => by simp [br]
 | x :: r, p, k + 1, h => by
  rw [List.take_succ_cons]
  unfold br at h ⊢
  split at h
  ·cases h
  ·split at h
   ·cases h
   ·rename_i h1 h2
    rw [if_neg h1, if_neg h2]
    exact wg r _ k h
theorem mR (bg : Int) : ∀ (f : Nat) (l : List Pfx) (L : List (List Pfx)), br none l = 0 → eY bg f l = some L → L.flatten = l ∧ ∀ c ∈ L, c ≠ [] ∧ br none c = 0 ∧ ((bi c).length : Int) ≤ bg
 | f, [], L, _, h => by
  obtain rfl : [] = L := by cases f <;> exact Option.some.inj h
  simp
 | 0, p :: r, L, _, h => by cases h
 | f + 1, p :: r, L, hp, h => by
  rw [eY] at h
  split at h
  ·cases h
  ·rename_i hk
   obtain ⟨L', h1, rfl⟩ := Option.map_eq_some_iff.1 h
   obtain ⟨i1, i2⟩ := mR bg f _ L' (wh _ none _ hp) h1
   refine ⟨by rw [List.flatten_cons, i1, List.take_append_drop], fun c hc => ?_⟩
   rcases List.mem_cons.1 hc with rfl | hc
   ·refine ⟨?_, wg _ none _ hp, zf _ _ hk⟩
    cases hf : cA bg (p :: r) with
    | zero => exact absurd hf hk
    | succ k => simp
   ·exact i2 c hc
theorem xv (l : List Pfx) : nT [] l = false := by unfold nT; cases l <;> rfl
theorem vO (l : List Pfx) : nT l [] = false := by unfold nT; cases l <;> rfl
theorem Zm {l : List Pfx} (h : br none l = 0) : bh (bb l [] zeroA) = 0 := by
 have hu : eE (bb l [] zeroA) = true := by simp [eE, unO, unU, unN, bb, ap]
 unfold bh
 rw [if_neg (by simp [bb]), if_neg (by simp [hu]), if_neg (by simp [bb]), if_pos (by simp [bb])]
 unfold fu
 rw [show (bb l [] zeroA).withdrawn = l from rfl, show (bb l [] zeroA).reach = [] from rfl, if_neg (by simp [h]), if_neg (by simp [br]), vO]
 simp [gm, bb]
theorem Zl {l : List Pfx} {a : Attrs} (hl : l ≠ []) (h : br none l = 0) (ha : bW a = 0) : bh (bb [] l a) = 0 := by
 have hu : eE (bb [] l a) = true := by simp [eE, unO, unU, unN, bb, ap]
 unfold bh
 rw [if_neg (by simp [bb]), if_neg (by simp [hu]), if_neg (by simp [bb]), if_pos (by simp [bb])]
 unfold fu
 rw [show (bb [] l a).withdrawn = [] from rfl, show (bb [] l a).reach = l from rfl, if_neg (by simp [br]), if_neg (by simp [h]), xv]
 have : l.length > 0 := List.length_pos_iff.2 hl
 simp [gm, bb, this, ha]
end Go.AM.IR
namespace Go.AM.IR
theorem ald {l : List Pfx} (h : br none l = 0) (hl : ((bi l).length : Int) ≤ 65512) (wide : Bool) : bR (bb l [] zeroA) wide = 0 := by
 refine d6 (Zm h) (fun q => q.2.1 rfl) ?_
 rw [show bv (bb l [] zeroA) wide = cg (bb l [] zeroA) wide from by simp [bv, bb]]
 have hp : (bi ([] : List Pfx)).length = 0 := rfl
 simp only [cg, bA, bb, ap, if_true, List.length_append, bu, hp, List.length_nil]
 omega
theorem alc {l : List Pfx} {a : Attrs} (hn : l ≠ []) (h : br none l = 0) (ha : bW a = 0) {wide : Bool} (hb : dU a wide = false) (hs : ((bi l).length : Int) ≤ 65512 - ((fh a wide).length : Nat)) : bR (bb [] l a) wide = 0 := by
 refine d6 (Zl hn h ha) (fun q => absurd q.2.2 (by rw [show (bb [] l a).attrs = a from rfl, hb]; simp)) ?_
 rw [show bv (bb [] l a) wide = cg (bb [] l a) wide from by simp [bv, bb]]
 have e : bA (bb [] l a) wide = fh a wide := by unfold bA; exact if_neg hn
 have hp : (bi ([] : List Pfx)).length = 0 := rfl
 unfold cg
 rw [e]
 simp only [bb, ap, List.length_append, bu, hp]
 omega
theorem Kn {m : PMsg} (h : bh m = 0) (hk : m.kind = 2) : br none m.withdrawn = 0 ∧ br none m.reach = 0 := by
 obtain ⟨_, _, _, _, ho, _⟩ := du h
 have ho := ho hk
 by_cases h1 : br none m.withdrawn = 0
 ·refine ⟨h1, ?_⟩
  by_cases h2 : br none m.reach = 0
  ·exact h2
  ·unfold fu at ho; rw [if_neg (by simp [h1]), if_pos h2] at ho; exact ho
 ·unfold fu at ho; rw [if_pos h1] at ho; exact absurd ho h1
theorem Oo {m : PMsg} (h : bh m = 0) (hk : m.kind = 2) : ∀ p ∈ m.withdrawn, bM p ≤ 65512 := by
 intro p hp
 have := (ib h hk).withdrawn p hp
 unfold bF at this
 rw [decide_eq_true_eq] at this
 have := jQ this.2.1
 unfold bM; omega
structure PartsOk (m : PMsg) (wide : Bool) (L : List PMsg) : Prop where
 enc : ∀ x ∈ L, bR x wide = 0
 withdrawn : L.flatMap (·.withdrawn) = m.withdrawn
 reach : L.flatMap (·.reach) = m.reach
 some : L ≠ []
 small : ∀ x ∈ L, (∀ p ∈ x.withdrawn, p ∈ m.withdrawn) ∧ (∀ p ∈ x.reach, p ∈ m.reach) ∧ x.withdrawn.length ≤ m.withdrawn.length ∧ x.reach.length ≤ m.reach.length ∧ (x = bb x.withdrawn x.reach x.attrs) ∧ (x.attrs = m.attrs ∨ x.attrs = zeroA)
theorem aap (L : List (List Pfx)) : (L.map fun l => bb l [] zeroA).flatMap (·.withdrawn) = L.flatten ∧ (L.map fun l => bb l [] zeroA).flatMap (·.reach) = [] := by
 induction L with
 | nil => exact ⟨rfl, rfl⟩
 | cons l L ih => obtain ⟨h1, h2⟩ := ih; constructor <;> simp_all [bb]
theorem aao (a : Attrs) (L : List (List Pfx)) : (L.map fun l => bb [] l a).flatMap (·.withdrawn) = [] ∧ (L.map fun l => bb [] l a).flatMap (·.reach) = L.flatten := by
 induction L with
 | nil => exact ⟨rfl, rfl⟩
 | cons l L ih => obtain ⟨h1, h2⟩ := ih; constructor <;> simp_all [bb, ap]
theorem su {L : List (List Pfx)} {c l : List Pfx} (h : L.flatten = l) (hc : c ∈ L) : (∀ p ∈ c, p ∈ l) ∧ c.length ≤ l.length := by
 subst h
 refine ⟨fun p hp => List.mem_flatten.2 ⟨c, hc, hp⟩, ?_⟩
 induction L with
 | nil => simp at hc
 | cons x L ih =>
  rw [List.flatten_cons, List.length_append]
  rcases List.mem_cons.1 hc with rfl | hc
  ·omega
  ·have := ih hc; omega
theorem Pv {m : PMsg} {wide : Bool} {L : List PMsg} (hk : m.kind = 2) (hc : bh m = 0) (he : bR m wide = 4) (h : ko m wide = some L) : PartsOk m wide L := by
 obtain ⟨p1, p2⟩ := Kn hc hk
 have hb : ¬ jZ m wide := by
  intro hb; unfold bR at he; rw [if_neg (by simp [hc]), if_pos hb] at he; omega
 have hlong : 65535 < 19 + (bv m wide).length := by
  unfold bR at he; rw [if_neg (by simp [hc]), if_neg hb] at he
  split at he
  ·omega
  ·omega
 unfold ko at h
 obtain ⟨R, h1, rfl⟩ := Option.map_eq_some_iff.1 h
 obtain ⟨r1, r2⟩ := mR _ _ _ _ p2 h1
 obtain ⟨w1, w2⟩ := mR _ m.withdrawn.length _ _ p1 (mw 65512 m.withdrawn.length m.withdrawn (Oo hc hk) (Nat.le_refl _))
 generalize dC 65512 [] 0 m.withdrawn = W at *
 obtain ⟨f1, f2⟩ := aap W
 obtain ⟨f3, f4⟩ := aao m.attrs R
 refine ⟨fun x hx => ?_, by rw [List.flatMap_append, f1, f3, w1, List.append_nil], by rw [List.flatMap_append, f2, f4, r1, List.nil_append], fun h0 => ?_, fun x hx => ?_⟩
 ·rcases List.mem_append.1 hx with hx | hx
  ·obtain ⟨c, hc', rfl⟩ := List.mem_map.1 hx
   obtain ⟨_, q2, q3⟩ := w2 c hc'
   exact ald q2 q3 wide
  ·obtain ⟨c, hc', rfl⟩ := List.mem_map.1 hx
   obtain ⟨q1, q2, q3⟩ := r2 c hc'
   have hr : m.reach ≠ [] := by
    intro h0
    obtain ⟨p, hp⟩ := List.exists_mem_of_ne_nil c q1
    have := (su r1 hc').1 p hp
    rw [h0] at this; simp at this
   have ha := (ib hc hk).attrs hr
   have hb2 : dU m.attrs wide = false := by
    cases hq : dU m.attrs wide with
    | false => rfl
    | true => exact absurd ⟨hk, hr, hq⟩ hb
   refine alc q1 q2 ha hb2 ?_
   rw [show bA m wide = fh m.attrs wide from by unfold bA; rw [if_neg hr]] at q3
   exact q3
 ·obtain ⟨e1, e2⟩ := List.append_eq_nil_iff.1 h0
  have hw0 : m.withdrawn = [] := by rw [← w1, List.map_eq_nil_iff.1 e1]; rfl
  have hr0 : m.reach = [] := by rw [← r1, List.map_eq_nil_iff.1 e2]; rfl
  have : (bv m wide).length = 4 := by simp [bv, hk, cg, bA, hw0, hr0, bi]
  omega
 ·rcases List.mem_append.1 hx with hx | hx
  ·obtain ⟨c, hc', rfl⟩ := List.mem_map.1 hx
   obtain ⟨g1, g2⟩ := su w1 hc'
   exact ⟨g1, by simp [bb], g2, by simp [bb], rfl, .inr rfl⟩
  ·obtain ⟨c, hc', rfl⟩ := List.mem_map.1 hx
   obtain ⟨g1, g2⟩ := su r1 hc'
   exact ⟨by simp [bb, ap], g1, by simp [bb, ap], g2, rfl, .inl rfl⟩
end Go.AM.IR
namespace Go.AM.IR
theorem Ko {m : PMsg} (hk : m.kind = 2) (h : UpdOk m) : m = bb m.withdrawn m.reach m.attrs := by
 obtain ⟨a, b, c, d, e, f, g, i⟩ := h.rest
 cases m
 simp only [bb, ap] at *
 subst_vars
 rfl
theorem qt {w r : List Pfx} {a : Attrs} (ha : AB a) (hw : w.length < 2 ^ 40) (hr : r.length < 2 ^ 40) : AM (bb w r a) :=
 ⟨ha, by simp [bb, ap], hw, hr, by simp [bb, ap], by simp [bb, ap, capT]⟩
theorem pe {w r : List Pfx} {a : Attrs} (ha : a.ok) (hw : ∀ p ∈ w, p.ok) (hr : ∀ p ∈ r, p.ok) : (bb w r a).ok :=
 ⟨by simp [bb, okI], by simp [bb, ap, okI], by simp [bb, ap, okI], by simp [bb, ap, okI], by simp [bb, ap, okU], by simp [bb, ap], hw, ha, hr, by simp [bb, ap, okI], by simp [bb, ap, okI]⟩
theorem pY (w r : List Pfx) (a : Attrs) (ha : AB a) (hao : a.ok) (hw : w.length < 2 ^ 30) (hr : r.length < 2 ^ 29) (hwo : ∀ p ∈ w, p.ok) (hro : ∀ p ∈ r, p.ok) : ah G 202 [.agg (bb w r a).enc] [] ⟨.agg (bb w r a).enc, []⟩ := by
 have one : ∀ (w r : List Pfx), w.length < 2 ^ 30 → r.length ≤ 1 → (∀ p ∈ w, p.ok) → (∀ p ∈ r, p.ok) → ah G 202 [.agg (bb w r a).enc] [] ⟨.agg (bb w r a).enc, []⟩ := by
  intro w r hw hr hwo hro
  by_cases h0 : bR (bb w r a) true = 0
  ·exact Td _ (qt ha (by omega) (by omega)) (pe hao hwo hro) hw (by show r.length < _; omega) h0
  ·exact aqm _ (qt ha (by omega) (by omega)) (pe hao hwo hro) hw hr h0
 match r, hr, hro with
 | [], _, hro => exact one w [] hw (by simp) hwo hro
 | [p], _, hro => exact one w [p] hw (by simp) hwo hro
 | p :: q :: r, hr, hro =>
  simp only [List.length_cons] at hr
  by_cases h0 : bR (bb w (p :: q :: r) a) true = 0
  ·exact Td _ (qt ha (by omega) (by simp; omega)) (pe hao hwo hro) hw (by show (p :: q :: r).length < _; simp only [List.length_cons]; omega) h0
  ·exact aql w r p q a (qt ha (by omega) (by simp; omega)) (pe hao hwo hro) hw (by omega) h0 (one [] [p] (by simp) (by simp) (by simp) (fun x hx => hro x (by simp at hx; simp [hx])))
end Go.AM.IR
namespace Go.AM.IR
theorem leS {P : Env → Prop} {s : Nat} {X Y : List (List AV)} (h : X = Y) : LeP P (.sl s X) (.sl s Y) := h ▸ .refl _
@[simp] theorem alO (p : Pfx) : aZ (Pfx.enc p) = true := rfl
@[simp] theorem yE : ∀ {l : List (List AV)} {n : Nat}, ba l = true → ba (l.take n) = true
 | [], n, _ => by simp [ba]
 | x :: l, 0, _ => by simp [ba]
 | x :: l, n + 1, h => by
  simp only [ba, Bool.and_eq_true] at h
  rw [List.take_succ_cons]
  simp only [ba, h.1, yE h.2, Bool.and_self]
@[simp] theorem alA (l : List Pfx) (n : Nat) : ba ((l.map Pfx.enc).take n) = true := by rw [← List.map_take]; exact rl _
@[simp] theorem alC (l : List Pfx) (n : Nat) : ba ((l.map Pfx.enc).drop n) = true := by rw [← List.map_drop]; exact rl _
theorem zh : ∀ (l : List Pfx) (bg : Int), cA bg l ≤ l.length
 | [], _ => by simp [cA]
 | p :: r, bg => by
  rw [cA]
  split
  ·omega
  ·have := zh r (bg - bM p); simp only [List.length_cons]; omega
theorem rM (bg : Int) (f : Nat) {l : List Pfx} (h : l ≠ []) : eY bg (f + 1) l = if cA bg l = 0 then none else (eY bg f (l.drop (cA bg l))).map (l.take (cA bg l) :: ·) := by
 cases l with
 | nil => exact absurd rfl h
 | cons p r => rfl
theorem v7 (m : PMsg) (size : Int) (R : Ret) (P : List PMsg) (hP : P.length < 2 ^ 36) (go : ∀ (T : List (Nat × AV)) (H : aq) (c g g0 k : Nat) (es : List (List AV)), k = P.length → es = P.map PMsg.enc → Ev G ⟨[.code (sfy 9 fg.body)], ⟨(12, .vs 132 g k) :: (2, .ref 66 g0 0) :: (9, .int .i64 size) :: T, (132, some (g, .vec 27 es)) :: (66, some (g0, .cells m.enc)) :: H, c⟩, fg.results, 0⟩ R) :
 ∀ (f : Nat) (l : List Pfx) (L : List (List Pfx)) (acc : List PMsg) (T : List (Nat × AV)) (H : aq) (c g g0 k : Nat) (es : List (List AV)) (hv : ∀ p ∈ l, 0 ≤ p.len ∧ p.len ≤ 32) (hl : l.length < 2 ^ 30) (hL : eY 65512 f l = some L) (hp : acc ++ L.map (fun c => bb c [] zeroA) = P) (hk : k = acc.length) (hes : es = acc.map PMsg.enc),
  Ev G ⟨Na, ⟨(13, .sl 2 (l.map Pfx.enc)) :: (12, .vs 132 g k) :: (2, .ref 66 g0 0) :: (9, .int .i64 size) :: T, (132, some (g, .vec 27 es)) :: (66, some (g0, .cells m.enc)) :: H, c⟩, [.t 4, .t 5], 0⟩ R
 | f, [], L, acc, T, H, c, g, g0, k, es, hv, hl, hL, hp, hk, hes => by
  obtain rfl : [] = L := by cases f <;> exact Option.some.inj hL
  rw [List.map_nil, List.append_nil] at hp
  subst hp
  refine dG (cP 1 300 _ _ _ _ ?_)
  repeat' (first | refine ab ?_ | (refine aa ?_ ?_ <;> intro h))
  refine ag [12, 2, 9] [132, 66] ?_
  exact go _ _ _ _ _ _ _ hk hes
 | 0, p :: r, L, acc, T, H, c, g, g0, k, es, hv, hl, hL, hp, hk, hes => by cases hL
 | f + 1, p :: r, L, acc, T, H, c, g, g0, k, es, hv, hl, hL, hp, hk, hes => by
  have hne : (p :: r) ≠ [] := by simp
  have hpos : 0 < (p :: r).length := by simp
  generalize p :: r = l at *
  rw [rM _ _ hne] at hL
  split at hL
  ·cases hL
  ·rename_i hn0
   obtain ⟨L', h1, rfl⟩ := Option.map_eq_some_iff.1 hL
   have hfit := pD l (by omega) hv 65512 (by omega) (by omega)
   have hle := zh l 65512
   generalize cA 65512 l = n at *
   have hll : (l.map Pfx.enc).length = l.length := by simp
   have hel : es.length = k := by rw [hes, hk]; simp
   have hPl : P.length = acc.length + (1 + L'.length) := by rw [← hp]; simp; omega
   refine evl ?_
   repeat' (first | refine ab ?_ | refine kB [(125, _, _)] ⟨rfl, pz trivial⟩ ?_ | refine ox ?_ | (refine aa ?_ ?_ <;> intro h))
   refine ag [13, 12, 2, 9] [132, 66] ?_
   have h13 : List.take ((l.map Pfx.enc).length - ((n : Nat) : Int).toNat) (List.drop ((n : Nat) : Int).toNat (l.map Pfx.enc)) = (l.drop n).map Pfx.enc := by rw [Int.toNat_natCast, List.take_of_length_le (by simp), List.map_drop]
   have h6 : [] ++ List.take (((n : Nat) : Int).toNat - 0) (List.drop 0 (l.map Pfx.enc)) = (l.take n).map Pfx.enc := by simp
   refine bm [(13, .sl 2 ((l.drop n).map Pfx.enc))] [(132, some (_, .vec 27 (es ++ [(bb (l.take n) [] zeroA).enc])))] ⟨leS h13, trivial⟩ ⟨⟨rfl, rfl, mj _ (by repeat' (first | exact trivial | exact leS h6 | exact LeP.refl _ | exact LeP.nil _ | refine LeP.sl ?_ | refine ⟨?_, ?_⟩))⟩, trivial⟩ ?_
   refine ag [13, 12, 2, 9] [132, 66] ?_
   refine v7 m size R P hP go f (l.drop n) L' (acc ++ [bb (l.take n) [] zeroA]) _ _ _ _ _ _ _ (fun p hp => hv p (List.mem_of_mem_drop hp)) (by rw [List.length_drop]; omega) h1 (by rw [← hp]; simp) ?_ ?_
   ·simp [hk]
   ·simp [hes]
def pV (acc : List PMsg) (a : Attrs) : Option (List (List Pfx)) → List PMsg × Int
 | none => ([], 4)
 | some L => (acc ++ L.map (fun c => bb [] c a), 0)
theorem NJ (acc : List PMsg) (a : Attrs) (x : List Pfx) (o : Option (List (List Pfx))) : pV acc a (o.map (x :: ·)) = pV (acc ++ [bb [] x a]) a o := by cases o <;> simp [pV]
theorem v5 (m : PMsg) (size : Int) (hs : 0 ≤ size ∧ size < 2 ^ 30) : ∀ (f : Nat) (l : List Pfx) (acc : List PMsg) (T : List (Nat × AV)) (H : aq) (c g g0 k : Nat) (es : List (List AV)) (hv : ∀ p ∈ l, 0 ≤ p.len ∧ p.len ≤ 32) (hl : l.length < 2 ^ 30) (hf : l.length ≤ f) (hd : ∀ p ∈ l, ah G 202 [.agg (uW p m.attrs)] [] ⟨.agg (bb [] [p] m.attrs).enc, []⟩) (ha : acc.length + f < 2 ^ 36) (hk : k = acc.length) (hes : es = acc.map PMsg.enc),
  Ev G ⟨M9, ⟨(15, .sl 2 (l.map Pfx.enc)) :: (12, .vs 132 g k) :: (2, .ref 66 g0 0) :: (9, .int .i64 size) :: T, (132, some (g, .vec 27 es)) :: (66, some (g0, .cells m.enc)) :: H, c⟩, [.t 4, .t 5], 0⟩ (gu (pV acc m.attrs (eY (65512 - size) f l)))
 | f, [], acc, T, H, c, g, g0, k, es, hv, hl, hf, hd, ha, hk, hes => by
  rw [show eY (65512 - size) f [] = some [] from by cases f <;> rfl]
  subst hes hk
  rw [show pV acc m.attrs (some []) = (acc, 0) from by simp [pV]]
  refine evl ?_
  repeat' (first | refine ab ?_ | (refine aa ?_ ?_ <;> intro h))
  refine dc [(132, _, .vec 27 _)] ⟨⟨rfl, (by exact jr _), trivial⟩, rfl, rfl, (by simp), ?_⟩
  unfold gu
  rw [if_pos rfl]
  exact nt 132 rfl rfl
 | 0, p :: r, acc, T, H, c, g, g0, k, es, hv, hl, hf, hd, ha, hk, hes => by simp at hf
 | f + 1, p :: r, acc, T, H, c, g, g0, k, es, hv, hl, hf, hd, ha, hk, hes => by
  have hx := hd p (by simp)
  have hne : (p :: r) ≠ [] := by simp
  have hfit := pD (p :: r) (by omega) hv (65512 - size) (by omega) (by omega)
  have hle := zh (p :: r) (65512 - size)
  rw [rM _ _ hne]
  have hll : ((p :: r).map Pfx.enc).length = (p :: r).length := by simp
  have hpl : (p :: r).length = r.length + 1 := rfl
  have hel : es.length = k := by rw [hes, hk]; simp
  generalize cA (65512 - size) (p :: r) = n at *
  by_cases hn0 : n = 0
  ·rw [if_pos hn0]
   have hn0' : (n : Int) = 0 := by omega
   refine evl ?_
   repeat' (first | refine ab ?_ | refine ox ?_ | (refine aa ?_ ?_ <;> intro h))
   all_goals (refine ax ?_; rfl)
  ·rw [if_neg hn0]
   refine evl ?_
   repeat' (first | refine ab ?_ | refine kB [(153, _, _)] ⟨rfl, pz trivial⟩ ?_ | refine ox ?_ | refine nV hx ?_ (ZP p m.attrs) (encP _) | (refine aa ?_ ?_ <;> intro h))
   have h13 : List.take (((p :: r).map Pfx.enc).length - ((n : Nat) : Int).toNat) (List.drop ((n : Nat) : Int).toNat ((p :: r).map Pfx.enc)) = ((p :: r).drop n).map Pfx.enc := by rw [Int.toNat_natCast, List.take_of_length_le (by rw [List.length_drop]; omega), List.map_drop]
   have h6 : [] ++ List.take (((n : Nat) : Int).toNat - 0) (List.drop 0 ((p :: r).map Pfx.enc)) = ((p :: r).take n).map Pfx.enc := by rw [List.nil_append, List.drop_zero, Int.toNat_natCast, Nat.sub_zero, List.map_take]
   refine ag [15, 12, 2, 9] [132, 66] ?_
   refine bm [(15, .sl 2 (((p :: r).drop n).map Pfx.enc))] [(132, some (_, .vec 27 (es ++ [(bb [] ((p :: r).take n) m.attrs).enc])))] ⟨leS h13, trivial⟩ ⟨⟨rfl, rfl, mj _ (by repeat' (first | exact trivial | exact leS h6 | exact LeP.refl _ | exact LeP.nil _ | refine LeP.sl ?_ | refine ⟨?_, ?_⟩))⟩, trivial⟩ ?_
   refine ag [15, 12, 2, 9] [132, 66] ?_
   have ih := v5 m size hs f ((p :: r).drop n) (acc ++ [bb [] ((p :: r).take n) m.attrs])
   rw [NJ]
   refine ih _ _ _ _ _ _ _ (fun q hq => hv q (List.mem_of_mem_drop hq)) (by rw [List.length_drop]; omega) (by rw [List.length_drop]; omega) (fun q hq => hd q (List.mem_of_mem_drop hq)) (by simp; omega) ?_ ?_
   ·simp [hk]
   ·simp [hes]
end Go.AM.IR
namespace Go.AM.IR
theorem KN (m : PMsg) (hc : bh m = 0) (hk : m.kind = 2) (hw : m.withdrawn.length < 2 ^ 30) (hr : m.reach.length < 2 ^ 29) (hd : ∀ p ∈ m.reach, ah G 202 [.agg (uW p m.attrs)] [] ⟨.agg (bb [] [p] m.attrs).enc, []⟩) (size : Int) (hs : 0 ≤ size ∧ size < 2 ^ 30) (T : List (Nat × AV)) (H : aq) (c g0 : Nat) :
  Ev G ⟨[.code (sfy 7 fg.body)], ⟨(2, .ref 66 g0 0) :: (9, .int .i64 size) :: T, (66, some (g0, .cells m.enc)) :: H, c⟩, fg.results, 0⟩ (gu (pV ((dC 65512 [] 0 m.withdrawn).map (fun c => bb c [] zeroA)) m.attrs (eY (65512 - size) m.reach.length m.reach))) := by
 have hu := ib hc hk
 have hL := mw 65512 m.withdrawn.length m.withdrawn (Oo hc hk) (Nat.le_refl _)
 have hlen := jL 65512 m.withdrawn [] 0
 generalize dC 65512 [] 0 m.withdrawn = L at *
 refine wk3 ?_
 repeat' (first | refine ab ?_ | (refine aa ?_ ?_ <;> intro h))
 refine cH 132 27 [(12, .vs 132 _ 0)] [] ⟨LeP.nilV _ _ _, trivial⟩ trivial ?_
 refine ag [13, 12, 2, 9] [132, 66] ?_
 refine v7 m size _ (L.map (fun c => bb c [] zeroA)) (by simp; omega) ?_ m.withdrawn.length m.withdrawn L [] _ _ _ _ _ _ _ (fun p hp => ml (hu.withdrawn p hp)) hw hL (by simp) rfl rfl
 intro T H c g g0 k es hk' hes
 refine wk3 ?_
 repeat' (first | refine ab ?_ | (refine aa ?_ ?_ <;> intro h))
 refine ag [15, 12, 2, 9] [132, 66] ?_
 exact v5 m size hs m.reach.length m.reach (L.map (fun c => bb c [] zeroA)) _ _ _ _ _ _ _ (fun p hp => ml (hu.reach p hp)) (by omega) (Nat.le_refl _) hd (by simp; omega) hk' hes
theorem Kx {m : PMsg} {wide : Bool} (hk : m.kind = 2) (he : bR m wide = 4) (hc : bh m = 0) : cI m wide = pV ((dC 65512 [] 0 m.withdrawn).map (fun c => bb c [] zeroA)) m.attrs (eY (65512 - (bA m wide).length) m.reach.length m.reach) := by
 unfold cI ko
 rw [if_neg (by simp [hk]), if_neg (by simp [he]), if_neg (by simp [he, hc])]
 cases eY (65512 - ((bA m wide).length : Int)) m.reach.length m.reach <;> rfl
theorem uO (m : PMsg) (h : AM m) (ho : m.ok) (hw : m.withdrawn.length < 2 ^ 30) (hr : m.reach.length < 2 ^ 29) (wide : Bool) : ah G 195 [.agg m.enc, .bool wide] [] (gu (cI m wide)) := by
 have he := jB m h ho hw (by omega) wide
 have hcc := fK m h.lenO (dY h.attrs) ⟨ho.withdrawn, ho.reach⟩
 by_cases hk : m.kind = 2
 rotate_left
 ·rw [show cI m wide = ([], 15) from by unfold cI; rw [if_pos hk]]
  refine ae (F := fg) rfl rfl (az 300 _ _ _ _ ?_)
  repeat' (first | refine ab ?_ | (refine aa ?_ ?_ <;> intro h))
  all_goals (refine ax ?_; rfl)
 by_cases h0 : bR m wide = 0
 ·have hc := (jk h0).1
  have hu := Ko hk (ib hc hk)
  have hd := pY m.withdrawn m.reach m.attrs h.attrs ho.attrs hw hr ho.withdrawn ho.reach
  rw [← hu] at hd
  rw [show cI m wide = ([m], 0) from by unfold cI; rw [if_neg (by simp [hk]), if_pos h0]]
  rw [dg h0] at he
  clear hu
  refine ae (F := fg) rfl rfl (az 300 _ _ _ _ ?_)
  repeat' (first | refine ab ?_ | (refine aa ?_ ?_ <;> intro h))
  refine dc [(95, _, .vec 27 _)] ⟨⟨rfl, (by exact jr [m]), trivial⟩, rfl, rfl, (by simp), ?_⟩
  unfold gu
  rw [if_pos rfl]
  exact nt 95 rfl rfl
 rw [fT rfl h0] at he
 by_cases hc : bh m = 0
 rotate_left
 ·have e1 : bR m wide = bh m := by unfold bR; rw [if_pos hc]
  rw [show cI m wide = ([], bh m) from by unfold cI; rw [if_neg (by simp [hk]), if_neg h0, if_pos (.inr hc), e1]]
  unfold gu
  rw [if_neg hc]
  rw [e1] at he h0
  generalize bh m = k at *
  refine ae (F := fg) rfl rfl (az 300 _ _ _ _ ?_)
  repeat' (first | refine ab ?_ | (refine aa ?_ ?_ <;> intro h))
  all_goals (refine ax ?_; rfl)
 have hu := ib hc hk
 rw [hc] at hcc
 have h67 := Au m.attrs wide h.attrs ho.attrs
 unfold sV bV at h67
 by_cases h4 : bR m wide = 4
 rotate_left
 ·obtain ⟨⟨_, hz, hb⟩, h5⟩ := JM hc h0 h4
  rw [show cI m wide = ([], 5) from by unfold cI; rw [if_neg (by simp [hk]), if_neg h0, if_pos (.inl h4), h5]]
  rw [if_pos (hu.attrs hz), hb, if_pos rfl] at h67
  have hzl : 0 < (m.reach.map Pfx.enc).length := by rw [List.length_map]; exact List.length_pos_iff.2 hz
  rw [h5] at he
  refine ae (F := fg) rfl rfl (az 300 _ _ _ _ ?_)
  repeat' (first | refine ab ?_ | (refine aa ?_ ?_ <;> intro h))
  all_goals (refine ax ?_; rfl)
 rw [Kx hk h4 hc]
 rw [h4] at he
 have hd : ∀ p ∈ m.reach, ah G 202 [.agg (uW p m.attrs)] [] ⟨.agg (bb [] [p] m.attrs).enc, []⟩ := fun p hp => IG p m.attrs (pY [] [p] m.attrs h.attrs ho.attrs (by simp) (by simp) (by simp) (fun q hq => ho.reach q (by simp at hq; simp [hq, hp])))
 by_cases hz : m.reach = []
 ·have hA : bA m wide = [] := by unfold bA; rw [if_pos hz]
  have hmid := KN m hc hk hw hr hd 0 (by omega)
  rw [hA]
  have hzl : (m.reach.map Pfx.enc).length = 0 := by rw [hz]; rfl
  refine ae (F := fg) rfl rfl ?_
  refine aG (b := sfy 1 fg.body) ?_
  refine wd1 ?_
  repeat' (first | refine ab ?_ | (refine aa ?_ ?_ <;> intro h))
  refine aG (b := sfy 2 fg.body) ?_
  refine wd1 ?_
  repeat' (first | refine ab ?_ | (refine aa ?_ ?_ <;> intro h))
  refine aG (b := sfy 3 fg.body) ?_
  refine wd1 ?_
  repeat' (first | refine ab ?_ | (refine aa ?_ ?_ <;> intro h))
  refine aG (b := sfy 4 fg.body) ?_
  refine wd1 ?_
  repeat' (first | refine ab ?_ | (refine aa ?_ ?_ <;> intro h))
  refine aG (b := sfy 5 fg.body) ?_
  refine wd1 ?_
  repeat' (first | refine ab ?_ | (refine aa ?_ ?_ <;> intro h))
  refine aG (b := sfy 6 fg.body) ?_
  refine wd1 ?_
  repeat' (first | refine ab ?_ | (refine aa ?_ ?_ <;> intro h))
  refine aG (b := sfy 7 fg.body) ?_
  refine wd1 ?_
  repeat' (first | refine ab ?_ | (refine aa ?_ ?_ <;> intro h))
  refine ag [2, 9] [66] ?_
  exact hmid _ _ _ _
 ·have hzl : 0 < (m.reach.map Pfx.enc).length := by rw [List.length_map]; exact List.length_pos_iff.2 hz
  have hA : bA m wide = fh m.attrs wide := by unfold bA; rw [if_neg hz]
  have hb : dU m.attrs wide = false := by
   cases hq : dU m.attrs wide with
   | false => rfl
   | true => exact absurd ⟨hk, hz, hq⟩ (wH hc h4)
  rw [if_pos (hu.attrs hz), hb, if_neg (by simp)] at h67
  rw [hA]
  have hs := lj (ft (hu.attrs hz)) wide
  have hmid := KN m hc hk hw hr hd (fh m.attrs wide).length (by omega)
  generalize fh m.attrs wide = A at *
  refine ae (F := fg) rfl rfl ?_
  refine aG (b := sfy 1 fg.body) ?_
  refine wd1 ?_
  repeat' (first | refine ab ?_ | (refine aa ?_ ?_ <;> intro h))
  refine aG (b := sfy 2 fg.body) ?_
  refine wd1 ?_
  repeat' (first | refine ab ?_ | (refine aa ?_ ?_ <;> intro h))
  refine aG (b := sfy 3 fg.body) ?_
  refine wd1 ?_
  repeat' (first | refine ab ?_ | (refine aa ?_ ?_ <;> intro h))
  refine aG (b := sfy 4 fg.body) ?_
  refine wd1 ?_
  repeat' (first | refine ab ?_ | (refine aa ?_ ?_ <;> intro h))
  refine aG (b := sfy 5 fg.body) ?_
  refine wd1 ?_
  repeat' (first | refine ab ?_ | (refine aa ?_ ?_ <;> intro h))
  refine aG (b := sfy 6 fg.body) ?_
  refine wd1 ?_
  repeat' (first | refine ab ?_ | (refine aa ?_ ?_ <;> intro h))
  refine aG (b := sfy 7 fg.body) ?_
  refine wd1 ?_
  repeat' (first | refine ab ?_ | (refine aa ?_ ?_ <;> intro h))
  refine ag [2, 9] [66] ?_
  exact hmid _ _ _ _
end Go.AM.IR
namespace Go.AM.IR
end Go.AM.IR
namespace Go.AM.IR
theorem abZ0 : AB zeroA := ⟨by simp [zeroA], by simp [zeroA, bC], by simp [zeroA], by simp [zeroA], by simp [zeroA], by simp [zeroA], by simp [zeroA, fY]⟩
theorem BR {m : PMsg} {wide : Bool} {L : List PMsg} (h : cI m wide = (L, 0)) : PartsOk m wide L := by
 unfold cI at h
 split at h
 ·cases h
 ·rename_i hk
  have hk : m.kind = 2 := by omega
  split at h
  ·rename_i h0
   obtain rfl := (Prod.mk.inj h).1
   have hu := Ko hk (ib (jk h0).1 hk)
   exact ⟨fun x hx => by simp at hx; rw [hx]; exact h0, by simp, by simp, by simp, fun x hx => by
    simp at hx
    rw [hx]
    exact ⟨fun p hp => hp, fun p hp => hp, Nat.le_refl _, Nat.le_refl _, hu, .inl rfl⟩⟩
  ·split at h
   ·rename_i h0 _
    exact absurd (Prod.mk.inj h).2 h0
   ·rename_i h0 h1
    have h4 : bR m wide = 4 := by omega
    have hc : bh m = 0 := by omega
    cases hs : ko m wide with
    | none => rw [hs] at h; simp at h
    | some L' =>
     rw [hs] at h
     obtain rfl := (Prod.mk.inj h).1
     exact Pv hk hc h4 hs
structure PartA (x : PMsg) : Prop where
 am : AM x
 ok : x.ok
 withdrawn : x.withdrawn.length < 2 ^ 30
 reach : x.reach.length < 2 ^ 30
theorem TU {m : PMsg} {wide : Bool} {L : List PMsg} (p : PartsOk m wide L) (h : AM m) (ho : m.ok) (hw : m.withdrawn.length < 2 ^ 30) (hr : m.reach.length < 2 ^ 30) : ∀ x ∈ L, PartA x := by
 intro x hx
 obtain ⟨s1, s2, s3, s4, s5, s6⟩ := p.small x hx
 have ha : AB x.attrs ∧ x.attrs.ok := by
  rcases s6 with q | q
  ·rw [q]; exact ⟨h.attrs, ho.attrs⟩
  ·rw [q]; exact ⟨abZ0, (rY 4).ok⟩
 have h1 := qt (w := x.withdrawn) (r := x.reach) ha.1 (by omega) (by omega)
 have h2 := pe ha.2 (fun p hp => ho.withdrawn p (s1 p hp)) (fun p hp => ho.reach p (s2 p hp))
 rw [← s5] at h1 h2
 exact ⟨h1, h2, by omega, by omega⟩
theorem wT (bg : Int) : ∀ (f : Nat) (l : List Pfx) (L : List (List Pfx)), eY bg f l = some L → L.length ≤ f
 | f, [], L, h => by
  obtain rfl : [] = L := by cases f <;> exact Option.some.inj h
  simp
 | 0, p :: r, L, h => by cases h
 | f + 1, p :: r, L, h => by
  rw [eY] at h
  split at h
  ·cases h
  ·obtain ⟨L', h1, rfl⟩ := Option.map_eq_some_iff.1 h
   have := wT bg f _ L' h1
   simp only [List.length_cons]; omega
theorem Kw (m : PMsg) (wide : Bool) : (cI m wide).1.length ≤ m.withdrawn.length + m.reach.length + 2 := by
 unfold cI
 split
 ·simp
 ·split
  ·simp
  ·split
   ·simp
   ·cases hs : ko m wide with
    | none => simp
    | some L =>
     unfold ko at hs
     obtain ⟨R, h1, rfl⟩ := Option.map_eq_some_iff.1 hs
     have := wT _ _ _ _ h1
     have := jL 65512 m.withdrawn [] 0
     simp only [List.length_append, List.length_map]; omega
theorem Ug (m : PMsg) (h : bkL m.enc ≤ 1048576) : m.withdrawn.length < 2 ^ 29 ∧ m.reach.length < 2 ^ 29 ∧ (bC m.attrs.path).length < 2 ^ 39 := by
 have h3 := im Pfx.enc Jm m.withdrawn
 have h4 := im Pfx.enc Jm m.reach
 have h2 := gV Seg.enc (fun s => s.as.length) (fun s => by have := yw s; omega) m.attrs.path
 rw [← sy] at h2
 simp only [PMsg.enc, bkL, AV.bk] at h
 generalize cy (m.caps.map Cap.enc) = z1 at *
 generalize cy (m.withdrawn.map Pfx.enc) = z2 at *
 generalize cy (m.reach.map Pfx.enc) = z3 at *
 generalize cy (byteCells m.data) = z4 at *
 generalize cy (m.attrs.path.map Seg.enc) = z5 at *
 generalize cy (m.attrs.comms.map bf) = z6 at *
 generalize cy (m.attrs.clusters.map bf) = z7 at *
 generalize cy (m.attrs.unknown.map TLV.enc) = z8 at *
 exact ⟨by omega, by omega, by omega⟩
end Go.AM.IR
namespace Go.AM.IR
def wdB (l : List Int) : List UInt8 := l.flatMap fun x => be 4 x.toNat
theorem rJ (l : List Int) (h0 : ∀ x ∈ l, 0 ≤ x ∧ x ≤ 4294967295) (hlen : l.length < 2 ^ 30) (hl : l.length < 2 ^ 40) (ln : Int) (hln : ln = l.length) : ∀ (rest done : List Int) (g m : Nat) (es : List (List AV)) (T : List (Nat × AV)) (H : aq) (c : Nat) (n : Int) (e : l = done ++ rest) (hn : n = done.length) (hm : m = (wdB done).length) (hes : es = byteCells (wdB done)), Ev G ⟨Ut, ⟨(6, .sl 1 (l.map bf)) :: (7, .int .i64 ln) :: (8, .int .i64 n) :: (3, .vs 79 g m) :: T, (79, some (g, .vec 1 es)) :: H, c⟩, [.t 2], 0⟩ (rB (wdB l))
 | [], done, g, m, es, T, H, c, n, e, hn, hm, hes => by
  have hd : l.length = done.length := by simp [e]
  have hll : (l.map bf).length = l.length := by simp
  obtain rfl : l = done := by simpa using e
  refine evl ?_
  repeat' (first | refine ab ?_ | (refine aa ?_ ?_ <;> intro h))
  exact e7 79 ⟨_, _, _, rfl, rfl, hm, hes⟩
 | x :: r, done, g, m, es, T, H, c, n, e, hn, hm, hes => by
  have hd : l.length = done.length + (r.length + 1) := by simp [e]
  have hll : (l.map bf).length = l.length := by simp
  have hx : (l.map bf)[n.toNat]? = some (bf x) := by simp [e, hn]
  have hx0 := h0 x (by simp [e])
  subst hm hes
  have hput := cl (wdB done) (by rw [wdB, eF]; omega) 4 x.toNat (by omega)
  rw [show ((x.toNat : Nat) : Int) = x from by omega] at hput
  refine evl ?_
  repeat' (first | refine ab ?_ | refine kX [] [(79, _, _)] trivial ⟨rfl, pz trivial⟩ (hput) ?_ | (refine aa ?_ ?_ <;> intro h))
  refine ag [6, 7, 8, 3] [79] ?_; exact rJ l h0 hlen hl ln hln r (done ++ [x]) _ _ _ _ _ _ (n + 1) (by simp [e]) (by simp [hn] <;> omega) (by simp [wdB]) (by simp [wdB])
theorem lU (l : List Int) (hlen : l.length < 2 ^ 30) (h0 : ∀ x ∈ l, 0 ≤ x ∧ x ≤ 4294967295) : ah G 90 [.sl 1 (l.map bf)] [] (rB (wdB l)) := by
 refine ae (F := f90) rfl rfl (az 300 _ _ _ _ ?_)
 repeat' (first | refine ab ?_ | (refine aa ?_ ?_ <;> intro h))
 refine cH 79 1 [(3, .vs 79 _ 0)] [] ⟨LeP.nilV _ _ _, trivial⟩ trivial ?_
 refine ag [6, 7, 8, 3] [79] ?_
 exact rJ l h0 hlen (by omega) _ (by simp) l [] _ 0 _ _ _ _ 0 rfl rfl rfl rfl
theorem w3 (l : List Int) (p : List Seg) (lp i : Int) (wide : Bool) (acc0 : List UInt8) (R : Ret) (h0 : ∀ x ∈ l, 0 ≤ x ∧ x < 2 ^ 63) (hB : acc0.length + 4 * l.length < 2 ^ 38) (h1 : 0 ≤ i) (h2 : i < 2 ^ 40) (go : ∀ (T : List (Nat × AV)) (H : aq) (c g m : Nat) (es : List (List AV)), m = (acc0 ++ asB (wd wide) l).length → es = byteCells (acc0 ++ asB (wd wide) l) → Ev G ⟨zo, ⟨(10, .sl 2 (p.map Seg.enc)) :: (11, .int .i64 lp) :: (12, .int .i64 (i + 1)) :: (1, .bool wide) :: (5, .vs 102 g m) :: T, (102, some (g, .vec 1 es)) :: H, c⟩, [.t 4], 0⟩ R) (hl : l.length < 2 ^ 40) (ln : Int) (hln : ln = l.length) : ∀ (rest done : List Int) (g m : Nat) (es : List (List AV)) (T : List (Nat × AV)) (H : aq) (c : Nat) (n : Int) (e : l = done ++ rest) (hn : n = done.length) (hm : m = (acc0 ++ asB (wd wide) done).length) (hes : es = byteCells (acc0 ++ asB (wd wide) done)), Ev G ⟨Qh, ⟨(27, .sl 1 (l.map bj)) :: (28, .int .i64 ln) :: (29, .int .i64 n) :: (10, .sl 2 (p.map Seg.enc)) :: (11, .int .i64 lp) :: (12, .int .i64 i) :: (1, .bool wide) :: (5, .vs 102 g m) :: T, (102, some (g, .vec 1 es)) :: H, c⟩, [.t 4], 0⟩ R
 | [], done, g, m, es, T, H, c, n, e, hn, hm, hes => by
  have hd : l.length = done.length := by simp [e]
  have hll : (l.map bj).length = l.length := by simp
  obtain rfl : l = done := by simpa using e
  refine evl ?_
  repeat' (first | refine ab ?_ | (refine aa ?_ ?_ <;> intro h))
  refine ag [10, 11, 12, 1, 5] [102] ?_
  exact go _ _ _ g m es hm hes
 | x :: r, done, g, m, es, T, H, c, n, e, hn, hm, hes => by
  have hd : l.length = done.length + (r.length + 1) := by simp [e]
  have hll : (l.map bj).length = l.length := by simp
  have hx : (l.map bj)[n.toNat]? = some (bj x) := by simp [e, hn]
  have hx0 := h0 x (by simp [e])
  subst hm hes
  have hw := fU wide
  have hml : (acc0 ++ asB (wd wide) done).length ≤ acc0.length + 4 * done.length := by
   have := ti wide done.length
   rw [List.length_append, fd]; omega
  have hput := cl (acc0 ++ asB (wd wide) done) (by omega) (wd wide) x.toNat (by omega)
  rw [show ((x.toNat : Nat) : Int) = x from by omega] at hput
  refine evl ?_
  repeat' (first | refine ab ?_ | refine kV (oa wide) ?_ | refine kX [] [(102, _, _)] trivial ⟨rfl, pz trivial⟩ (hput) ?_ | (refine aa ?_ ?_ <;> intro h))
  refine ag [27, 28, 29, 10, 11, 12, 1, 5] [102] ?_; exact w3 l p lp i wide acc0 R h0 hB h1 h2 go hl ln hln r (done ++ [x]) _ _ _ _ _ _ (n + 1) (by simp [e]) (by simp [hn] <;> omega) (by simp [asB]) (by simp [asB])
theorem ru (l : List Seg) (wide : Bool) (h0 : ∀ s ∈ l, (0 ≤ s.kind ∧ s.kind ≤ 255) ∧ s.as.length ≤ 255 ∧ ∀ x ∈ s.as, 0 ≤ x ∧ x < 2 ^ 63) (hlen : l.length < 2 ^ 20) (hl : l.length < 2 ^ 40) (ln : Int) (hln : ln = l.length) : ∀ (rest done : List Seg) (g m : Nat) (es : List (List AV)) (T : List (Nat × AV)) (H : aq) (c : Nat) (n : Int) (e : l = done ++ rest) (hn : n = done.length) (hm : m = (bN (wd wide) done).length) (hes : es = byteCells (bN (wd wide) done)) (hml : m ≤ 2000 * done.length), Ev G ⟨zo, ⟨(10, .sl 2 (l.map Seg.enc)) :: (11, .int .i64 ln) :: (12, .int .i64 n) :: (1, .bool wide) :: (5, .vs 102 g m) :: T, (102, some (g, .vec 1 es)) :: H, c⟩, [.t 4], 0⟩ (rB (bN (wd wide) l))
 | [], done, g, m, es, T, H, c, n, e, hn, hm, hes, hml => by
  have hd : l.length = done.length := by simp [e]
  have hll : (l.map Seg.enc).length = l.length := by simp
  obtain rfl : l = done := by simpa using e
  refine evl ?_
  repeat' (first | refine ab ?_ | (refine aa ?_ ?_ <;> intro h))
  exact e7 102 ⟨_, _, _, rfl, rfl, hm, hes⟩
 | x :: r, done, g, m, es, T, H, c, n, e, hn, hm, hes, hml => by
  have hd : l.length = done.length + (r.length + 1) := by simp [e]
  have hll : (l.map Seg.enc).length = l.length := by simp
  have hx : (l.map Seg.enc)[n.toNat]? = some (Seg.enc x) := by simp [e, hn]
  obtain ⟨⟨hk0, hk1⟩, hal, hx⟩ := h0 x (by simp [e])
  have hel : m = es.length := by rw [hm, hes]; simp
  have hxl : (x.as.map bj).length = x.as.length := by simp
  have e1 := iL hk0 hk1
  have e2 := yi hal
  refine evl ?_
  repeat' (first | refine ab ?_ | (refine aa ?_ ?_ <;> intro h))
  refine ag [27, 28, 29, 10, 11, 12, 1, 5] [102] ?_
  have hps : (bN (wd wide) (done ++ [x])) = (bN (wd wide) done ++ [UInt8.ofNat x.kind.toNat, UInt8.ofNat x.as.length]) ++ asB (wd wide) x.as := by simp [bN, yx]
  have hwm := ti wide x.as.length
  refine w3 x.as l ln n wide (bN (wd wide) done ++ [UInt8.ofNat x.kind.toNat, UInt8.ofNat x.as.length]) _ hx (by simp; omega) (by omega) (by omega) ?_ (by omega) _ (by simp) x.as [] _ _ _ _ _ _ 0 rfl rfl ?_ ?_
  ·intro T H c g m es q1 q2
   refine ru l wide h0 hlen hl ln hln r (done ++ [x]) g m es T H c (n + 1) (by simp [e]) (by simp [hn]) ?_ ?_ ?_
   ·rw [q1, hps]
   ·rw [q2, hps]
   ·rw [q1]; simp [fd]; omega
  ·simp [hm, asB]
  ·rw [hes]; simp only [asB, List.flatMap_nil, List.append_nil, dZ]; simp only [byteCells, List.map_cons, List.map_nil, e1, e2, hxl]
theorem yF (p : List Seg) (wide : Bool) (h0 : ∀ s ∈ p, (0 ≤ s.kind ∧ s.kind ≤ 255) ∧ s.as.length ≤ 255 ∧ ∀ x ∈ s.as, 0 ≤ x ∧ x < 2 ^ 63) (hlen : p.length < 2 ^ 20) : ah G 89 [.sl 2 (p.map Seg.enc), .bool wide] [] (rB (bN (wd wide) p)) := by
 refine ae (F := f89) rfl rfl (az 300 _ _ _ _ ?_)
 repeat' (first | refine ab ?_ | (refine aa ?_ ?_ <;> intro h))
 refine cH 102 1 [(5, .vs 102 _ 0)] [] ⟨LeP.nilV _ _ _, trivial⟩ trivial ?_
 refine ag [10, 11, 12, 1, 5] [102] ?_
 exact ru p wide h0 hlen (by omega) _ (by simp) p [] _ 0 _ _ _ _ 0 rfl rfl rfl rfl (by simp)
theorem vg (k : Int) (h0 : 0 ≤ k) : ah G 102 [.int .i64 k] [] ⟨.int .i64 ((if 0 < k then (bx k).toNat else 224 : Nat) : Int), []⟩ := by
 by_cases h : k > 10
 ·rw [show bx k = 224 from by simp [bx, h]]
  refine ae (F := JL) rfl rfl (az 300 _ _ _ _ ?_)
  repeat' (first | refine ab ?_ | (refine aa ?_ ?_ <;> intro h))
  all_goals (refine ax ?_; simp; try omega)
 ·have h2 : k = 0 ∨ k = 1 ∨ k = 2 ∨ k = 3 ∨ k = 4 ∨ k = 5 ∨ k = 6 ∨ k = 7 ∨ k = 8 ∨ k = 9 ∨ k = 10 := by omega
  rcases h2 with rfl | rfl | rfl | rfl | rfl | rfl | rfl | rfl | rfl | rfl | rfl
  all_goals
   refine ae (F := JL) rfl rfl (az 300 _ _ _ _ ?_)
   repeat' (first | refine ab ?_ | (refine aa ?_ ?_ <;> intro h))
   all_goals (refine ax ?_; rfl)
theorem Py (k : Int) (h0 : 0 < k) : (((bx k ||| 16 : UInt8).toNat : Nat) : Int) = (bx k).toNat + 16 ∧ (bx k).toNat ≤ 224 := by
 by_cases h : k > 10
 ·rw [show bx k = 224 from by simp [bx, h]]; decide
 ·have h2 : k = 1 ∨ k = 2 ∨ k = 3 ∨ k = 4 ∨ k = 5 ∨ k = 6 ∨ k = 7 ∨ k = 8 ∨ k = 9 ∨ k = 10 := by omega
  rcases h2 with rfl | rfl | rfl | rfl | rfl | rfl | rfl | rfl | rfl | rfl <;> decide
end Go.AM.IR
namespace Go.AM.IR
theorem jT (k : Int) (h0 : 0 ≤ k) : ah G 102 [.int .i64 k] [] ⟨.int .i64 ((bx k).toNat : Nat), []⟩ := by
 have h := vg k h0
 by_cases hk : 0 < k
 ·rwa [if_pos hk] at h
 ·obtain rfl : k = 0 := by omega
  exact h
theorem qC {n n' : Nat} {es es' : List (List AV)} {x y : List (Bool × Blk)} (hn : n = n') (he : es = es') (hx : x = y) : (⟨.vs 0 0 n, (false, .vec 1 es) :: x⟩ : Ret) = ⟨.vs 0 0 n', (false, .vec 1 es') :: y⟩ := by subst hn he hx; rfl
theorem eO (b v : List UInt8) (k : Int) (hk0 : 0 < k) (hk1 : k ≤ 255) (hb : b.length < 2 ^ 38) (hv : v.length < 2 ^ 38) : ah G 88 [.vs 0 0 b.length, .int .i64 k, .vs 1 0 v.length] [.vec 1 (byteCells b), .vec 1 (byteCells v)] ⟨.vs 0 0 (b ++ bn k v).length, [(false, .vec 1 (byteCells (b ++ bn k v))), (true, .vec 1 (byteCells v))]⟩ := by
 obtain ⟨ho, hf⟩ := Py k hk0
 have e1 := iL (by omega : 0 ≤ k) hk1
 have hvl := au v
 by_cases hlong : v.length > 255
 ·rw [show b ++ bn k v = b ++ [bx k ||| 16, UInt8.ofNat k.toNat] ++ be 2 v.length ++ v from by simp [bn, hlong]]
  have hput := cl (b ++ [bx k ||| 16, UInt8.ofNat k.toNat]) (by simp; omega) 2 v.length (by omega)
  have hB : byteCells (b ++ [bx k ||| 16, UInt8.ofNat k.toNat]) = byteCells b ++ [[.int .u8 ((bx k).toNat + 16)], [.int .u8 k]] := by
   simp only [byteCells, List.map_append, List.map_cons, List.map_nil, ho, e1]
  rw [hB] at hput
  refine ae (F := f88) rfl rfl (az 300 _ _ _ _ ?_)
  repeat' (first | refine ab ?_ | refine kV (jT k (by omega)) ?_ | refine kX [] [(0, _, _)] trivial ⟨rfl, pz trivial⟩ (hput) ?_ | (refine aa ?_ ?_ <;> intro h))
  conv => whnf
  refine pT 92 0 [(6, .vs 0 _ _)] [(1, _)] rfl (by first | rfl | (simp [Blk.pure, ba, aZ, AV.pure]; done) | fail) (by decide) ⟨(by show AV.ren _ (.vs 92 _ _) = _; simp only [AV.ren, φM, and_self, if_true]; rfl), trivial⟩ ⟨⟨by decide, by decide, (by show _ = some (0, Blk.ren _ (.vec 1 _)); rw [Blk.ren_pure puL])⟩, trivial⟩ ?_
  intro T H
  (conv => whnf); first | refine cX [(0, _, _), (1, _, _)] [] [false, true] ?_ | refine cY [(0, _, _), (1, _, _)] [] [false, true] ?_
  exact qC (by simp <;> omega) (by simp [byteCells]) rfl
 ·rw [show b ++ bn k v = b ++ [bx k, UInt8.ofNat k.toNat] ++ be 1 v.length ++ v from by simp [bn, hlong, be]]
  have hput := cl (b ++ [bx k, UInt8.ofNat k.toNat]) (by simp; omega) 1 v.length (by omega)
  have hB : byteCells (b ++ [bx k, UInt8.ofNat k.toNat]) = byteCells b ++ [[.int .u8 (bx k).toNat], [.int .u8 k]] := by
   simp only [byteCells, List.map_append, List.map_cons, List.map_nil, e1]
  rw [hB] at hput
  refine ae (F := f88) rfl rfl (az 300 _ _ _ _ ?_)
  repeat' (first | refine ab ?_ | refine kV (jT k (by omega)) ?_ | refine kX [] [(0, _, _)] trivial ⟨rfl, pz trivial⟩ (hput) ?_ | (refine aa ?_ ?_ <;> intro h))
  conv => whnf
  refine pT 92 0 [(6, .vs 0 _ _)] [(1, _)] rfl (by first | rfl | (simp [Blk.pure, ba, aZ, AV.pure]; done) | fail) (by decide) ⟨(by show AV.ren _ (.vs 92 _ _) = _; simp only [AV.ren, φM, and_self, if_true]; rfl), trivial⟩ ⟨⟨by decide, by decide, (by show _ = some (0, Blk.ren _ (.vec 1 _)); rw [Blk.ren_pure puL])⟩, trivial⟩ ?_
  intro T H
  (conv => whnf); first | refine cX [(0, _, _), (1, _, _)] [] [false, true] ?_ | refine cY [(0, _, _), (1, _, _)] [] [false, true] ?_
  exact qC (by simp <;> omega) (by simp [byteCells]) rfl
theorem oq (b v : List UInt8) (k : Int) (hk0 : 0 < k) (hk1 : k ≤ 255) (hb : b.length < 2 ^ 38) (hv : v.length < 2 ^ 38) : ah G 88 [.vs 0 0 b.length, .int .i64 k, .sl 1 (byteCells v)] [.vec 1 (byteCells b)] ⟨.vs 0 0 (b ++ bn k v).length, [(false, .vec 1 (byteCells (b ++ bn k v)))]⟩ := by
 obtain ⟨ho, hf⟩ := Py k hk0
 have e1 := iL (by omega : 0 ≤ k) hk1
 have hvl := au v
 by_cases hlong : v.length > 255
 ·rw [show b ++ bn k v = b ++ [bx k ||| 16, UInt8.ofNat k.toNat] ++ be 2 v.length ++ v from by simp [bn, hlong]]
  have hput := cl (b ++ [bx k ||| 16, UInt8.ofNat k.toNat]) (by simp; omega) 2 (byteCells v).length (by omega)
  have hB : byteCells (b ++ [bx k ||| 16, UInt8.ofNat k.toNat]) = byteCells b ++ [[.int .u8 ((bx k).toNat + 16)], [.int .u8 k]] := by
   simp only [byteCells, List.map_append, List.map_cons, List.map_nil, ho, e1]
  rw [hB] at hput
  refine ae (F := f88) rfl rfl (az 300 _ _ _ _ ?_)
  repeat' (first | refine ab ?_ | refine kV (jT k (by omega)) ?_ | refine kX [] [(0, _, _)] trivial ⟨rfl, pz trivial⟩ (hput) ?_ | (refine aa ?_ ?_ <;> intro h))
  conv => whnf
  refine pT 92 0 [(6, .vs 0 _ _)] [] rfl (by first | rfl | (simp [Blk.pure, ba, aZ, AV.pure]; done) | fail) (by decide) ⟨(by show AV.ren _ (.vs 92 _ _) = _; simp only [AV.ren, φM, and_self, if_true]; rfl), trivial⟩ trivial ?_
  intro T H
  (conv => whnf); first | refine cX [(0, _, _)] [] [false] ?_ | refine cY [(0, _, _)] [] [false] ?_
  exact qC (by simp <;> omega) (by simp [byteCells]) rfl
 ·rw [show b ++ bn k v = b ++ [bx k, UInt8.ofNat k.toNat] ++ be 1 v.length ++ v from by simp [bn, hlong, be]]
  have hput := cl (b ++ [bx k, UInt8.ofNat k.toNat]) (by simp; omega) 1 (byteCells v).length (by omega)
  have hB : byteCells (b ++ [bx k, UInt8.ofNat k.toNat]) = byteCells b ++ [[.int .u8 (bx k).toNat], [.int .u8 k]] := by
   simp only [byteCells, List.map_append, List.map_cons, List.map_nil, e1]
  rw [hB] at hput
  refine ae (F := f88) rfl rfl (az 300 _ _ _ _ ?_)
  repeat' (first | refine ab ?_ | refine kV (jT k (by omega)) ?_ | refine kX [] [(0, _, _)] trivial ⟨rfl, pz trivial⟩ (hput) ?_ | (refine aa ?_ ?_ <;> intro h))
  conv => whnf
  refine pT 92 0 [(6, .vs 0 _ _)] [] rfl (by first | rfl | (simp [Blk.pure, ba, aZ, AV.pure]; done) | fail) (by decide) ⟨(by show AV.ren _ (.vs 92 _ _) = _; simp only [AV.ren, φM, and_self, if_true]; rfl), trivial⟩ trivial ?_
  intro T H
  (conv => whnf); first | refine cX [(0, _, _)] [] [false] ?_ | refine cY [(0, _, _)] [] [false] ?_
  exact qC (by simp <;> omega) (by simp [byteCells]) rfl
theorem CR {n n' : Nat} {es es' : List (List AV)} {b : Blk} (hn : n = n') (he : es = es') : (⟨.vs 1 0 n, [(true, b), (false, .vec 1 es)]⟩ : Ret) = ⟨.vs 1 0 n', [(true, b), (false, .vec 1 es')]⟩ := by subst hn he; rfl
theorem xC (v : List UInt8) (k : Int) (hk0 : 0 < k) (hk1 : k ≤ 255) (hv : v.length < 2 ^ 38) : ah G 88 [.con (.slice none 0 0), .int .i64 k, .vs 0 0 v.length] [.vec 1 (byteCells v)] ⟨.vs 1 0 (bn k v).length, [(true, .vec 1 (byteCells v)), (false, .vec 1 (byteCells (bn k v)))]⟩ := by
 obtain ⟨ho, hf⟩ := Py k hk0
 have e1 := iL (by omega : 0 ≤ k) hk1
 have hvl := au v
 by_cases hlong : v.length > 255
 ·rw [show bn k v = [bx k ||| 16, UInt8.ofNat k.toNat] ++ be 2 v.length ++ v from by simp [bn, hlong]]
  have hput := cl [bx k ||| 16, UInt8.ofNat k.toNat] (by simp) 2 v.length (by omega)
  have hB : byteCells [bx k ||| 16, UInt8.ofNat k.toNat] = [[.int .u8 ((bx k).toNat + 16)], [.int .u8 k]] := by
   simp only [byteCells, List.map_cons, List.map_nil, ho, e1]
  rw [hB] at hput
  refine ae (F := f88) rfl rfl (az 300 _ _ _ _ ?_)
  repeat' (first | refine ab ?_ | refine kV (jT k (by omega)) ?_ | refine kX [] [(86, _, _)] trivial ⟨rfl, pz trivial⟩ (hput) ?_ | (refine aa ?_ ?_ <;> intro h))
  (conv => whnf); first | refine cX [(0, _, _)] [(92, _, _)] [true] ?_ | refine cY [(0, _, _)] [(92, _, _)] [true] ?_
  exact CR (by simp <;> omega) (by simp [byteCells])
 ·rw [show bn k v = [bx k, UInt8.ofNat k.toNat] ++ be 1 v.length ++ v from by simp [bn, hlong, be]]
  have hput := cl [bx k, UInt8.ofNat k.toNat] (by simp) 1 v.length (by omega)
  have hB : byteCells [bx k, UInt8.ofNat k.toNat] = [[.int .u8 (bx k).toNat], [.int .u8 k]] := by
   simp only [byteCells, List.map_cons, List.map_nil, e1]
  rw [hB] at hput
  refine ae (F := f88) rfl rfl (az 300 _ _ _ _ ?_)
  repeat' (first | refine ab ?_ | refine kV (jT k (by omega)) ?_ | refine kX [] [(86, _, _)] trivial ⟨rfl, pz trivial⟩ (hput) ?_ | (refine aa ?_ ?_ <;> intro h))
  (conv => whnf); first | refine cX [(0, _, _)] [(92, _, _)] [true] ?_ | refine cY [(0, _, _)] [(92, _, _)] [true] ?_
  exact CR (by simp <;> omega) (by simp [byteCells])
end Go.AM.IR
namespace Go.AM.IR
theorem aak (l : List Int) : wdB l = cd l := rfl
theorem xL (x : Int) (h0 : 0 ≤ x) (h1 : x ≤ 4294967295) : ah G 90 [.sl 1 [[.int .u32 x]]] [] (rB (be 4 x.toNat)) := by
 have h := lU [x] (by simp) (by simp; omega)
 rw [show wdB [x] = be 4 x.toNat from by simp [wdB]] at h
 exact h
theorem tp (l : List TLV) (a : Attrs) (hv : ∀ t ∈ l, (0 < t.kind ∧ t.kind ≤ 255) ∧ t.value.length ≤ 255) (ha : a.unknown = l) (b0 : List UInt8) (hb : (b0 ++ c13 a).length < 2 ^ 37) (hl : l.length < 2 ^ 40) (ln : Int) (hln : ln = l.length) : ∀ (rest done : List TLV) (g n1 : Nat) (es : List (List AV)) (T : List (Nat × AV)) (H : aq) (c : Nat) (n : Int) (e : l = done ++ rest) (hn : n = done.length) (hn1 : n1 = (b0 ++ done.flatMap fun t => bn t.kind t.value).length) (hes : es = byteCells (b0 ++ done.flatMap fun t => bn t.kind t.value)), Ev G ⟨Qr, ⟨(121, .sl 2 (l.map TLV.enc)) :: (122, .int .i64 ln) :: (123, .int .i64 n) :: (10, .vs 108 g n1) :: T, (108, some (g, .vec 1 es)) :: H, c⟩, [.t 4, .t 5], 0⟩ (bV false (b0 ++ c13 a))
 | [], done, g, n1, es, T, H, c, n, e, hn, hn1, hes => by
  have hd : l.length = done.length := by simp [e]
  have hll : (l.map TLV.enc).length = l.length := by simp
  obtain rfl : l = done := by simpa using e
  subst hn1 hes
  refine evl ?_
  repeat' (first | refine ab ?_ | (refine aa ?_ ?_ <;> intro h))
  refine dc [(108, g, .vec 1 (byteCells _))] ⟨⟨rfl, puL, trivial⟩, rfl, rfl, (by simp), ?_⟩
  simp [AV.ren, ch, φR, bV, c13, ha]
 | x :: r, done, g, n1, es, T, H, c, n, e, hn, hn1, hes => by
  have hd : l.length = done.length + (r.length + 1) := by simp [e]
  have hll : (l.map TLV.enc).length = l.length := by simp
  have hx : (l.map TLV.enc)[n.toNat]? = some (TLV.enc x) := by simp [e, hn]
  obtain ⟨⟨hk0, hk1⟩, hxl⟩ := hv x (by simp [e])
  subst hn1 hes
  have hb2 : (b0 ++ done.flatMap fun t => bn t.kind t.value).length ≤ (b0 ++ c13 a).length := by simp [c13, ha, e]
  have hput := oq (b0 ++ done.flatMap fun t => bn t.kind t.value) x.value x.kind hk0 hk1 (by omega) (by omega)
  refine evl ?_
  repeat' (first | refine ab ?_ | refine kX [(108, _, _)] [] ⟨rfl, trivial⟩ trivial (hput) ?_ | (refine aa ?_ ?_ <;> intro h))
  refine ag [121, 122, 123, 10] [108] ?_; exact tp l a hv ha b0 hb hl ln hln r (done ++ [x]) _ _ _ _ _ _ (n + 1) (by simp [e]) (by simp [hn] <;> omega) (by simp) (by simp)
structure EncV2 (a : Attrs) : Prop where
 unknown : ∀ t ∈ a.unknown, (0 < t.kind ∧ t.kind ≤ 255) ∧ t.value.length ≤ 255
theorem AA (a : Attrs) (hv : EncV a) (hv2 : EncV2 a) (wide : Bool) (b : List UInt8) (T : List (Nat × AV)) (H : aq) (c g : Nat) (hb : (b ++ r13 a (wd wide)).length < 2 ^ 37) : Ev G ⟨[.code (suf 15 f68.body)], ⟨(10, .vs 108 g b.length) :: (2, .ref 66 1 0) :: (1, .bool wide) :: T, (66, some (1, .cells a.enc)) :: (108, some (g, .vec 1 (byteCells b))) :: H, c⟩, [.t 4, .t 5], 0⟩ (bV false (b ++ r13 a (wd wide))) := by
 refine aG (b := suf 16 f68.body) ?_
 refine wk3 ?_
 repeat' (first | refine ab ?_ | (refine aa ?_ ?_ <;> intro h))
 refine ag [121, 122, 123, 10] [108] ?_
 have hu := hv.unknownL
 exact tp a.unknown a hv2.unknown rfl b hb (by omega) _ (by simp) a.unknown [] g b.length (byteCells b) _ _ _ 0 rfl rfl (by simp) (by simp)
theorem AE (a : Attrs) (hv : EncV a) (hv2 : EncV2 a) (wide : Bool) (b : List UInt8) (T : List (Nat × AV)) (H : aq) (c g : Nat) (hb : (b ++ r12 a (wd wide)).length < 2 ^ 37) : Ev G ⟨[.code (suf 14 f68.body)], ⟨(10, .vs 108 g b.length) :: (2, .ref 66 1 0) :: (1, .bool wide) :: T, (66, some (1, .cells a.enc)) :: (108, some (g, .vec 1 (byteCells b))) :: H, c⟩, [.t 4, .t 5], 0⟩ (bV false (b ++ r12 a (wd wide))) := by
 have hf := hv.clusters
 have hag := hv.aggrAddr
 have hwd := fU wide
 have hcl := hv.clustersL
 have hcm := hv.commsL
 have hll1 : (a.clusters.map bf).length = a.clusters.length := by simp
 have hll2 : (a.comms.map bf).length = a.comms.length := by simp
 have hbl : b.length < 2 ^ 37 := by simp at hb; omega
 by_cases hc : a.clusters.length > 0
 ·have hq : b ++ r12 a (wd wide) = (b ++ bn 10 (wdB a.clusters)) ++ r13 a (wd wide) := by simp [r12, c12, hc, aak]
  have hvl : (wdB a.clusters : List UInt8).length < 2 ^ 38 := by (rw [wdB, eF]; omega)
  have hput := eO b (wdB a.clusters) 10 (by omega) (by omega) (by omega) hvl
  rw [hq] at hb ⊢
  refine aG (b := suf 15 f68.body) ?_
  refine wd1 ?_
  repeat' (first | refine ab ?_ | refine kN (lU a.clusters (by omega) hv.clusters) ?_ | refine kX [(108, _, _), (182, _, _)] [] ⟨rfl, rfl, trivial⟩ trivial (hput) ?_ | (refine aa ?_ ?_ <;> intro h))
  refine ag [10, 2, 1] [66, 108] ?_
  exact AA a hv hv2 wide _ _ _ _ _ hb
 ·have hq : b ++ r12 a (wd wide) = b ++ r13 a (wd wide) := by simp [r12, c12, hc]
  rw [hq] at hb ⊢
  refine aG (b := suf 15 f68.body) ?_
  try simp only [Bool.not_eq_true] at hc
  refine wd1 ?_
  repeat' (first | refine ab ?_ | (refine aa ?_ ?_ <;> intro h))
  refine ag [10, 2, 1] [66, 108] ?_
  exact AA a hv hv2 wide _ _ _ _ _ hb
theorem AG (a : Attrs) (hv : EncV a) (hv2 : EncV2 a) (wide : Bool) (b : List UInt8) (T : List (Nat × AV)) (H : aq) (c g : Nat) (hb : (b ++ r11 a (wd wide)).length < 2 ^ 37) : Ev G ⟨[.code (suf 13 f68.body)], ⟨(10, .vs 108 g b.length) :: (2, .ref 66 1 0) :: (1, .bool wide) :: T, (66, some (1, .cells a.enc)) :: (108, some (g, .vec 1 (byteCells b))) :: H, c⟩, [.t 4, .t 5], 0⟩ (bV false (b ++ r11 a (wd wide))) := by
 have hf := hv.orig
 have hag := hv.aggrAddr
 have hwd := fU wide
 have hcl := hv.clustersL
 have hcm := hv.commsL
 have hll1 : (a.clusters.map bf).length = a.clusters.length := by simp
 have hll2 : (a.comms.map bf).length = a.comms.length := by simp
 have hbl : b.length < 2 ^ 37 := by simp at hb; omega
 by_cases hc : a.hasOrig = true
 ·have hq : b ++ r11 a (wd wide) = (b ++ bn 9 (be 4 a.orig.toNat)) ++ r12 a (wd wide) := by simp [r11, c11, hc, aak]
  have hvl : (be 4 a.orig.toNat : List UInt8).length < 2 ^ 38 := by (rw [bu]; omega)
  have hput := eO b (be 4 a.orig.toNat) 9 (by omega) (by omega) (by omega) hvl
  rw [hq] at hb ⊢
  refine aG (b := suf 14 f68.body) ?_
  refine wd1 ?_
  repeat' (first | refine ab ?_ | refine kX [] [(172, _, _)] trivial ⟨rfl, pz trivial⟩ ((xL a.orig (by omega) (by omega))) ?_ | refine kX [(108, _, _), (173, _, _)] [] ⟨rfl, rfl, trivial⟩ trivial (hput) ?_ | (refine aa ?_ ?_ <;> intro h))
  refine ag [10, 2, 1] [66, 108] ?_
  exact AE a hv hv2 wide _ _ _ _ _ hb
 ·have hq : b ++ r11 a (wd wide) = b ++ r12 a (wd wide) := by simp [r11, c11, hc]
  rw [hq] at hb ⊢
  refine aG (b := suf 14 f68.body) ?_
  try simp only [Bool.not_eq_true] at hc
  refine wd1 ?_
  repeat' (first | refine ab ?_ | (refine aa ?_ ?_ <;> intro h))
  refine ag [10, 2, 1] [66, 108] ?_
  exact AE a hv hv2 wide _ _ _ _ _ hb
theorem AH (a : Attrs) (hv : EncV a) (hv2 : EncV2 a) (wide : Bool) (b : List UInt8) (T : List (Nat × AV)) (H : aq) (c g : Nat) (hb : (b ++ r10 a (wd wide)).length < 2 ^ 37) : Ev G ⟨[.code (suf 12 f68.body)], ⟨(10, .vs 108 g b.length) :: (2, .ref 66 1 0) :: (1, .bool wide) :: T, (66, some (1, .cells a.enc)) :: (108, some (g, .vec 1 (byteCells b))) :: H, c⟩, [.t 4, .t 5], 0⟩ (bV false (b ++ r10 a (wd wide))) := by
 have hf := hv.comms
 have hag := hv.aggrAddr
 have hwd := fU wide
 have hcl := hv.clustersL
 have hcm := hv.commsL
 have hll1 : (a.clusters.map bf).length = a.clusters.length := by simp
 have hll2 : (a.comms.map bf).length = a.comms.length := by simp
 have hbl : b.length < 2 ^ 37 := by simp at hb; omega
 by_cases hc : a.comms.length > 0
 ·have hq : b ++ r10 a (wd wide) = (b ++ bn 8 (wdB a.comms)) ++ r11 a (wd wide) := by simp [r10, c10, hc, aak]
  have hvl : (wdB a.comms : List UInt8).length < 2 ^ 38 := by (rw [wdB, eF]; omega)
  have hput := eO b (wdB a.comms) 8 (by omega) (by omega) (by omega) hvl
  rw [hq] at hb ⊢
  refine aG (b := suf 13 f68.body) ?_
  refine wd1 ?_
  repeat' (first | refine ab ?_ | refine kN (lU a.comms (by omega) hv.comms) ?_ | refine kX [(108, _, _), (165, _, _)] [] ⟨rfl, rfl, trivial⟩ trivial (hput) ?_ | (refine aa ?_ ?_ <;> intro h))
  refine ag [10, 2, 1] [66, 108] ?_
  exact AG a hv hv2 wide _ _ _ _ _ hb
 ·have hq : b ++ r10 a (wd wide) = b ++ r11 a (wd wide) := by simp [r10, c10, hc]
  rw [hq] at hb ⊢
  refine aG (b := suf 13 f68.body) ?_
  try simp only [Bool.not_eq_true] at hc
  refine wd1 ?_
  repeat' (first | refine ab ?_ | (refine aa ?_ ?_ <;> intro h))
  refine ag [10, 2, 1] [66, 108] ?_
  exact AG a hv hv2 wide _ _ _ _ _ hb
theorem AP (a : Attrs) (hv : EncV a) (hv2 : EncV2 a) (wide : Bool) (b : List UInt8) (T : List (Nat × AV)) (H : aq) (c g : Nat) (hb : (b ++ r9 a (wd wide)).length < 2 ^ 37) : Ev G ⟨[.code (suf 11 f68.body)], ⟨(10, .vs 108 g b.length) :: (2, .ref 66 1 0) :: (1, .bool wide) :: T, (66, some (1, .cells a.enc)) :: (108, some (g, .vec 1 (byteCells b))) :: H, c⟩, [.t 4, .t 5], 0⟩ (bV false (b ++ r9 a (wd wide))) := by
 have hf := hv.aggrAS
 have hag := hv.aggrAddr
 have hwd := fU wide
 have hcl := hv.clustersL
 have hcm := hv.commsL
 have hll1 : (a.clusters.map bf).length = a.clusters.length := by simp
 have hll2 : (a.comms.map bf).length = a.comms.length := by simp
 have hbl : b.length < 2 ^ 37 := by simp at hb; omega
 by_cases hc : a.hasAggr = true
 ·have hq : b ++ r9 a (wd wide) = (b ++ bn 7 (be (wd wide) a.aggrAS.toNat ++ be 4 a.aggrAddr.toNat)) ++ r10 a (wd wide) := by simp [r9, c9, hc, aak]
  have hvl : (be (wd wide) a.aggrAS.toNat ++ be 4 a.aggrAddr.toNat : List UInt8).length < 2 ^ 38 := by (simp; omega)
  have hput := eO b (be (wd wide) a.aggrAS.toNat ++ be 4 a.aggrAddr.toNat) 7 (by omega) (by omega) (by omega) hvl
  have hp1 := lK (wd wide) a.aggrAS.toNat (by omega)
  rw [show ((a.aggrAS.toNat : Nat) : Int) = a.aggrAS from by omega] at hp1
  have hp2 := cl (be (wd wide) a.aggrAS.toNat) (by rw [bu]; omega) 4 a.aggrAddr.toNat (by omega)
  rw [show ((a.aggrAddr.toNat : Nat) : Int) = a.aggrAddr from by omega] at hp2
  rw [hq] at hb ⊢
  refine aG (b := suf 12 f68.body) ?_
  refine wd1 ?_
  repeat' (first | refine ab ?_ | refine kV (oa wide) ?_ | refine kX [] [(150, _, _)] trivial ⟨rfl, pz trivial⟩ (hp2) ?_ | refine kX [(108, _, _), (156, _, _)] [] ⟨rfl, rfl, trivial⟩ trivial (hput) ?_ | (refine aa ?_ ?_ <;> intro h))
  refine ag [10, 2, 1] [66, 108] ?_
  exact AH a hv hv2 wide _ _ _ _ _ hb
 ·have hq : b ++ r9 a (wd wide) = b ++ r10 a (wd wide) := by simp [r9, c9, hc]
  rw [hq] at hb ⊢
  refine aG (b := suf 12 f68.body) ?_
  try simp only [Bool.not_eq_true] at hc
  refine wd1 ?_
  repeat' (first | refine ab ?_ | (refine aa ?_ ?_ <;> intro h))
  refine ag [10, 2, 1] [66, 108] ?_
  exact AH a hv hv2 wide _ _ _ _ _ hb
theorem AQ (a : Attrs) (hv : EncV a) (hv2 : EncV2 a) (wide : Bool) (b : List UInt8) (T : List (Nat × AV)) (H : aq) (c g : Nat) (hb : (b ++ r8 a (wd wide)).length < 2 ^ 37) : Ev G ⟨[.code (suf 10 f68.body)], ⟨(10, .vs 108 g b.length) :: (2, .ref 66 1 0) :: (1, .bool wide) :: T, (66, some (1, .cells a.enc)) :: (108, some (g, .vec 1 (byteCells b))) :: H, c⟩, [.t 4, .t 5], 0⟩ (bV false (b ++ r8 a (wd wide))) := by
 have hf := hv.comms
 have hag := hv.aggrAddr
 have hwd := fU wide
 have hcl := hv.clustersL
 have hcm := hv.commsL
 have hll1 : (a.clusters.map bf).length = a.clusters.length := by simp
 have hll2 : (a.comms.map bf).length = a.comms.length := by simp
 have hbl : b.length < 2 ^ 37 := by simp at hb; omega
 by_cases hc : a.atomic = true
 ·have hq : b ++ r8 a (wd wide) = (b ++ bn 6 ([])) ++ r9 a (wd wide) := by simp [r8, c8, hc, aak]
  have hvl : ([] : List UInt8).length < 2 ^ 38 := by simp
  have hput := iq rfl (oq b [] 6 (by omega) (by omega) (by omega) (by simp)) (show LLe Any [.vs 0 0 b.length, .int .i64 6, .con (.slice none 0 0)] _ from ⟨.refl _, .refl _, LeP.nil 1, trivial⟩)
  rw [hq] at hb ⊢
  refine aG (b := suf 11 f68.body) ?_
  refine wd1 ?_
  repeat' (first | refine ab ?_ | refine kX [(108, _, _)] [] ⟨rfl, trivial⟩ trivial (hput) ?_ | (refine aa ?_ ?_ <;> intro h))
  refine ag [10, 2, 1] [66, 108] ?_
  exact AP a hv hv2 wide _ _ _ _ _ hb
 ·have hq : b ++ r8 a (wd wide) = b ++ r9 a (wd wide) := by simp [r8, c8, hc]
  rw [hq] at hb ⊢
  refine aG (b := suf 11 f68.body) ?_
  try simp only [Bool.not_eq_true] at hc
  refine wd1 ?_
  repeat' (first | refine ab ?_ | (refine aa ?_ ?_ <;> intro h))
  refine ag [10, 2, 1] [66, 108] ?_
  exact AP a hv hv2 wide _ _ _ _ _ hb
theorem Iz (a : Attrs) (hv : EncV a) (hv2 : EncV2 a) (wide : Bool) (b : List UInt8) (T : List (Nat × AV)) (H : aq) (c g : Nat) (hb : (b ++ r7 a (wd wide)).length < 2 ^ 37) : Ev G ⟨[.code (suf 9 f68.body)], ⟨(10, .vs 108 g b.length) :: (2, .ref 66 1 0) :: (1, .bool wide) :: T, (66, some (1, .cells a.enc)) :: (108, some (g, .vec 1 (byteCells b))) :: H, c⟩, [.t 4, .t 5], 0⟩ (bV false (b ++ r7 a (wd wide))) := by
 have hf := hv.pref
 have hag := hv.aggrAddr
 have hwd := fU wide
 have hcl := hv.clustersL
 have hcm := hv.commsL
 have hll1 : (a.clusters.map bf).length = a.clusters.length := by simp
 have hll2 : (a.comms.map bf).length = a.comms.length := by simp
 have hbl : b.length < 2 ^ 37 := by simp at hb; omega
 by_cases hc : a.hasPref = true
 ·have hq : b ++ r7 a (wd wide) = (b ++ bn 5 (be 4 a.pref.toNat)) ++ r8 a (wd wide) := by simp [r7, c7, hc, aak]
  have hvl : (be 4 a.pref.toNat : List UInt8).length < 2 ^ 38 := by (rw [bu]; omega)
  have hput := eO b (be 4 a.pref.toNat) 5 (by omega) (by omega) (by omega) hvl
  rw [hq] at hb ⊢
  refine aG (b := suf 10 f68.body) ?_
  refine wd1 ?_
  repeat' (first | refine ab ?_ | refine kX [] [(136, _, _)] trivial ⟨rfl, pz trivial⟩ ((xL a.pref (by omega) (by omega))) ?_ | refine kX [(108, _, _), (137, _, _)] [] ⟨rfl, rfl, trivial⟩ trivial (hput) ?_ | (refine aa ?_ ?_ <;> intro h))
  refine ag [10, 2, 1] [66, 108] ?_
  exact AQ a hv hv2 wide _ _ _ _ _ hb
 ·have hq : b ++ r7 a (wd wide) = b ++ r8 a (wd wide) := by simp [r7, c7, hc]
  rw [hq] at hb ⊢
  refine aG (b := suf 10 f68.body) ?_
  try simp only [Bool.not_eq_true] at hc
  refine wd1 ?_
  repeat' (first | refine ab ?_ | (refine aa ?_ ?_ <;> intro h))
  refine ag [10, 2, 1] [66, 108] ?_
  exact AQ a hv hv2 wide _ _ _ _ _ hb
theorem YY (a : Attrs) (hv : EncV a) (hv2 : EncV2 a) (wide : Bool) (b : List UInt8) (T : List (Nat × AV)) (H : aq) (c g : Nat) (hb : (b ++ r6 a (wd wide)).length < 2 ^ 37) : Ev G ⟨[.code (suf 8 f68.body)], ⟨(10, .vs 108 g b.length) :: (2, .ref 66 1 0) :: (1, .bool wide) :: T, (66, some (1, .cells a.enc)) :: (108, some (g, .vec 1 (byteCells b))) :: H, c⟩, [.t 4, .t 5], 0⟩ (bV false (b ++ r6 a (wd wide))) := by
 have hf := hv.med
 have hag := hv.aggrAddr
 have hwd := fU wide
 have hcl := hv.clustersL
 have hcm := hv.commsL
 have hll1 : (a.clusters.map bf).length = a.clusters.length := by simp
 have hll2 : (a.comms.map bf).length = a.comms.length := by simp
 have hbl : b.length < 2 ^ 37 := by simp at hb; omega
 by_cases hc : a.hasMED = true
 ·have hq : b ++ r6 a (wd wide) = (b ++ bn 4 (be 4 a.med.toNat)) ++ r7 a (wd wide) := by simp [r6, c6, hc, aak]
  have hvl : (be 4 a.med.toNat : List UInt8).length < 2 ^ 38 := by (rw [bu]; omega)
  have hput := eO b (be 4 a.med.toNat) 4 (by omega) (by omega) (by omega) hvl
  rw [hq] at hb ⊢
  refine aG (b := suf 9 f68.body) ?_
  refine wd1 ?_
  repeat' (first | refine ab ?_ | refine kX [] [(127, _, _)] trivial ⟨rfl, pz trivial⟩ ((xL a.med (by omega) (by omega))) ?_ | refine kX [(108, _, _), (128, _, _)] [] ⟨rfl, rfl, trivial⟩ trivial (hput) ?_ | (refine aa ?_ ?_ <;> intro h))
  refine ag [10, 2, 1] [66, 108] ?_
  exact Iz a hv hv2 wide _ _ _ _ _ hb
 ·have hq : b ++ r6 a (wd wide) = b ++ r7 a (wd wide) := by simp [r6, c6, hc]
  rw [hq] at hb ⊢
  refine aG (b := suf 9 f68.body) ?_
  try simp only [Bool.not_eq_true] at hc
  refine wd1 ?_
  repeat' (first | refine ab ?_ | (refine aa ?_ ?_ <;> intro h))
  refine ag [10, 2, 1] [66, 108] ?_
  exact Iz a hv hv2 wide _ _ _ _ _ hb
theorem YZ (a : Attrs) (hv : EncV a) (hv2 : EncV2 a) (wide : Bool) (b : List UInt8) (T : List (Nat × AV)) (H : aq) (c g : Nat) (hb : (b ++ r5 a (wd wide)).length < 2 ^ 37) : Ev G ⟨[.code (suf 7 f68.body)], ⟨(10, .vs 108 g b.length) :: (2, .ref 66 1 0) :: (1, .bool wide) :: T, (66, some (1, .cells a.enc)) :: (108, some (g, .vec 1 (byteCells b))) :: H, c⟩, [.t 4, .t 5], 0⟩ (bV false (b ++ r5 a (wd wide))) := by
 have hf := hv.nextHop
 have hag := hv.aggrAddr
 have hwd := fU wide
 have hcl := hv.clustersL
 have hcm := hv.commsL
 have hll1 : (a.clusters.map bf).length = a.clusters.length := by simp
 have hll2 : (a.comms.map bf).length = a.comms.length := by simp
 have hbl : b.length < 2 ^ 37 := by simp at hb; omega
 have hq : b ++ r5 a (wd wide) = (b ++ bn 3 (be 4 a.nextHop.toNat)) ++ r6 a (wd wide) := by simp [r5, c5, aak]
 have hvl : (be 4 a.nextHop.toNat : List UInt8).length < 2 ^ 38 := by (rw [bu]; omega)
 have hput := eO b (be 4 a.nextHop.toNat) 3 (by omega) (by omega) (by omega) hvl
 rw [hq] at hb ⊢
 refine aG (b := suf 8 f68.body) ?_
 refine wd1 ?_
 repeat' (first | refine ab ?_ | refine kX [] [(118, _, _)] trivial ⟨rfl, pz trivial⟩ ((xL a.nextHop (by omega) (by omega))) ?_ | refine kX [(108, _, _), (119, _, _)] [] ⟨rfl, rfl, trivial⟩ trivial (hput) ?_ | (refine aa ?_ ?_ <;> intro h))
 refine ag [10, 2, 1] [66, 108] ?_
 exact YY a hv hv2 wide _ _ _ _ _ hb
theorem Y5 (a : Attrs) (hv : EncV a) (hv2 : EncV2 a) (wide : Bool) (b : List UInt8) (T : List (Nat × AV)) (H : aq) (c g : Nat) (hb : (b ++ r4 a (wd wide)).length < 2 ^ 37) : Ev G ⟨[.code (suf 6 f68.body)], ⟨(10, .vs 108 g b.length) :: (2, .ref 66 1 0) :: (1, .bool wide) :: T, (66, some (1, .cells a.enc)) :: (108, some (g, .vec 1 (byteCells b))) :: H, c⟩, [.t 4, .t 5], 0⟩ (bV false (b ++ r4 a (wd wide))) := by
 have hf := hv.path
 have hag := hv.aggrAddr
 have hwd := fU wide
 have hcl := hv.clustersL
 have hcm := hv.commsL
 have hll1 : (a.clusters.map bf).length = a.clusters.length := by simp
 have hll2 : (a.comms.map bf).length = a.comms.length := by simp
 have hbl : b.length < 2 ^ 37 := by simp at hb; omega
 have hq : b ++ r4 a (wd wide) = (b ++ bn 2 (bN (wd wide) a.path)) ++ r5 a (wd wide) := by simp [r4, c4, aak]
 have hvl : (bN (wd wide) a.path : List UInt8).length < 2 ^ 38 := by (exact pathL wide a hv)
 have hput := eO b (bN (wd wide) a.path) 2 (by omega) (by omega) (by omega) hvl
 rw [hq] at hb ⊢
 refine aG (b := suf 7 f68.body) ?_
 refine wd1 ?_
 repeat' (first | refine ab ?_ | refine kN (yF a.path wide hv.segs hv.path) ?_ | refine kX [(108, _, _), (113, _, _)] [] ⟨rfl, rfl, trivial⟩ trivial (hput) ?_ | (refine aa ?_ ?_ <;> intro h))
 refine ag [10, 2, 1] [66, 108] ?_
 exact YZ a hv hv2 wide _ _ _ _ _ hb
theorem Y6 (a : Attrs) (hv : EncV a) (hv2 : EncV2 a) (wide : Bool) (T : List (Nat × AV)) (H : aq) (c : Nat) (hb : (r3 a (wd wide)).length < 2 ^ 37) : Ev G ⟨[.code (suf 5 f68.body)], ⟨(2, .ref 66 1 0) :: (1, .bool wide) :: T, (66, some (1, .cells a.enc)) :: H, c⟩, [.t 4, .t 5], 0⟩ (bV false (r3 a (wd wide))) := by
 have hf := hv.origin
 have hf3 := iL hf.1 hf.2
 have hq : r3 a (wd wide) = bn 1 [UInt8.ofNat a.origin.toNat] ++ r4 a (wd wide) := by simp [r3, c3]
 have hput := xC [UInt8.ofNat a.origin.toNat] 1 (by omega) (by omega) (by simp)
 have hB : byteCells [UInt8.ofNat a.origin.toNat] = [[.int .u8 a.origin]] := by simp only [byteCells, List.map_cons, List.map_nil, hf3]
 rw [hB] at hput
 rw [hq] at hb ⊢
 refine aG (b := suf 6 f68.body) ?_
 refine wd1 ?_
 repeat' (first | refine ab ?_ | refine kX [(107, _, _)] [] ⟨rfl, trivial⟩ trivial (hput) ?_ | (refine aa ?_ ?_ <;> intro h))
 refine ag [10, 2, 1] [66, 108] ?_
 exact Y5 a hv hv2 wide _ _ _ _ _ hb
theorem nY (l : List Int) (wide : Bool) (a : Attrs) (R : Ret) (go : ∀ (T : List (Nat × AV)) (H : aq) (c : Nat), Ev G ⟨[.code (suf 5 f68.body)], ⟨(2, .ref 66 1 0) :: (1, .bool wide) :: T, (66, some (1, .cells a.enc)) :: H, c⟩, [.t 4, .t 5], 0⟩ R) (hl : l.length < 2 ^ 40) (ln : Int) (hln : ln = l.length) : ∀ (rest done : List Int)  (T : List (Nat × AV)) (H : aq) (c : Nat) (n : Int) (e : l = done ++ rest) (hn : n = done.length) , Ev G ⟨Qs, ⟨(27, .sl 1 (l.map bj)) :: (28, .int .i64 ln) :: (29, .int .i64 n) :: (2, .ref 66 1 0) :: (1, .bool wide) :: T, (66, some (1, .cells a.enc)) :: H, c⟩, [.t 4, .t 5], 0⟩ (if (!wide && rest.any fun n => decide (n > 65535)) = true then ⟨.tup [.con (.slice none 0 0), .int .i64 5], []⟩ else R)
 | [], done,  T, H, c, n, e, hn => by
  have hd : l.length = done.length := by simp [e]
  have hll : (l.map bj).length = l.length := by simp
  rw [if_neg (by simp)]
  refine dG (cP 1 300 _ _ _ _ ?_)
  repeat' (first | refine ab ?_ | (refine aa ?_ ?_ <;> intro h))
  refine ag [2, 1] [66] ?_
  exact go _ _ _
 | x :: r, done,  T, H, c, n, e, hn => by
  have hd : l.length = done.length + (r.length + 1) := by simp [e]
  have hll : (l.map bj).length = l.length := by simp
  have hx : (l.map bj)[n.toNat]? = some (bj x) := by simp [e, hn]
  by_cases hw : wide = true
  ·rw [show (!wide && (x :: r).any fun n => decide (n > 65535)) = (!wide && r.any fun n => decide (n > 65535)) from by simp [hw]]
   refine dG (cP 1 300 _ _ _ _ ?_)
   repeat' (first | refine ab ?_ | (refine aa ?_ ?_ <;> intro h))
   refine ag [27, 28, 29, 2, 1] [66] ?_; exact nY l wide a R go hl ln hln r (done ++ [x])  _ _ _ (n + 1) (by simp [e]) (by simp [hn] <;> omega)
  ·have hw : wide = false := by simpa using hw
   by_cases hx2 : x > 65535
   ·rw [if_pos (by simp [hw, hx2])]
    refine dG (cP 1 300 _ _ _ _ ?_)
    repeat' (first | refine ab ?_ | (refine aa ?_ ?_ <;> intro h))
    refine ax ?_
    rfl
   ·rw [show (!wide && (x :: r).any fun n => decide (n > 65535)) = (!wide && r.any fun n => decide (n > 65535)) from by simp [hw]; omega]
    refine dG (cP 1 300 _ _ _ _ ?_)
    repeat' (first | refine ab ?_ | (refine aa ?_ ?_ <;> intro h))
    refine ag [27, 28, 29, 2, 1] [66] ?_; exact nY l wide a R go hl ln hln r (done ++ [x])  _ _ _ (n + 1) (by simp [e]) (by simp [hn] <;> omega)
theorem sU (a : Attrs) (wide : Bool) (hb : LenB a) (hfl : (bC a.path).length < 2 ^ 39) (hc : bW a = 0) (hv : EncV a) (hv2 : EncV2 a) (hl : (fh a wide).length < 2 ^ 37) : ah G 68 [.agg a.enc, .bool wide] [] (if (!wide && (bC a.path ++ [a.aggrAS]).any fun n => decide (n > 65535)) = true then ⟨.tup [.con (.slice none 0 0), .int .i64 5], []⟩ else bV false (fh a wide)) := by
 have h66 := kM a hb
 rw [hc] at h66
 have hpl := hv.path
 have hfll : ((bC a.path).map bj).length = (bC a.path).length := by simp
 refine ae (F := f68) rfl rfl (az 300 _ _ _ _ ?_)
 repeat' (first | refine ab ?_ | refine kN (pC a.path (by omega) (by omega)) ?_ | (refine aa ?_ ?_ <;> intro h))
 refine Ah [(85, _, .vec 1 ((bC a.path).map bj ++ [[AV.int .i64 a.aggrAS]]))] [(27, .sl 1 ((bC a.path ++ [a.aggrAS]).map bj)), (28, .int .i64 ((bC a.path ++ [a.aggrAS]).length : Nat)), (29, .int .i64 0), (2, .ref 66 1 0), (1, .bool wide)] [(66, some (1, .cells a.enc))] ⟨rfl, puL, trivial⟩ ⟨(by show AV.ren _ (.vs 85 _ _) = _; simp [AV.ren, φF, bj]; exact List.take_of_length_le (by simp)), (by show AV.ren _ (.int _ _) = _; simp [AV.ren]), rfl, rfl, rfl, trivial⟩ ?_ (fun T H => ?_)
 ·refine ⟨?_, trivial⟩
  show some (1, Blk.cells a.enc) = some (1, Blk.ren _ (Blk.cells a.enc))
  rw [Blk.ren_pure puL]
 ·refine nY (bC a.path ++ [a.aggrAS]) wide a _ (fun T H c => Y6 a hv hv2 wide T H c hl) (by simp; omega) _ rfl (bC a.path ++ [a.aggrAS]) [] _ _ _ 0 rfl rfl
end Go.AM.IR
namespace Go.AM.IR
theorem Sj {a : Attrs} (ha : a.ok) (h : bW a = 0) : EncV2 a := by
 have v := ft h
 exact ⟨fun t ht => by have := v.unknown t ht; omega⟩
theorem Aq (a : Attrs) (wide : Bool) (hb : AB a) (hfl : (bC a.path).length < 2 ^ 39) (ha : a.ok) : ah G 68 [.agg a.enc, .bool wide] [] (sV a wide) := by
 unfold sV
 by_cases hc : bW a = 0
 ·rw [if_pos hc]
  have v := ft hc
  have h := sU a wide (dY hb) hfl hc (Iy ha hc) (Sj ha hc) (by have := lj v wide; omega)
  rw [← wL v] at h
  cases hbad : dU a wide
  ·rw [hbad] at h; exact h
  ·rw [hbad] at h; exact h
 ·rw [if_neg hc]
  refine ae (F := f68) rfl rfl (az 300 _ _ _ _ ?_)
  repeat' (first | refine ab ?_ | refine kV (kM a (dY hb)) ?_ | (refine aa ?_ ?_ <;> intro h))
  all_goals (refine ax ?_; rfl)
end Go.AM.IR
namespace Go.AM.IR
theorem shrP {a j : Int} {kv : AV → Prop} (h : kv (.int .u32 ((a.toNat / 2 ^ j.toNat : Nat) : Int))) (ha : 0 ≤ a) (h0 : 0 ≤ j := by omega) (h1 : j ≤ 32 := by omega) : ∃ v, ca .shr (.int .u32 a) (.int .i64 j) = some v ∧ kv v := by
 obtain ⟨x, rfl⟩ : ∃ x : Nat, a = x := ⟨a.toNat, by omega⟩
 rw [Int.toNat_natCast] at h
 refine ⟨_, ?_, h⟩
 show (if j < 0 then none else some (AV.int .u32 ((x : Int).fdiv (2 ^ (min j.toNat 32))))) = _
 rw [if_neg (by omega), show min j.toNat 32 = j.toNat by omega]
 congr 2
 rw [Int.fdiv_eq_ediv_of_nonneg _ (by exact Int.le_of_lt (Int.pow_pos (by omega)))]
 simp
theorem Zn (x i : Nat) (hi : i < 4) (acc : List UInt8) (j : Int) (hj : j = 24 - 8 * (i : Int)) : byteCells (acc ++ (be 4 x).take i) ++ [[.int .u8 (UInt8.ofNat (x / 2 ^ j.toNat)).toNat]] = byteCells (acc ++ (be 4 x).take (i + 1)) := by
 subst hj
 have h : i = 0 ∨ i = 1 ∨ i = 2 ∨ i = 3 := by omega
 rcases h with rfl | rfl | rfl | rfl <;> simp [be, byteCells]
theorem qn (l : List Pfx) (p : Pfx) (ho : p.ok) (hv : bF p = true) (acc : List UInt8) (hacl : acc.length < 2 ^ 36) (ln n : Int) (hn : 0 ≤ n ∧ n < 2 ^ 40) (R : Ret)
  (go : ∀ (T : List (Nat × AV)) (H : aq) (c g m : Nat) (es : List (List AV)), m = (acc ++ (be 4 p.addr.toNat).take (bt p.len)).length → es = byteCells (acc ++ (be 4 p.addr.toNat).take (bt p.len)) →
   Ev G ⟨wA, ⟨(7, .sl 2 (l.map Pfx.enc)) :: (8, .int .i64 ln) :: (9, .int .i64 (n + 1)) :: (3, .vs 200 g m) :: T, (200, some (g, .vec 1 es)) :: H, c⟩, [.t 2], 0⟩ R) :
  ∀ (r i : Nat) (T : List (Nat × AV)) (H : aq) (c g gp m : Nat) (es : List (List AV)) (iI : Int) (hr : i + r = bt p.len) (hi : iI = i) (hm : m = (acc ++ (be 4 p.addr.toNat).take i).length) (hes : es = byteCells (acc ++ (be 4 p.addr.toNat).take i)),
  Ev G ⟨MT, ⟨(6, .int .i64 iI) :: (5, .ref 69 gp 0) :: (3, .vs 200 g m) :: (7, .sl 2 (l.map Pfx.enc)) :: (8, .int .i64 ln) :: (9, .int .i64 n) :: T, (69, some (gp, .cells p.enc)) :: (200, some (g, .vec 1 es)) :: H, c⟩, [.t 2], 0⟩ R
 | 0, i, T, H, c, g, gp, m, es, iI, hr, hi, hm, hes => by
  obtain ⟨a, b, _, d⟩ := de ho hv
  have hk : bt p.len = (p.len.toNat + 7) / 8 := rfl
  have h8 : ¬ 8 * iI < p.len := by omega
  refine evl ?_
  repeat' (first | refine ab ?_ | (refine aa ?_ ?_ <;> intro h))
  refine ag [7, 8, 9, 3] [200] ?_
  obtain rfl : i = bt p.len := by omega
  exact go _ _ _ g m es hm hes
 | r + 1, i, T, H, c, g, gp, m, es, iI, hr, hi, hm, hes => by
  obtain ⟨a, b, _, d⟩ := de ho hv
  have hk : bt p.len = (p.len.toNat + 7) / 8 := rfl
  have h8 : 8 * iI < p.len := by omega
  have h4 := jQ b
  have ha := ho.addr
  unfold okU at ha
  subst hm hes
  refine evl ?_
  repeat' ((conv => whnf); first | refine shrP ?_ ha.1 | refine dz ?_ | (refine aa ?_ ?_ <;> intro h))
  refine ag [6, 5, 3, 7, 8, 9] [69, 200] ?_
  refine qn l p ho hv acc hacl ln n hn R go r (i + 1) _ _ _ _ _ _ _ (iI + 1) (by omega) (by omega) ?_ ?_
  ·simp; omega
  ·exact Zn p.addr.toNat i (by omega) acc _ (by omega)
theorem oW (l : List Pfx) (hv : ∀ p ∈ l, p.ok ∧ bF p = true) (hlen : l.length < 2 ^ 30) (hl : l.length < 2 ^ 40) (ln : Int) (hln : ln = l.length) : ∀ (rest done : List Pfx) (g m : Nat) (es : List (List AV)) (T : List (Nat × AV)) (H : aq) (c : Nat) (n : Int) (e : l = done ++ rest) (hn : n = done.length) (hm : m = (bi done).length) (hes : es = byteCells (bi done)), Ev G ⟨wA, ⟨(7, .sl 2 (l.map Pfx.enc)) :: (8, .int .i64 ln) :: (9, .int .i64 n) :: (3, .vs 200 g m) :: T, (200, some (g, .vec 1 es)) :: H, c⟩, [.t 2], 0⟩ (rB (bi l))
 | [], done, g, m, es, T, H, c, n, e, hn, hm, hes => by
  have hd : l.length = done.length := by simp [e]
  have hll : (l.map Pfx.enc).length = l.length := by simp
  obtain rfl : l = done := by simpa using e
  refine evl ?_
  repeat' (first | refine ab ?_ | (refine aa ?_ ?_ <;> intro h))
  exact e7 200 ⟨_, _, _, rfl, rfl, hm, hes⟩
 | x :: r, done, g, m, es, T, H, c, n, e, hn, hm, hes => by
  have hd : l.length = done.length + (r.length + 1) := by simp [e]
  have hll : (l.map Pfx.enc).length = l.length := by simp
  have hx : (l.map Pfx.enc)[n.toNat]? = some (Pfx.enc x) := by simp [e, hn]
  obtain ⟨ho, hvx⟩ := hv x (by simp [e])
  obtain ⟨a, b, _, d⟩ := de ho hvx
  have hx := ho.addr
  unfold okU at hx
  subst hm hes
  have hpl := ep (l := done) (fun p hp => by have := (de (hv p (by simp [e, hp])).1 (hv p (by simp [e, hp])).2); omega)
  have hn1 : ((UInt8.ofNat x.len.toNat).toNat : Int) = x.len := by rw [ofN (by omega)]; omega
  have hacc : bi (done ++ [x]) = (bi done ++ [UInt8.ofNat x.len.toNat]) ++ (be 4 x.addr.toNat).take (bt x.len) := by rw [IM _ _ (jQ b)]; simp [bi, j6]
  refine evl ?_
  repeat' (first | refine ab ?_ | (refine aa ?_ ?_ <;> intro h))
  refine ag [6, 5, 3, 7, 8, 9] [69, 200] ?_
  refine qn l x ho hvx (bi done ++ [UInt8.ofNat x.len.toNat]) (by simp <;> omega) _ n (by omega) _ ?_ (bt x.len) 0 _ _ _ _ _ _ _ 0 (by omega) rfl (by simp) (by simp [byteCells] <;> omega)
  intro T H c g m es hm hes
  exact oW l hv hlen hl _ hln r (done ++ [x]) g m es _ _ _ (n + 1) (by simp [e]) (by simp [hn]) (by rw [hacc]; exact hm) (by rw [hacc]; exact hes)
theorem iX (l : List Pfx) (hv : ∀ p ∈ l, p.ok ∧ bF p = true) (hlen : l.length < 2 ^ 30) : ah G 357 [.sl 2 (l.map Pfx.enc)] [] (rB (bi l)) := by
 refine ae (F := QE) rfl rfl (az 300 _ _ _ _ ?_)
 repeat' (first | refine ab ?_ | (refine aa ?_ ?_ <;> intro h))
 refine cH 200 1 [(3, .vs 200 _ 0)] [] ⟨LeP.nilV _ _ _, trivial⟩ trivial ?_
 refine ag [7, 8, 9, 3] [200] ?_
 exact oW l hv hlen (by omega) _ (by simp) l [] _ _ _ _ _ _ 0 rfl rfl rfl rfl
theorem Pq (i : Nat) : byteCells (List.replicate i 255) ++ [[.int .u8 255]] = byteCells (List.replicate (i + 1) 255) := by
 rw [List.replicate_succ']; simp [byteCells]
theorem py (N : Nat) (k : Int) (hN : N < 2 ^ 30) (hk : 0 ≤ k ∧ k ≤ 255) : ∀ (r i : Nat) (T : List (Nat × AV)) (H : aq) (c g m : Nat) (es : List (List AV)) (iI : Int) (hr : i + r = 16) (hi : iI = i) (hm : m = i) (hes : es = byteCells (List.replicate i 255)),
  Ev G ⟨QC, ⟨(6, .int .i64 iI) :: (5, .vs 200 g m) :: (1, .int .i64 k) :: (0, .int .i64 (N : Int)) :: T, (200, some (g, .vec 1 es)) :: H, c⟩, [.t 4], 0⟩ (rB (dl N k.toNat))
 | 0, i, T, H, c, g, m, es, iI, hr, hi, hm, hes => by
  obtain rfl : i = 16 := by omega
  subst hm hes
  have hp := cl (List.replicate 16 255) (by simp) 2 N (by omega)
  have hl : (byteCells (List.replicate 16 255)).length = 16 := by simp
  have e1 : ((UInt8.ofNat k.toNat).toNat : Int) = k := by rw [ofN (by omega)]; omega
  refine evl ?_
  repeat' (first | refine ab ?_ | refine kX [] [(200, _, _)] trivial ⟨rfl, pz trivial⟩ (hp) ?_ | (refine aa ?_ ?_ <;> intro h))
  refine e7 79 ⟨_, _, _, rfl, rfl, (by simp [dl]), ?_⟩
  simp [dl, byteCells] <;> omega
 | r + 1, i, T, H, c, g, m, es, iI, hr, hi, hm, hes => by
  have hl : es.length = i := by rw [hes]; simp
  subst hm
  refine evl ?_
  repeat' (first | refine ab ?_ | (refine aa ?_ ?_ <;> intro h))
  refine ag [6, 5, 1, 0] [200] ?_
  exact py N k hN hk r (m + 1) _ _ _ _ _ _ (iI + 1) (by omega) (by omega) (by simp) (by rw [hes]; exact Pq m)
theorem f8 (N : Nat) (k : Int) (hN : N < 2 ^ 30) (hk : 0 ≤ k ∧ k ≤ 255) : ah G 358 [.int .i64 (N : Int), .int .i64 k] [] (rB (dl N k.toNat)) := by
 refine ae (F := QD) rfl rfl (az 300 _ _ _ _ ?_)
 repeat' (first | refine ab ?_ | (refine aa ?_ ?_ <;> intro h))
 refine cH 200 1 [(5, .vs 200 _ 0)] [] ⟨LeP.nilV _ _ _, trivial⟩ trivial ?_
 refine ag [6, 5, 1, 0] [200] ?_
 exact py N k hN hk 16 0 _ _ _ _ _ _ 0 rfl rfl rfl rfl
theorem rN (l : List Cap) (b : List UInt8) (hv : ∀ c ∈ l, (1 ≤ c.code ∧ c.code ≤ 255) ∧ c.value.length ≤ 255) (hcl : (bG l).length ≤ 253) (hb : b.length < 2 ^ 20) (hl : l.length < 2 ^ 40) (ln : Int) (hln : ln = l.length) : ∀ (rest done : List Cap) (g gb m mb : Nat) (es eb : List (List AV)) (T : List (Nat × AV)) (H : aq) (c : Nat) (n : Int) (e : l = done ++ rest) (hn : n = done.length) (hm : m = (bG done).length) (hes : es = byteCells (bG done)) (hmb : mb = b.length) (heb : eb = byteCells b), Ev G ⟨MU, ⟨(29, .sl 2 (l.map Cap.enc)) :: (30, .int .i64 ln) :: (31, .int .i64 n) :: (5, .vs 200 g m) :: (4, .vs 91 gb mb) :: T, (200, some (g, .vec 1 es)) :: (91, some (gb, .vec 1 eb)) :: H, c⟩, [.t 2], 0⟩ (rB (b ++ dK l))
 | [], done, g, gb, m, mb, es, eb, T, H, c, n, e, hn, hm, hes, hmb, heb => by
  have hd : l.length = done.length := by simp [e]
  have hll : (l.map Cap.enc).length = l.length := by simp
  obtain rfl : l = done := by simpa using e
  subst hm hes hmb heb
  unfold dK
  by_cases h0 : bG l = []
  ·have hz : (bG l).length = 0 := by simp [h0]
   rw [if_pos h0]
   refine evl ?_
   repeat' (first | refine ab ?_ | (refine aa ?_ ?_ <;> intro h))
   refine e7 91 ⟨_, _, _, rfl, rfl, (by simp), ?_⟩
   simp [byteCells]
  ·have hz : 0 < (bG l).length := List.length_pos_iff.2 h0
   rw [if_neg h0]
   have e1 : ((UInt8.ofNat ((bG l).length + 2)).toNat : Int) = ((bG l).length + 2 : Nat) := ofN (by omega)
   have e2 : ((UInt8.ofNat (bG l).length).toNat : Int) = ((bG l).length : Nat) := ofN (by omega)
   refine evl ?_
   repeat' (first | refine ab ?_ | (refine aa ?_ ?_ <;> intro h))
   refine e7 91 ⟨_, _, _, rfl, rfl, (by simp; omega), ?_⟩
   simp only [byteCells, List.map_append, List.map_cons, e1, e2, List.append_assoc, List.cons_append, List.nil_append]
   simp
 | x :: r, done, g, gb, m, mb, es, eb, T, H, c, n, e, hn, hm, hes, hmb, heb => by
  have hd : l.length = done.length + (r.length + 1) := by simp [e]
  have hll : (l.map Cap.enc).length = l.length := by simp
  have hx : (l.map Cap.enc)[n.toNat]? = some (Cap.enc x) := by simp [e, hn]
  obtain ⟨h1, h2⟩ := hv x (by simp [e])
  subst hm hes hmb heb
  have hcd : (bG done).length ≤ 253 := by rw [e] at hcl; simp [bG] at hcl ⊢; omega
  refine evl ?_
  repeat' (first | refine ab ?_ | (refine aa ?_ ?_ <;> intro h))
  refine ag [29, 30, 31, 5, 4] [200, 91] ?_; exact rN l b hv hcl hb hl ln hln r (done ++ [x]) _ _ _ _ _ _ _ _ _ (n + 1) (by simp [e]) (by simp [hn] <;> omega) (by simp [bG]; omega) (Br done x h1) rfl rfl
theorem xf (m : PMsg) (h : OpenOk m) (hr : okU m.router) : ah G 356 [.agg m.enc] [] (rB (dx m)) := by
 obtain ⟨c1, c2⟩ := h.caps
 obtain ⟨b1, b2⟩ := h.hold
 obtain ⟨a1, a2⟩ := h.as
 have hver := h.version
 unfold okU at hr
 have hs : 0 ≤ bI m.as ∧ bI m.as ≤ 65535 := by unfold bI; split <;> omega
 have hp1 := cl [UInt8.ofNat m.version.toNat] (by simp) 2 (bI m.as).toNat (by omega)
 have hp2 := cl ([UInt8.ofNat m.version.toNat] ++ be 2 (bI m.as).toNat) (by simp) 2 m.hold.toNat (by omega)
 have hp3 := cl ([UInt8.ofNat m.version.toNat] ++ be 2 (bI m.as).toNat ++ be 2 m.hold.toNat) (by simp) 4 m.router.toNat (by omega)
 have hcl := gz m.caps
 have hv : ∀ c ∈ m.caps, (1 ≤ c.code ∧ c.code ≤ 255) ∧ c.value.length ≤ 255 := fun c hc => ⟨c1 c hc, by have := nU hc; omega⟩
 have e1 : byteCells [UInt8.ofNat m.version.toNat] = [[.int .u8 m.version]] := by
  have : ((UInt8.ofNat m.version.toNat).toNat : Int) = m.version := by rw [ofN (by omega)]; omega
  simp only [byteCells, List.map_cons, List.map_nil, this]
 rw [e1, show (((bI m.as).toNat : Nat) : Int) = bI m.as by omega] at hp1
 rw [show ((m.hold.toNat : Nat) : Int) = m.hold by omega] at hp2
 rw [show ((m.router.toNat : Nat) : Int) = m.router by omega] at hp3
 have hl : (m.caps.map Cap.enc).length = m.caps.length := by simp
 have hlc : m.caps.length ≤ 253 := by
  have : ∀ l : List Cap, (l.length : Int) ≤ capT l := fun l => by
   induction l with
   | nil => simp [capT]
   | cons c r ih => simp only [capT, List.length_cons]; omega
  have := this m.caps; omega
 have key := rN m.caps ([UInt8.ofNat m.version.toNat] ++ be 2 (bI m.as).toNat ++ be 2 m.hold.toNat ++ be 4 m.router.toNat) hv (by omega) (by simp) (by omega) ((m.caps.map Cap.enc).length : Int) (by simp) m.caps []
 rw [show dx m = [UInt8.ofNat m.version.toNat] ++ be 2 (bI m.as).toNat ++ be 2 m.hold.toNat ++ be 4 m.router.toNat ++ dK m.caps from by simp [dx]]
 by_cases has : m.as > 65535
 ·rw [show bI m.as = 23456 from if_pos has] at *
  refine ae (F := JA) rfl rfl (az 300 _ _ _ _ ?_)
  repeat' (first | refine ab ?_ | refine kX [] [(79, _, _)] trivial ⟨rfl, pz trivial⟩ (hp1) ?_ | refine kX [] [(82, _, _)] trivial ⟨rfl, pz trivial⟩ (hp2) ?_ | refine kX [] [(87, _, _)] trivial ⟨rfl, pz trivial⟩ (hp3) ?_ | (refine aa ?_ ?_ <;> intro h))
  refine cH 200 1 [(5, .vs 200 _ 0)] [] ⟨LeP.nilV _ _ _, trivial⟩ trivial ?_
  refine ag [29, 30, 31, 5, 4] [200, 91] ?_
  exact key _ _ _ _ _ _ _ _ _ 0 rfl rfl rfl rfl rfl rfl
 ·rw [show bI m.as = m.as from if_neg has] at *
  refine ae (F := JA) rfl rfl (az 300 _ _ _ _ ?_)
  repeat' (first | refine ab ?_ | refine kX [] [(79, _, _)] trivial ⟨rfl, pz trivial⟩ (hp1) ?_ | refine kX [] [(82, _, _)] trivial ⟨rfl, pz trivial⟩ (hp2) ?_ | refine kX [] [(87, _, _)] trivial ⟨rfl, pz trivial⟩ (hp3) ?_ | (refine aa ?_ ?_ <;> intro h))
  refine cH 200 1 [(5, .vs 200 _ 0)] [] ⟨LeP.nilV _ _ _, trivial⟩ trivial ?_
  refine ag [29, 30, 31, 5, 4] [200, 91] ?_
  exact key _ _ _ _ _ _ _ _ _ 0 rfl rfl rfl rfl rfl rfl
end Go.AM.IR
namespace Go.AM.IR
theorem zA2 {k : AV → Prop} {a b : Int} (h : k (.int .i64 (a + b))) (h1 : -9223372036854775808 ≤ a + b := by first | omega | (simp; omega)) (h2 : a + b ≤ 9223372036854775807 := by first | omega | (simp; omega)) : ∃ v, ca .add (.int .i64 a) (.int .i64 b) = some v ∧ k v := zA h h1 h2
theorem Ss (m : PMsg) (h : AM m) (ho : m.ok) (hw : m.withdrawn.length < 2 ^ 30) (hr : m.reach.length < 2 ^ 30) (hfl : (bC m.attrs.path).length < 2 ^ 39) (wide : Bool) (h0 : bh m = 0) (hk : m.kind = 1) : ah G 353 [.agg m.enc, .bool wide] [] (i3 m wide) := by
 have hc := ee m h.lenO (dY h.attrs) ⟨ho.withdrawn, ho.reach⟩
 rw [h0] at hc
 have ok := qF h0 hk
 have h1 := xf m ok ho.router
 have hl := lR ok
 have hb : bv m wide = dx m := by unfold bv; rw [if_pos hk]
 rw [dg (d6 h0 (fun q => by have := q.1; omega) (by rw [hb]; omega)), fD, hb]
 have h2 := f8 (19 + (dx m).length) m.kind (by omega) (by omega)
 have hh := dT (19 + (dx m).length) m.kind.toNat
 generalize dx m = b at *
 rw [show ((19 + b.length : Nat) : Int) = 19 + (b.length : Int) by omega] at h2
 refine ae (F := kJ) rfl rfl (az 300 _ _ _ _ ?_)
 repeat' (first | refine ab ?_ | (refine aa ?_ ?_ <;> intro h))
 refine dc [(161, _, .vec 1 _)] ⟨⟨rfl, puL, trivial⟩, rfl, rfl, (by simp), ?_⟩
 exact jh (by simp) (by simp)
theorem NM (m : PMsg) (h : AM m) (ho : m.ok) (hw : m.withdrawn.length < 2 ^ 30) (hr : m.reach.length < 2 ^ 30) (hfl : (bC m.attrs.path).length < 2 ^ 39) (wide : Bool) (h0 : bh m = 0) (hk : m.kind = 2 ∧ m.reach = []) : ah G 353 [.agg m.enc, .bool wide] [] (i3 m wide) := by
 have hc := ee m h.lenO (dY h.attrs) ⟨ho.withdrawn, ho.reach⟩
 rw [h0] at hc
 have ok := ib h0 hk.1
 have hk1 := hk.1
 have hb : bv m wide = cg m wide := by unfold bv; rw [if_neg (by omega), if_pos hk.1]
 have h1 := iX m.withdrawn (fun p hp => ⟨ho.withdrawn p hp, ok.withdrawn p hp⟩) hw
 have h2 := iX m.reach (fun p hp => ⟨ho.reach p hp, ok.reach p hp⟩) hr
 have l1 := ep (l := m.withdrawn) (fun p hp => by have := de (ho.withdrawn p hp) (ok.withdrawn p hp); omega)
 have l2 := ep (l := m.reach) (fun p hp => by have := de (ho.reach p hp) (ok.reach p hp); omega)
 have hll : (m.reach.map Pfx.enc).length = m.reach.length := by simp
 have hlen : (cg m wide).length = 4 + (bi m.withdrawn).length + (bA m wide).length + (bi m.reach).length := by unfold cg; simp; omega
 have hu : cg m wide = be 2 (bi m.withdrawn).length ++ bi m.withdrawn ++ be 2 (bA m wide).length ++ bA m wide ++ bi m.reach := by simp [cg]
 have hz := hk.2
 have hzl : m.reach.length = 0 := by simp [hz]
 have ha : bA m wide = [] := by unfold bA; rw [if_pos hz]
 have hq : bi m.reach = [] := by rw [hz]; rfl
 have hnb : ¬ jZ m wide := fun q => q.2.1 hz
 have hql : (bi m.reach).length = 0 := by rw [hq]; rfl
 rw [ha] at hu hlen
 simp only [List.length_nil] at hlen hu
 by_cases hl : 19 + (cg m wide).length > 65535
 ·rw [fT (pW h0 hnb (by rw [hb]; exact hl)) (by decide)]
  clear hu l2
  generalize bi m.withdrawn = g at *
  generalize bi m.reach = q at *
  refine ae (F := kJ) rfl rfl (az 300 _ _ _ _ ?_)
  repeat' (first | refine ab ?_ | (refine aa ?_ ?_ <;> intro h))
  refine ax ?_; rfl
 ·rw [dg (d6 h0 hnb (by rw [hb]; omega)), fD, hb]
  have h3 := f8 (19 + (cg m wide).length) m.kind (by omega) (by omega)
  have hh := dT (19 + (cg m wide).length) m.kind.toNat
  generalize bi m.withdrawn = g at *
  generalize bi m.reach = q at *
  have p1 := lK 2 g.length (by omega)
  have p2 := cl (be 2 g.length ++ g) (by simp; omega) 2 0 (by omega)
  rw [dZ] at p2
  have h5 : ∀ N : Nat, N = (cg m wide).length → ah G 358 [.int .i64 (19 + (N : Int)), .int .i64 m.kind] [] (rB (dl (19 + (cg m wide).length) m.kind.toNat)) := fun N hN => by rw [hN]; have := h3; rwa [show ((19 + (cg m wide).length : Nat) : Int) = 19 + ((cg m wide).length : Int) by omega] at this
  refine ae (F := kJ) rfl rfl (az 300 _ _ _ _ ?_)
  repeat' ((conv => whnf); first | refine zA2 ?_ | refine dz ?_ | refine kX [] [(126, _, _)] trivial ⟨rfl, pz trivial⟩ (p2) ?_ | refine kN (h5 _ (by simp [hlen] <;> omega)) ?_ | (refine aa ?_ ?_ <;> intro h))
  refine dc [(161, _, .vec 1 _)] ⟨⟨rfl, puL, trivial⟩, rfl, rfl, (by simp), ?_⟩
  exact jh (by simp [hu] <;> omega) (by simp [hu])
theorem NL (m : PMsg) (h : AM m) (ho : m.ok) (hw : m.withdrawn.length < 2 ^ 30) (hr : m.reach.length < 2 ^ 30) (hfl : (bC m.attrs.path).length < 2 ^ 39) (wide : Bool) (h0 : bh m = 0) (hk : m.kind = 2 ∧ m.reach ≠ []) : ah G 353 [.agg m.enc, .bool wide] [] (i3 m wide) := by
 have hc := ee m h.lenO (dY h.attrs) ⟨ho.withdrawn, ho.reach⟩
 rw [h0] at hc
 have ok := ib h0 hk.1
 have hk1 := hk.1
 have hb : bv m wide = cg m wide := by unfold bv; rw [if_neg (by omega), if_pos hk.1]
 have h1 := iX m.withdrawn (fun p hp => ⟨ho.withdrawn p hp, ok.withdrawn p hp⟩) hw
 have h2 := iX m.reach (fun p hp => ⟨ho.reach p hp, ok.reach p hp⟩) hr
 have l1 := ep (l := m.withdrawn) (fun p hp => by have := de (ho.withdrawn p hp) (ok.withdrawn p hp); omega)
 have l2 := ep (l := m.reach) (fun p hp => by have := de (ho.reach p hp) (ok.reach p hp); omega)
 have hll : (m.reach.map Pfx.enc).length = m.reach.length := by simp
 have hlen : (cg m wide).length = 4 + (bi m.withdrawn).length + (bA m wide).length + (bi m.reach).length := by unfold cg; simp; omega
 have hu : cg m wide = be 2 (bi m.withdrawn).length ++ bi m.withdrawn ++ be 2 (bA m wide).length ++ bA m wide ++ bi m.reach := by simp [cg]
 have hz := hk.2
 have hzl : 0 < m.reach.length := List.length_pos_iff.2 hz
 have hck := ok.attrs hz
 have ha : bA m wide = fh m.attrs wide := by unfold bA; rw [if_neg hz]
 have h4 := Aq m.attrs wide h.attrs hfl ho.attrs
 unfold sV bV at h4
 rw [if_pos hck] at h4
 rw [ha] at hu hlen
 have l3 := lj (ft hck) wide
 cases hbad : dU m.attrs wide
 ·rw [hbad, if_neg (by simp)] at h4
  have hnb : ¬ jZ m wide := fun q => by have := q.2.2; rw [hbad] at this; cases this
  by_cases hl : 19 + (cg m wide).length > 65535
  ·rw [fT (pW h0 hnb (by rw [hb]; exact hl)) (by decide)]
   clear hu
   generalize fh m.attrs wide = a at *
   generalize bi m.withdrawn = g at *
   generalize bi m.reach = q at *
   refine ae (F := kJ) rfl rfl (az 300 _ _ _ _ ?_)
   repeat' (first | refine ab ?_ | (refine aa ?_ ?_ <;> intro h))
   refine ax ?_; rfl
  ·rw [dg (d6 h0 hnb (by rw [hb]; omega)), fD, hb]
   have h3 := f8 (19 + (cg m wide).length) m.kind (by omega) (by omega)
   have hh := dT (19 + (cg m wide).length) m.kind.toNat
   generalize fh m.attrs wide = a at *
   generalize bi m.withdrawn = g at *
   generalize bi m.reach = q at *
   have p1 := lK 2 g.length (by omega)
   have p2 := cl (be 2 g.length ++ g) (by simp; omega) 2 a.length (by omega)
   rw [dZ] at p2
   have h5 : ∀ N : Nat, N = (cg m wide).length → ah G 358 [.int .i64 (19 + (N : Int)), .int .i64 m.kind] [] (rB (dl (19 + (cg m wide).length) m.kind.toNat)) := fun N hN => by rw [hN]; have := h3; rwa [show ((19 + (cg m wide).length : Nat) : Int) = 19 + ((cg m wide).length : Int) by omega] at this
   refine ae (F := kJ) rfl rfl (az 300 _ _ _ _ ?_)
   repeat' ((conv => whnf); first | refine zA2 ?_ | refine dz ?_ | refine kX [] [(126, _, _)] trivial ⟨rfl, pz trivial⟩ (p2) ?_ | refine kN (h5 _ (by simp [hlen] <;> omega)) ?_ | (refine aa ?_ ?_ <;> intro h))
   refine dc [(161, _, .vec 1 _)] ⟨⟨rfl, puL, trivial⟩, rfl, rfl, (by simp), ?_⟩
   exact jh (by simp [hu] <;> omega) (by simp [hu])
 ·rw [hbad, if_pos rfl] at h4
  rw [fT (Az h0 ⟨hk.1, hz, hbad⟩) (by decide)]
  clear hu
  generalize bi m.withdrawn = g at *
  refine ae (F := kJ) rfl rfl (az 300 _ _ _ _ ?_)
  repeat' (first | refine ab ?_ | (refine aa ?_ ?_ <;> intro h))
  refine ax ?_; rfl
theorem So (m : PMsg) (h : AM m) (ho : m.ok) (hw : m.withdrawn.length < 2 ^ 30) (hr : m.reach.length < 2 ^ 30) (hfl : (bC m.attrs.path).length < 2 ^ 39) (wide : Bool) (h0 : bh m = 0) (hk : m.kind = 3) : ah G 353 [.agg m.enc, .bool wide] [] (i3 m wide) := by
 have hc := ee m h.lenO (dY h.attrs) ⟨ho.withdrawn, ho.reach⟩
 rw [h0] at hc
 have ok := u5 h0 hk
 have hb : bv m wide = eU m := by unfold bv; rw [if_neg (by omega), if_neg (by omega), if_pos hk]
 have hl : (eU m).length = m.data.length + 2 := by simp [eU]
 have hd := ok.data
 obtain ⟨c1, c2⟩ := ok.code
 obtain ⟨s1, s2⟩ := ok.sub
 have e1 : ((UInt8.ofNat m.code.toNat).toNat : Int) = m.code := by rw [ofN (by omega)]; omega
 have e2 : ((UInt8.ofNat m.sub.toNat).toNat : Int) = m.sub := by rw [ofN (by omega)]; omega
 have hbl : (byteCells m.data).length = m.data.length := by simp
 rw [dg (d6 h0 (fun q => by have := q.1; omega) (by rw [hb]; omega)), fD, hb]
 have h2 := f8 (19 + (eU m).length) m.kind (by omega) (by omega)
 have hh := dT (19 + (eU m).length) m.kind.toNat
 have hnc : byteCells (eU m) = [.int .u8 m.code] :: [.int .u8 m.sub] :: byteCells m.data := by simp only [eU, byteCells, List.map_cons, e1, e2]
 rw [show ((19 + (eU m).length : Nat) : Int) = 19 + ((2 + (byteCells m.data).length : Nat) : Int) by simp; omega] at h2
 refine ae (F := kJ) rfl rfl (az 300 _ _ _ _ ?_)
 repeat' (first | refine ab ?_ | (refine aa ?_ ?_ <;> intro h))
 refine dc [(161, _, .vec 1 _)] ⟨⟨rfl, puL, trivial⟩, rfl, rfl, (by simp), ?_⟩
 exact jh (by simp [hl] <;> omega) (by rw [dZ, hnc]; rfl)
theorem Sn (m : PMsg) (h : AM m) (ho : m.ok) (hw : m.withdrawn.length < 2 ^ 30) (hr : m.reach.length < 2 ^ 30) (hfl : (bC m.attrs.path).length < 2 ^ 39) (wide : Bool) (h0 : bh m = 0) (hk : m.kind = 4) : ah G 353 [.agg m.enc, .bool wide] [] (i3 m wide) := by
 have hc := ee m h.lenO (dY h.attrs) ⟨ho.withdrawn, ho.reach⟩
 rw [h0] at hc
 have hb : bv m wide = [] := by unfold bv; rw [if_neg (by omega), if_neg (by omega), if_neg (by omega), if_neg (by omega)]
 rw [dg (d6 h0 (fun q => by have := q.1; omega) (by rw [hb]; simp)), fD, hb]
 have h2 := f8 19 m.kind (by omega) (by omega)
 have hh := dT 19 m.kind.toNat
 refine ae (F := kJ) rfl rfl (az 300 _ _ _ _ ?_)
 repeat' (first | refine ab ?_ | (refine aa ?_ ?_ <;> intro h))
 refine dc [(161, _, .vec 1 _)] ⟨⟨rfl, puL, trivial⟩, rfl, rfl, (by simp), ?_⟩
 exact jh (by simp) (by simp)
theorem Sm (m : PMsg) (h : AM m) (ho : m.ok) (hw : m.withdrawn.length < 2 ^ 30) (hr : m.reach.length < 2 ^ 30) (hfl : (bC m.attrs.path).length < 2 ^ 39) (wide : Bool) (h0 : bh m = 0) (hk : m.kind = 5) : ah G 353 [.agg m.enc, .bool wide] [] (i3 m wide) := by
 have hc := ee m h.lenO (dY h.attrs) ⟨ho.withdrawn, ho.reach⟩
 rw [h0] at hc
 have hb : bv m wide = [0, 1, 0, 1] := by unfold bv; rw [if_neg (by omega), if_neg (by omega), if_neg (by omega), if_pos hk]
 rw [dg (d6 h0 (fun q => by have := q.1; omega) (by rw [hb]; simp)), fD, hb]
 have h2 := f8 23 m.kind (by omega) (by omega)
 have hh := dT 23 m.kind.toNat
 refine ae (F := kJ) rfl rfl (az 300 _ _ _ _ ?_)
 repeat' (first | refine ab ?_ | (refine aa ?_ ?_ <;> intro h))
 refine dc [(161, _, .vec 1 _)] ⟨⟨rfl, puL, trivial⟩, rfl, rfl, (by simp), ?_⟩
 exact jh (by simp [hh]) (by simp [byteCells])
theorem Ax (m : PMsg) (h : AM m) (ho : m.ok) (hw : m.withdrawn.length < 2 ^ 30) (hr : m.reach.length < 2 ^ 30) (hfl : (bC m.attrs.path).length < 2 ^ 39) (wide : Bool) : ah G 353 [.agg m.enc, .bool wide] [] (i3 m wide) := by
 by_cases h0 : bh m = 0
 ·obtain ⟨k1, k2, _⟩ := du h0
  have hk : m.kind = 1 ∨ m.kind = 2 ∨ m.kind = 3 ∨ m.kind = 4 ∨ m.kind = 5 := by omega
  rcases hk with hk | hk | hk | hk | hk
  ·exact Ss m h ho hw hr hfl wide h0 hk
  ·by_cases hz : m.reach = []
   ·exact NM m h ho hw hr hfl wide h0 ⟨hk, hz⟩
   ·exact NL m h ho hw hr hfl wide h0 ⟨hk, hz⟩
  ·exact So m h ho hw hr hfl wide h0 hk
  ·exact Sn m h ho hw hr hfl wide h0 hk
  ·exact Sm m h ho hw hr hfl wide h0 hk
 ·have hc := ee m h.lenO (dY h.attrs) ⟨ho.withdrawn, ho.reach⟩
  rw [fT (um h0) h0]
  generalize bh m = k at *
  refine ae (F := kJ) rfl rfl (az 300 _ _ _ _ ?_)
  repeat' (first | refine ab ?_ | (refine aa ?_ ?_ <;> intro h))
  refine ax ?_; rfl
end Go.AM.IR
namespace Go.AM.IR
theorem uM (m : PMsg) (h : AM m) (ho : m.ok) (hw : m.withdrawn.length < 2 ^ 30) (hr : m.reach.length < 2 ^ 30) (hfl : (bC m.attrs.path).length < 2 ^ 39) (wide : Bool) : ah G 355 [.agg m.enc, .bool wide] [] (gu (cI m wide)) := by
 have he := Ax m h ho hw hr hfl wide
 have hcc := ee m h.lenO (dY h.attrs) ⟨ho.withdrawn, ho.reach⟩
 by_cases hk : m.kind = 2
 rotate_left
 ·rw [show cI m wide = ([], 15) from by unfold cI; rw [if_pos hk]]
  refine ae (F := dF) rfl rfl (az 300 _ _ _ _ ?_)
  repeat' (first | refine ab ?_ | (refine aa ?_ ?_ <;> intro h))
  all_goals (refine ax ?_; rfl)
 by_cases h0 : bR m wide = 0
 ·rw [show cI m wide = ([m], 0) from by unfold cI; rw [if_neg (by simp [hk]), if_pos h0]]
  rw [dg h0] at he
  refine ae (F := dF) rfl rfl (az 300 _ _ _ _ ?_)
  repeat' (first | refine ab ?_ | (refine aa ?_ ?_ <;> intro h))
  refine dc [(92, _, .vec 27 _)] ⟨⟨rfl, (by exact jr [m]), trivial⟩, rfl, rfl, (by simp), ?_⟩
  unfold gu
  rw [if_pos rfl]
  exact nt 92 rfl rfl
 rw [fT rfl h0] at he
 by_cases h4 : bR m wide ≠ 4 ∨ bh m ≠ 0
 ·rw [show cI m wide = ([], bR m wide) from by unfold cI; rw [if_neg (by simp [hk]), if_neg h0, if_pos h4]]
  unfold gu
  rw [if_neg h0]
  generalize bR m wide = e at *
  generalize bh m = k at *
  rcases h4 with h4 | h4
  ·refine ae (F := dF) rfl rfl (az 300 _ _ _ _ ?_)
   repeat' (first | refine ab ?_ | (refine aa ?_ ?_ <;> intro h))
   all_goals (refine ax ?_; rfl)
  ·by_cases h5 : e = 4
   ·refine ae (F := dF) rfl rfl (az 300 _ _ _ _ ?_)
    repeat' (first | refine ab ?_ | (refine aa ?_ ?_ <;> intro h))
    all_goals (refine ax ?_; rfl)
   ·refine ae (F := dF) rfl rfl (az 300 _ _ _ _ ?_)
    repeat' (first | refine ab ?_ | (refine aa ?_ ?_ <;> intro h))
    all_goals (refine ax ?_; rfl)
 have h5 : bR m wide = 4 := by omega
 have hc : bh m = 0 := by omega
 have hu := ib hc hk
 have hl := h.lenO.len.attrs
 have hcl := vQ m.attrs hl.path hl.segs hl.comms hl.clusters hl.unknown h.attrs.vals
 have hs : (bA m wide).length < 2 ^ 30 := by
  unfold bA; split
  ·simp
  ·rename_i hq; have := lj (ft (hu.attrs hq)) wide; omega
 have hsc := TJ m hw (fun p hp => ml (hu.withdrawn p hp)) hr (fun p hp => ml (hu.reach p hp)) (byteCells (bA m wide)) (by simpa [byteCells] using hs) (by simp) hcl
 rw [Ja hk h5 hc]
 rw [show ((byteCells (bA m wide)).length : Int) = (bA m wide).length from by simp [byteCells]] at hsc
 rw [apply_ite gu]
 generalize (if m.reach.all (fun p => decide (bM p ≤ 65512 - ((bA m wide).length : Int))) = true then gu (tz m (bA m wide).length, 0) else gu ([], 4)) = R at *
 rw [h5] at he
 rw [hc] at hcc
 have h44 : (4 : Int) ≠ 0 := by decide
 by_cases hz : m.reach = []
 ·have hA : bA m wide = [] := by unfold bA; rw [if_pos hz]
  rw [hA] at hsc
  have hzl : (m.reach.map Pfx.enc).length = 0 := by rw [hz]; rfl
  refine ae (F := dF) rfl rfl ?_
  refine aG (b := sfy 1 dF.body) ?_
  refine wd1 ?_
  repeat' (first | refine ab ?_ | (refine aa ?_ ?_ <;> intro h))
  refine aG (b := sfy 2 dF.body) ?_
  refine wd1 ?_
  repeat' (first | refine ab ?_ | (refine aa ?_ ?_ <;> intro h))
  refine aG (b := sfy 3 dF.body) ?_
  refine wd1 ?_
  repeat' (first | refine ab ?_ | (refine aa ?_ ?_ <;> intro h))
  refine aG (b := sfy 4 dF.body) ?_
  refine wd1 ?_
  repeat' (first | refine ab ?_ | (refine aa ?_ ?_ <;> intro h))
  refine aG (b := sfy 5 dF.body) ?_
  refine wd1 ?_
  repeat' (first | refine ab ?_ | (refine aa ?_ ?_ <;> intro h))
  refine aG (b := sfy 6 dF.body) ?_
  refine wd1 ?_
  repeat' (first | refine ab ?_ | (refine aa ?_ ?_ <;> intro h))
  refine aG (b := sfy 7 dF.body) ?_
  refine wd1 ?_
  repeat' (first | refine ab ?_ | (refine aa ?_ ?_ <;> intro h))
  refine bm [(8, .sl 1 [])] [] ⟨LeP.nil 1, trivial⟩ trivial ?_
  refine ag [2, 8] [66] ?_
  exact hsc _ _ _ _
 ·have hzl : 0 < (m.reach.map Pfx.enc).length := by rw [List.length_map]; exact List.length_pos_iff.2 hz
  have hA : bA m wide = fh m.attrs wide := by unfold bA; rw [if_neg hz]
  have hb : dU m.attrs wide = false := by
   cases hq : dU m.attrs wide with
   | false => rfl
   | true => exact absurd ⟨hk, hz, hq⟩ (wH hc h5)
  have h68 := Aq m.attrs wide h.attrs hfl ho.attrs
  unfold sV bV at h68
  rw [if_pos (hu.attrs hz), hb, if_neg (by simp)] at h68
  rw [hA] at hsc hs
  generalize fh m.attrs wide = A at *
  have hAl : (byteCells A).length = A.length := by simp [byteCells]
  refine ae (F := dF) rfl rfl ?_
  refine aG (b := sfy 1 dF.body) ?_
  refine wd1 ?_
  repeat' (first | refine ab ?_ | (refine aa ?_ ?_ <;> intro h))
  refine aG (b := sfy 2 dF.body) ?_
  refine wd1 ?_
  repeat' (first | refine ab ?_ | (refine aa ?_ ?_ <;> intro h))
  refine aG (b := sfy 3 dF.body) ?_
  refine wd1 ?_
  repeat' (first | refine ab ?_ | (refine aa ?_ ?_ <;> intro h))
  refine aG (b := sfy 4 dF.body) ?_
  refine wd1 ?_
  repeat' (first | refine ab ?_ | (refine aa ?_ ?_ <;> intro h))
  refine aG (b := sfy 5 dF.body) ?_
  refine wd1 ?_
  repeat' (first | refine ab ?_ | (refine aa ?_ ?_ <;> intro h))
  refine aG (b := sfy 6 dF.body) ?_
  refine wd1 ?_
  repeat' (first | refine ab ?_ | (refine aa ?_ ?_ <;> intro h))
  refine aG (b := sfy 7 dF.body) ?_
  refine wd1 ?_
  repeat' (first | refine ab ?_ | (refine aa ?_ ?_ <;> intro h))
  refine d8 [(109, _, _)] [2, 8] [66] ⟨rfl, frP, trivial⟩ ?_; repeat ((conv => whnf); first | refine frA ?_ | intro T H)
  refine ag [2, 8] [66] ?_
  exact hsc _ _ _ _
end Go.AM.IR
namespace Go.AM.IR
theorem lC (l : List PMsg) (hm : ∀ x ∈ l, LenM x) (hl : l.length < 2 ^ 40) (ln : Int) (hln : ln = l.length) : ∀ (rest done : List PMsg)  (T : List (Nat × AV)) (H : aq) (c : Nat) (n : Int) (e : l = done ++ rest) (hn : n = done.length) , Ev G ⟨M0, ⟨(5, .sl 27 (l.map PMsg.enc)) :: (36, .int .i64 ln) :: (37, .int .i64 n) :: (7, .sl 27 (l.map PMsg.enc)) :: T, H, c⟩, [.t 4], 0⟩ ⟨.bool true, []⟩
 | [], done,  T, H, c, n, e, hn => by
  have hd : l.length = done.length := by simp [e]
  have hll : (l.map PMsg.enc).length = l.length := by simp
  have aw := nj
  refine evl ?_
  repeat' (first | refine ab ?_ | (refine aa ?_ ?_ <;> intro h))
  all_goals (refine ax ?_; rfl)
 | x :: r, done,  T, H, c, n, e, hn => by
  have hd : l.length = done.length + (r.length + 1) := by simp [e]
  have hll : (l.map PMsg.enc).length = l.length := by simp
  have hx : (l.map PMsg.enc)[n.toNat]? = some (PMsg.enc x) := by simp [e, hn]
  have s := yy x (hm x (by simp [e]))
  refine evl ?_
  repeat' (first | refine ab ?_ | (refine aa ?_ ?_ <;> intro h))
  refine ag [5, 36, 37, 7] [] ?_; exact lC l hm hl ln hln r (done ++ [x])  _ _ _ (n + 1) (by simp [e]) (by simp [hn] <;> omega)
theorem yX (m : PMsg) (h : AM m) (ho : m.ok) (hw : m.withdrawn.length < 2 ^ 29) (hr : m.reach.length < 2 ^ 29) (hfl : (bC m.attrs.path).length < 2 ^ 39) (wide : Bool) : ah G 352 [.agg m.enc, .bool wide] [] ⟨.bool true, []⟩ := by
 have l1 := u9 m h
 have s1 := uO m h ho (by omega) hr wide
 have s2 := uM m h ho (by omega) (by omega) hfl wide
 have hL : (cI m wide).1.length < 2 ^ 40 := by have := Kw m wide; omega
 have aw := nj
 generalize yY m = lm at *
 cases lm
 rotate_left
 ·refine ae (F := nJ) rfl rfl (az 300 _ _ _ _ ?_)
  repeat' (first | refine ab ?_ | (refine aa ?_ ?_ <;> intro h))
  all_goals try exact dnA
 cases hS : cI m wide with
 | mk L e =>
 have hp : e = 0 → ∀ x ∈ L, LenM x := fun he x hx => (TU (BR (by rw [hS, he])) h ho (by omega) (by omega) x hx).am.lenO.len
 rw [hS] at s1 s2 hL
 unfold gu at s1 s2
 simp only at s1 s2 hL
 by_cases he : e = 0
 ·rw [if_pos he] at s1 s2
  have hp := hp he
  have hLl : (L.map PMsg.enc).length = L.length := by simp
  refine ae (F := nJ) rfl rfl ?_
  refine aG (b := sfy 1 nJ.body) ?_
  refine wd1 ?_
  repeat' (first | refine ab ?_ | (refine aa ?_ ?_ <;> intro h))
  refine aG (b := sfy 2 nJ.body) ?_
  refine wd1 ?_
  repeat' (first | refine ab ?_ | (refine aa ?_ ?_ <;> intro h))
  refine aG (b := sfy 3 nJ.body) ?_
  refine wd1 ?_
  repeat' (first | refine ab ?_ | (refine aa ?_ ?_ <;> intro h))
  refine aG (b := sfy 4 nJ.body) ?_
  refine wd1 ?_
  repeat' (first | refine ab ?_ | (refine aa ?_ ?_ <;> intro h))
  refine d8 [(80, _, _), (86, _, _)] [5, 7, 6, 8, 1, 2] [66] ⟨rfl, frP, rfl, frP, trivial⟩ ?_; repeat ((conv => whnf); first | refine frA ?_ | intro T H)
  refine wk3 ?_
  repeat' (first | refine ab ?_ | (refine aa ?_ ?_ <;> intro h))
  refine ag [5, 36, 37, 7] [] ?_
  exact lC L hp hL _ (by simp) L [] _ _ _ 0 rfl rfl
 ·rw [if_neg he] at s1 s2
  refine ae (F := nJ) rfl rfl (az 300 _ _ _ _ ?_)
  repeat' (first | refine ab ?_ | (refine aa ?_ ?_ <;> intro h))
  refine bm [(5, .sl 27 []), (7, .sl 27 [])] [] ⟨LeP.nil 27, LeP.nil 27, trivial⟩ trivial ?_
  refine ag [5, 36, 37, 7] [] ?_
  exact lC [] (by simp) (by simp) _ rfl [] [] _ _ _ 0 rfl rfl
theorem Ju (ass : List (List AV)) (h : n7 [I9, .bool] ass) (hb : cy ass ≤ 1048576) : ah G 352 (ld [I9, .bool] ass) [] ⟨.bool true, []⟩ := by
 obtain ⟨x, s1, rfl, h1, h⟩ := uC h
 obtain ⟨y, s2, rfl, h2, h⟩ := uC h
 obtain rfl := OH h
 obtain ⟨m, rfl, ho⟩ := aqv h1
 obtain ⟨w, rfl⟩ := h2
 simp only [cy] at hb
 have hm := aqr m (by omega)
 obtain ⟨q1, q2, q3⟩ := Ug m (by omega)
 exact yX m hm ho q1 q2 q3 w
end Go.AM.IR
