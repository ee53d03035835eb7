/- What the functions of this program give, on the abstract machine. -/
import Derived.Test.YtcmipbleijmpjaaGreatDoorDataA
import Derived.Test.YtcmipbleijmpjaaGreatDoorMachineC
set_option linter.unusedVariables false
set_option linter.unusedSimpArgs false
set_option maxHeartbeats 4000000
set_option maxRecDepth 20000
namespace Go.AM.IR
section
variable {k : Eff → Prop} {x y : Opd} {g key : Nat} {hg : Nat → Option (Nat × Blk)}
end
def fB (b : UInt8) : Bool := b.toNat == 45 || (decide (48 ≤ b.toNat) && decide (b.toNat ≤ 57)) || (decide (97 ≤ b.toNat) && decide (b.toNat ≤ 122))
def PM (s : List UInt8) : Bool := s.all fB && (decide (1 ≤ s.length) && decide ((s.length : Int) ≤ 32))
theorem idx_at {s done rest : List UInt8} {x : UInt8} {n : Int} (e : s = done ++ x :: rest) (hn : n = done.length) : s[n.toNat]? = some x := by
 rw [e, hn]; simp
theorem iI (s : List UInt8) (hs : s.length < 2 ^ 40) : ∀ (rest done : List UInt8) (T : List (Nat × AV)) (H : aq) (c : Nat) (n : Int) (e : s = done ++ rest) (hn : n = done.length),
  Ev G ⟨Qn, ⟨(6, .int .i64 n) :: (0, .str s) :: (5, .int .i64 s.length) :: T, H, c⟩, [.t 2], 0⟩ ⟨.bool (rest.all fB && (decide (1 ≤ s.length) && decide ((s.length : Int) ≤ 32))), []⟩
 | [], done, T, H, c, n, e, hn => by
  have hd : s.length = done.length := by simp [e]
  by_cases h1 : 1 ≤ s.length
  ·rw [decide_eq_true h1]
   refine evl ?_
   repeat' (first | refine ae ?_ | (refine ab ?_ ?_ <;> intro h))
   refine ag ?_; rfl
  ·rw [decide_eq_false h1]
   refine evl ?_
   repeat' (first | refine ae ?_ | (refine ab ?_ ?_ <;> intro h))
   refine ag ?_; rfl
 | x :: rest, done, T, H, c, n, e, hn => by
  have hd : s.length = done.length + (rest.length + 1) := by simp [e]
  have hb := idx_at e hn
  rw [List.all_cons]
  by_cases h0 : x.toNat < 45
  ·have hc : fB x = false := by unfold fB; simp; omega
   rw [hc, Bool.false_and, Bool.false_and]
   refine evl ?_
   repeat' (first | refine cg ?_ | (refine ab ?_ ?_ <;> intro h))
   refine ag ?_; rfl
  by_cases h1 : x.toNat = 45
  ·have hc : fB x = true := by unfold fB; simp; omega
   rw [hc, Bool.true_and]
   refine evl ?_
   repeat' (first | refine cg ?_ | (refine ab ?_ ?_ <;> intro h))
   refine am [6, 0, 5] [] ?_
   exact iI s hs rest (done ++ [x]) _ _ _ (n + 1) (by simp [e]) (by simp [hn])
  by_cases h2 : x.toNat < 48
  ·have hc : fB x = false := by unfold fB; simp; omega
   rw [hc, Bool.false_and, Bool.false_and]
   refine evl ?_
   repeat' (first | refine cg ?_ | (refine ab ?_ ?_ <;> intro h))
   refine ag ?_; rfl
  by_cases h3 : x.toNat ≤ 57
  ·have hc : fB x = true := by unfold fB; simp; omega
   rw [hc, Bool.true_and]
   refine evl ?_
   repeat' (first | refine cg ?_ | (refine ab ?_ ?_ <;> intro h))
   refine am [6, 0, 5] [] ?_
   exact iI s hs rest (done ++ [x]) _ _ _ (n + 1) (by simp [e]) (by simp [hn])
  by_cases h4 : x.toNat < 97
  ·have hc : fB x = false := by unfold fB; simp; omega
   rw [hc, Bool.false_and, Bool.false_and]
   refine evl ?_
   repeat' (first | refine cg ?_ | (refine ab ?_ ?_ <;> intro h))
   refine ag ?_; rfl
  by_cases h5 : x.toNat ≤ 122
  ·have hc : fB x = true := by unfold fB; simp; omega
   rw [hc, Bool.true_and]
   refine evl ?_
   repeat' (first | refine cg ?_ | (refine ab ?_ ?_ <;> intro h))
   refine am [6, 0, 5] [] ?_
   exact iI s hs rest (done ++ [x]) _ _ _ (n + 1) (by simp [e]) (by simp [hn])
  have hc : fB x = false := by unfold fB; simp; omega
  rw [hc, Bool.false_and, Bool.false_and]
  refine evl ?_
  repeat' (first | refine cg ?_ | (refine ab ?_ ?_ <;> intro h))
  refine ag ?_; rfl
theorem yW (s : List UInt8) (hs : s.length < 2 ^ 40) : ax G 442 [.str s] [] ⟨.bool (PM s), []⟩ := by
 refine aa (F := f442) rfl rfl (ah 300 _ _ _ _ ?_)
 repeat' (first | refine ae ?_ | (refine ab ?_ ?_ <;> intro h))
 refine am [6, 0, 5] [] ?_
 exact iI s hs s [] _ _ _ 0 rfl rfl
end Go.AM.IR
namespace Go.AM.IR
def gF : List Pol → List UInt8 → Option Pol
 | [], _ => none
 | x :: r, k => if x.name = k then some x else gF r k
def eW : Option Pol → Ret
 | none => ⟨.tup [.agg [.str [], .con (.slice none 0 0), .int .i64 0], .bool false], []⟩
 | some x => ⟨.tup [.agg x.enc, .bool true], []⟩
theorem pf (l : List Pol) (k : List UInt8) (g : Nat) (hl : l.length < 2 ^ 40) (ln : Int) (hln : ln = l.length) : ∀ (rest done : List Pol)  (T : List (Nat × AV)) (H : aq) (c : Nat) (n : Int) (e : l = done ++ rest) (hn : n = done.length) , Ev G ⟨Ql, ⟨(9, .sl 3 (l.map Pol.enc)) :: (10, .int .i64 ln) :: (11, .int .i64 n) :: (4, .ref 68 g 0) :: (1, .str k) :: T, (68, some (g, .cells [.str [], .con (.slice none 0 0), .int .i64 0])) :: H, c⟩, [.cell 4 (some 3), .t 5], 0⟩ (eW (gF rest k))
 | [], done,  T, H, c, n, e, hn => by
  have hd : l.length = done.length := by simp [e]
  have hll : (l.map Pol.enc).length = l.length := by simp
  refine evl ?_
  repeat' (first | refine ae ?_ | (refine ab ?_ ?_ <;> intro h))
  refine ag ?_; (conv => whnf); refine Go.AM.finC ?_; rfl
 | x :: r, done,  T, H, c, n, e, hn => by
  have hd : l.length = done.length + (r.length + 1) := by simp [e]
  have hll : (l.map Pol.enc).length = l.length := by simp
  have hx : (l.map Pol.enc)[n.toNat]? = some (Pol.enc x) := by simp [e, hn]
  by_cases hk : x.name = k
  ·rw [gF, if_pos hk]
   refine evl ?_
   repeat' (first | refine cg ?_ | (refine ab ?_ ?_ <;> intro h))
   refine ag ?_; (conv => whnf); refine Go.AM.finC ?_; rfl
  ·rw [gF, if_neg hk]
   refine evl ?_
   repeat' (first | refine cg ?_ | (refine ab ?_ ?_ <;> intro h))
   refine am [9, 10, 11, 4, 1] [68] ?_; exact pf l k g hl ln hln r (done ++ [x])  _ _ _ (n + 1) (by simp [e]) (by simp [hn] <;> omega)
theorem jF (s : PSet) (hs : s.pols.length < 2 ^ 40) (k : List UInt8) : ax G 506 [.agg s.enc, .str k] [] (eW (gF s.pols k)) := by
 have hll : (s.pols.map Pol.enc).length = s.pols.length := by simp
 refine aa (F := f506) rfl rfl (ah 300 _ _ _ _ ?_)
 repeat' (first | refine ae ?_ | (refine ab ?_ ?_ <;> intro h))
 refine am [9, 10, 11, 4, 1] [68] ?_
 rw [hll]
 exact pf s.pols k _ hs _ rfl s.pols [] _ _ _ 0 rfl rfl
def nb : List PList → List UInt8 → Option PList
 | [], _ => none
 | x :: r, k => if x.name = k then some x else nb r k
def Kz : Option PList → Ret
 | none => ⟨.tup [.agg [.str [], .con (.slice none 0 0)], .bool false], []⟩
 | some x => ⟨.tup [.agg x.enc, .bool true], []⟩
theorem pg (l : List PList) (k : List UInt8) (g : Nat) (hl : l.length < 2 ^ 40) (ln : Int) (hln : ln = l.length) : ∀ (rest done : List PList)  (T : List (Nat × AV)) (H : aq) (c : Nat) (n : Int) (e : l = done ++ rest) (hn : n = done.length) , Ev G ⟨Qh, ⟨(9, .sl 2 (l.map PList.enc)) :: (10, .int .i64 ln) :: (11, .int .i64 n) :: (4, .ref 68 g 0) :: (1, .str k) :: T, (68, some (g, .cells [.str [], .con (.slice none 0 0)])) :: H, c⟩, [.cell 4 (some 2), .t 5], 0⟩ (Kz (nb rest k))
 | [], done,  T, H, c, n, e, hn => by
  have hd : l.length = done.length := by simp [e]
  have hll : (l.map PList.enc).length = l.length := by simp
  refine evl ?_
  repeat' (first | refine ae ?_ | (refine ab ?_ ?_ <;> intro h))
  refine ag ?_; (conv => whnf); refine Go.AM.finC ?_; rfl
 | x :: r, done,  T, H, c, n, e, hn => by
  have hd : l.length = done.length + (r.length + 1) := by simp [e]
  have hll : (l.map PList.enc).length = l.length := by simp
  have hx : (l.map PList.enc)[n.toNat]? = some (PList.enc x) := by simp [e, hn]
  by_cases hk : x.name = k
  ·rw [nb, if_pos hk]
   refine evl ?_
   repeat' (first | refine cg ?_ | (refine ab ?_ ?_ <;> intro h))
   refine ag ?_; (conv => whnf); refine Go.AM.finC ?_; rfl
  ·rw [nb, if_neg hk]
   refine evl ?_
   repeat' (first | refine cg ?_ | (refine ab ?_ ?_ <;> intro h))
   refine am [9, 10, 11, 4, 1] [68] ?_; exact pg l k g hl ln hln r (done ++ [x])  _ _ _ (n + 1) (by simp [e]) (by simp [hn] <;> omega)
theorem yE (s : PSet) (hs : s.prefixes.length < 2 ^ 40) (k : List UInt8) : ax G 620 [.agg s.enc, .str k] [] (Kz (nb s.prefixes k)) := by
 have hll : (s.prefixes.map PList.enc).length = s.prefixes.length := by simp
 refine aa (F := f620) rfl rfl (ah 300 _ _ _ _ ?_)
 repeat' (first | refine ae ?_ | (refine ab ?_ ?_ <;> intro h))
 refine am [9, 10, 11, 4, 1] [68] ?_
 rw [hll]
 exact pg s.prefixes k _ hs _ rfl s.prefixes [] _ _ _ 0 rfl rfl
def ng : List PathL → List UInt8 → Option PathL
 | [], _ => none
 | x :: r, k => if x.name = k then some x else ng r k
def KC : Option PathL → Ret
 | none => ⟨.tup [.agg [.str [], .con (.slice none 0 0)], .bool false], []⟩
 | some x => ⟨.tup [.agg x.enc, .bool true], []⟩
theorem pj (l : List PathL) (k : List UInt8) (g : Nat) (hl : l.length < 2 ^ 40) (ln : Int) (hln : ln = l.length) : ∀ (rest done : List PathL)  (T : List (Nat × AV)) (H : aq) (c : Nat) (n : Int) (e : l = done ++ rest) (hn : n = done.length) , Ev G ⟨Qg, ⟨(9, .sl 2 (l.map PathL.enc)) :: (10, .int .i64 ln) :: (11, .int .i64 n) :: (4, .ref 68 g 0) :: (1, .str k) :: T, (68, some (g, .cells [.str [], .con (.slice none 0 0)])) :: H, c⟩, [.cell 4 (some 2), .t 5], 0⟩ (KC (ng rest k))
 | [], done,  T, H, c, n, e, hn => by
  have hd : l.length = done.length := by simp [e]
  have hll : (l.map PathL.enc).length = l.length := by simp
  refine evl ?_
  repeat' (first | refine ae ?_ | (refine ab ?_ ?_ <;> intro h))
  refine ag ?_; (conv => whnf); refine Go.AM.finC ?_; rfl
 | x :: r, done,  T, H, c, n, e, hn => by
  have hd : l.length = done.length + (r.length + 1) := by simp [e]
  have hll : (l.map PathL.enc).length = l.length := by simp
  have hx : (l.map PathL.enc)[n.toNat]? = some (PathL.enc x) := by simp [e, hn]
  by_cases hk : x.name = k
  ·rw [ng, if_pos hk]
   refine evl ?_
   repeat' (first | refine cg ?_ | (refine ab ?_ ?_ <;> intro h))
   refine ag ?_; (conv => whnf); refine Go.AM.finC ?_; rfl
  ·rw [ng, if_neg hk]
   refine evl ?_
   repeat' (first | refine cg ?_ | (refine ab ?_ ?_ <;> intro h))
   refine am [9, 10, 11, 4, 1] [68] ?_; exact pj l k g hl ln hln r (done ++ [x])  _ _ _ (n + 1) (by simp [e]) (by simp [hn] <;> omega)
theorem yH (s : PSet) (hs : s.paths.length < 2 ^ 40) (k : List UInt8) : ax G 621 [.agg s.enc, .str k] [] (KC (ng s.paths k)) := by
 have hll : (s.paths.map PathL.enc).length = s.paths.length := by simp
 refine aa (F := f621) rfl rfl (ah 300 _ _ _ _ ?_)
 repeat' (first | refine ae ?_ | (refine ab ?_ ?_ <;> intro h))
 refine am [9, 10, 11, 4, 1] [68] ?_
 rw [hll]
 exact pj s.paths k _ hs _ rfl s.paths [] _ _ _ 0 rfl rfl
def nN : List ComL → List UInt8 → Option ComL
 | [], _ => none
 | x :: r, k => if x.name = k then some x else nN r k
def K9 : Option ComL → Ret
 | none => ⟨.tup [.agg [.str [], .con (.slice none 0 0)], .bool false], []⟩
 | some x => ⟨.tup [.agg x.enc, .bool true], []⟩
theorem pu (l : List ComL) (k : List UInt8) (g : Nat) (hl : l.length < 2 ^ 40) (ln : Int) (hln : ln = l.length) : ∀ (rest done : List ComL)  (T : List (Nat × AV)) (H : aq) (c : Nat) (n : Int) (e : l = done ++ rest) (hn : n = done.length) , Ev G ⟨Qf, ⟨(9, .sl 2 (l.map ComL.enc)) :: (10, .int .i64 ln) :: (11, .int .i64 n) :: (4, .ref 68 g 0) :: (1, .str k) :: T, (68, some (g, .cells [.str [], .con (.slice none 0 0)])) :: H, c⟩, [.cell 4 (some 2), .t 5], 0⟩ (K9 (nN rest k))
 | [], done,  T, H, c, n, e, hn => by
  have hd : l.length = done.length := by simp [e]
  have hll : (l.map ComL.enc).length = l.length := by simp
  refine evl ?_
  repeat' (first | refine ae ?_ | (refine ab ?_ ?_ <;> intro h))
  refine ag ?_; (conv => whnf); refine Go.AM.finC ?_; rfl
 | x :: r, done,  T, H, c, n, e, hn => by
  have hd : l.length = done.length + (r.length + 1) := by simp [e]
  have hll : (l.map ComL.enc).length = l.length := by simp
  have hx : (l.map ComL.enc)[n.toNat]? = some (ComL.enc x) := by simp [e, hn]
  by_cases hk : x.name = k
  ·rw [nN, if_pos hk]
   refine evl ?_
   repeat' (first | refine cg ?_ | (refine ab ?_ ?_ <;> intro h))
   refine ag ?_; (conv => whnf); refine Go.AM.finC ?_; rfl
  ·rw [nN, if_neg hk]
   refine evl ?_
   repeat' (first | refine cg ?_ | (refine ab ?_ ?_ <;> intro h))
   refine am [9, 10, 11, 4, 1] [68] ?_; exact pu l k g hl ln hln r (done ++ [x])  _ _ _ (n + 1) (by simp [e]) (by simp [hn] <;> omega)
theorem BM (s : PSet) (hs : s.comms.length < 2 ^ 40) (k : List UInt8) : ax G 622 [.agg s.enc, .str k] [] (K9 (nN s.comms k)) := by
 have hll : (s.comms.map ComL.enc).length = s.comms.length := by simp
 refine aa (F := f622) rfl rfl (ah 300 _ _ _ _ ?_)
 repeat' (first | refine ae ?_ | (refine ab ?_ ?_ <;> intro h))
 refine am [9, 10, 11, 4, 1] [68] ?_
 rw [hll]
 exact pu s.comms k _ hs _ rfl s.comms [] _ _ _ 0 rfl rfl
def cM (k : Int) : Ret :=
 if k = 4 then ⟨.tup [.int .i64 1, .int .i64 7, .bool true], []⟩ else if k = 5 then ⟨.tup [.int .i64 0, .int .i64 4294967295, .bool true], []⟩ else
 if k = 6 then ⟨.tup [.int .i64 0, .int .i64 16777216, .bool true], []⟩ else if k = 8 then ⟨.tup [.int .i64 0, .int .i64 2000, .bool true], []⟩ else ⟨.tup [.int .i64 0, .int .i64 0, .bool false], []⟩
theorem cK (k : Int) : ax G 619 [.int .i64 k] [] (cM k) := by
 by_cases h4 : k = 4
 ·subst h4
  refine aa (F := f619) rfl rfl (ah 300 _ _ _ _ ?_)
  repeat' (first | refine ae ?_ | (refine ab ?_ ?_ <;> intro h))
  refine ag ?_; rfl
 by_cases h5 : k = 5
 ·subst h5
  refine aa (F := f619) rfl rfl (ah 300 _ _ _ _ ?_)
  repeat' (first | refine ae ?_ | (refine ab ?_ ?_ <;> intro h))
  refine ag ?_; rfl
 by_cases h6 : k = 6
 ·subst h6
  refine aa (F := f619) rfl rfl (ah 300 _ _ _ _ ?_)
  repeat' (first | refine ae ?_ | (refine ab ?_ ?_ <;> intro h))
  refine ag ?_; rfl
 by_cases h8 : k = 8
 ·subst h8
  refine aa (F := f619) rfl rfl (ah 300 _ _ _ _ ?_)
  repeat' (first | refine ae ?_ | (refine ab ?_ ?_ <;> intro h))
  refine ag ?_; rfl
 rw [cM, if_neg h4, if_neg h5, if_neg h6, if_neg h8]
 refine aa (F := f619) rfl rfl (ah 300 _ _ _ _ ?_)
 repeat' (first | refine ae ?_ | (refine ab ?_ ?_ <;> intro h))
 refine ag ?_; rfl
theorem yZ (k : Int) : ax G 504 [.int .i64 k] [] ⟨.bool (decide (3 ≤ k ∧ k ≤ 5)), []⟩ := by
 by_cases h : 3 ≤ k
 ·by_cases h2 : k ≤ 5
  ·rw [decide_eq_true ⟨h, h2⟩]
   refine aa (F := f504) rfl rfl (ah 300 _ _ _ _ ?_)
   repeat' (first | refine ae ?_ | (refine ab ?_ ?_ <;> intro h))
   refine ag ?_; simp [h, h2]
  ·rw [decide_eq_false (fun x => h2 x.2)]
   refine aa (F := f504) rfl rfl (ah 300 _ _ _ _ ?_)
   repeat' (first | refine ae ?_ | (refine ab ?_ ?_ <;> intro h))
   refine ag ?_; simp [h, h2]
 ·rw [decide_eq_false (fun x => h x.1)]
  refine aa (F := f504) rfl rfl (ah 300 _ _ _ _ ?_)
  repeat' (first | refine ae ?_ | (refine ab ?_ ?_ <;> intro h))
  refine ag ?_; simp [h]
theorem xV (k : Int) : ax G 505 [.int .i64 k] [] ⟨.bool (decide (k = 6 ∨ k = 7)), []⟩ := by
 by_cases h : k = 6
 ·subst h
  refine aa (F := f505) rfl rfl (ah 300 _ _ _ _ ?_)
  repeat' (first | refine ae ?_ | (refine ab ?_ ?_ <;> intro h))
  refine ag ?_; rfl
 ·by_cases h2 : k = 7
  ·subst h2
   refine aa (F := f505) rfl rfl (ah 300 _ _ _ _ ?_)
   repeat' (first | refine ae ?_ | (refine ab ?_ ?_ <;> intro h))
   refine ag ?_; rfl
  ·rw [decide_eq_false (by omega)]
   refine aa (F := f505) rfl rfl (ah 300 _ _ _ _ ?_)
   repeat' (first | refine ae ?_ | (refine ab ?_ ?_ <;> intro h))
   refine ag ?_; simp [h, h2]
theorem e9 (n a b : Int) : ax G 567 [.int .i64 n, .int .i64 a, .int .i64 b] [] ⟨.bool (decide (a ≤ n ∧ n ≤ b)), []⟩ := by
 by_cases h : a ≤ n
 ·by_cases h2 : n ≤ b
  ·rw [decide_eq_true ⟨h, h2⟩]
   refine aa (F := f567) rfl rfl (ah 300 _ _ _ _ ?_)
   repeat' (first | refine ae ?_ | (refine ab ?_ ?_ <;> intro h))
   refine ag ?_; simp [h, h2]
  ·rw [decide_eq_false (fun x => h2 x.2)]
   refine aa (F := f567) rfl rfl (ah 300 _ _ _ _ ?_)
   repeat' (first | refine ae ?_ | (refine ab ?_ ?_ <;> intro h))
   refine ag ?_; simp [h, h2]
 ·rw [decide_eq_false (fun x => h x.1)]
  refine aa (F := f567) rfl rfl (ah 300 _ _ _ _ ?_)
  repeat' (first | refine ae ?_ | (refine ab ?_ ?_ <;> intro h))
  refine ag ?_; simp [h]
def fD (c : DampC) : Int := if c.half < 1 then 5 else if 86400 < c.half then 5 else if c.reuse < 1 then 5 else if 20000 < c.reuse then 5 else
 if c.suppress ≤ c.reuse then 5 else if 20000 < c.suppress then 5 else if c.maxTime < c.half then 5 else if 16 * c.half < c.maxTime then 5 else 0
theorem nG (c : DampC) : ax G 502 [.agg c.enc] [] ⟨.int .i64 (fD c), []⟩ := by
 by_cases c0 : c.half < 1
 ·rw [fD, if_pos c0]
  refine aa (F := f502) rfl rfl (ah 300 _ _ _ _ ?_)
  repeat' (first | refine ae ?_ | (refine ab ?_ ?_ <;> intro h))
  refine ag ?_; rfl
 by_cases c1 : 86400 < c.half
 ·rw [fD, if_neg c0, if_pos c1]
  refine aa (F := f502) rfl rfl (ah 300 _ _ _ _ ?_)
  repeat' (first | refine ae ?_ | (refine ab ?_ ?_ <;> intro h))
  refine ag ?_; rfl
 by_cases c2 : c.reuse < 1
 ·rw [fD, if_neg c0, if_neg c1, if_pos c2]
  refine aa (F := f502) rfl rfl (ah 300 _ _ _ _ ?_)
  repeat' (first | refine ae ?_ | (refine ab ?_ ?_ <;> intro h))
  refine ag ?_; rfl
 by_cases c3 : 20000 < c.reuse
 ·rw [fD, if_neg c0, if_neg c1, if_neg c2, if_pos c3]
  refine aa (F := f502) rfl rfl (ah 300 _ _ _ _ ?_)
  repeat' (first | refine ae ?_ | (refine ab ?_ ?_ <;> intro h))
  refine ag ?_; rfl
 by_cases c4 : c.suppress ≤ c.reuse
 ·rw [fD, if_neg c0, if_neg c1, if_neg c2, if_neg c3, if_pos c4]
  refine aa (F := f502) rfl rfl (ah 300 _ _ _ _ ?_)
  repeat' (first | refine ae ?_ | (refine ab ?_ ?_ <;> intro h))
  refine ag ?_; rfl
 by_cases c5 : 20000 < c.suppress
 ·rw [fD, if_neg c0, if_neg c1, if_neg c2, if_neg c3, if_neg c4, if_pos c5]
  refine aa (F := f502) rfl rfl (ah 300 _ _ _ _ ?_)
  repeat' (first | refine ae ?_ | (refine ab ?_ ?_ <;> intro h))
  refine ag ?_; rfl
 by_cases c6 : c.maxTime < c.half
 ·rw [fD, if_neg c0, if_neg c1, if_neg c2, if_neg c3, if_neg c4, if_neg c5, if_pos c6]
  refine aa (F := f502) rfl rfl (ah 300 _ _ _ _ ?_)
  repeat' (first | refine ae ?_ | (refine ab ?_ ?_ <;> intro h))
  refine ag ?_; rfl
 by_cases c7 : 16 * c.half < c.maxTime
 ·rw [fD, if_neg c0, if_neg c1, if_neg c2, if_neg c3, if_neg c4, if_neg c5, if_neg c6, if_pos c7]
  refine aa (F := f502) rfl rfl (ah 300 _ _ _ _ ?_)
  repeat' (first | refine ae ?_ | (refine ab ?_ ?_ <;> intro h))
  refine ag ?_; rfl
 rw [fD, if_neg c0, if_neg c1, if_neg c2, if_neg c3, if_neg c4, if_neg c5, if_neg c6, if_neg c7]
 refine aa (F := f502) rfl rfl (ah 300 _ _ _ _ ?_)
 repeat' (first | refine ae ?_ | (refine ab ?_ ?_ <;> intro h))
 refine ag ?_; rfl
end Go.AM.IR
namespace Go.AM.IR
def nmC (b : UInt8) : Bool := b.toNat == 45 || (decide (48 ≤ b.toNat) && decide (b.toNat ≤ 57)) || (decide (65 ≤ b.toNat) && decide (b.toNat ≤ 90)) || (decide (97 ≤ b.toNat) && decide (b.toNat ≤ 122))
def nmB (s : List UInt8) : Bool := s.all nmC && (decide (1 ≤ s.length) && decide ((s.length : Int) ≤ 32))
theorem gJ (s : List UInt8) (hs : s.length < 2 ^ 40) : ∀ (rest done : List UInt8) (T : List (Nat × AV)) (H : aq) (c : Nat) (n : Int) (e : s = done ++ rest) (hn : n = done.length),
  Ev G ⟨Qj, ⟨(3, .int .i64 n) :: (0, .str s) :: T, H, c⟩, [.t 2], 0⟩ ⟨.bool (rest.all nmC && (decide (1 ≤ s.length) && decide ((s.length : Int) ≤ 32))), []⟩
 | [], done, T, H, c, n, e, hn => by
  have hd : s.length = done.length := by simp [e]
  by_cases h1 : 1 ≤ s.length
  ·rw [decide_eq_true h1]
   refine evl ?_
   repeat' (first | refine ae ?_ | (refine ab ?_ ?_ <;> intro h))
   refine ag ?_; rfl
  ·rw [decide_eq_false h1]
   refine evl ?_
   repeat' (first | refine ae ?_ | (refine ab ?_ ?_ <;> intro h))
   refine ag ?_; rfl
 | x :: rest, done, T, H, c, n, e, hn => by
  have hd : s.length = done.length + (rest.length + 1) := by simp [e]
  have hb := idx_at e hn
  rw [List.all_cons]
  by_cases h0 : x.toNat < 45
  ·have hc : nmC x = false := by unfold nmC; simp; omega
   rw [hc, Bool.false_and, Bool.false_and]
   refine evl ?_
   repeat' (first | refine cg ?_ | (refine ab ?_ ?_ <;> intro h))
   refine ag ?_; rfl
  by_cases h1 : x.toNat = 45
  ·have hc : nmC x = true := by unfold nmC; simp; omega
   rw [hc, Bool.true_and]
   refine evl ?_
   repeat' (first | refine cg ?_ | (refine ab ?_ ?_ <;> intro h))
   refine am [3, 0] [] ?_
   exact gJ s hs rest (done ++ [x]) _ _ _ (n + 1) (by simp [e]) (by simp [hn])
  by_cases h2 : x.toNat < 48
  ·have hc : nmC x = false := by unfold nmC; simp; omega
   rw [hc, Bool.false_and, Bool.false_and]
   refine evl ?_
   repeat' (first | refine cg ?_ | (refine ab ?_ ?_ <;> intro h))
   refine ag ?_; rfl
  by_cases h3 : x.toNat ≤ 57
  ·have hc : nmC x = true := by unfold nmC; simp; omega
   rw [hc, Bool.true_and]
   refine evl ?_
   repeat' (first | refine cg ?_ | (refine ab ?_ ?_ <;> intro h))
   refine am [3, 0] [] ?_
   exact gJ s hs rest (done ++ [x]) _ _ _ (n + 1) (by simp [e]) (by simp [hn])
  by_cases h4 : x.toNat < 65
  ·have hc : nmC x = false := by unfold nmC; simp; omega
   rw [hc, Bool.false_and, Bool.false_and]
   refine evl ?_
   repeat' (first | refine cg ?_ | (refine ab ?_ ?_ <;> intro h))
   refine ag ?_; rfl
  by_cases h5 : x.toNat ≤ 90
  ·have hc : nmC x = true := by unfold nmC; simp; omega
   rw [hc, Bool.true_and]
   refine evl ?_
   repeat' (first | refine cg ?_ | (refine ab ?_ ?_ <;> intro h))
   refine am [3, 0] [] ?_
   exact gJ s hs rest (done ++ [x]) _ _ _ (n + 1) (by simp [e]) (by simp [hn])
  by_cases h6 : x.toNat < 97
  ·have hc : nmC x = false := by unfold nmC; simp; omega
   rw [hc, Bool.false_and, Bool.false_and]
   refine evl ?_
   repeat' (first | refine cg ?_ | (refine ab ?_ ?_ <;> intro h))
   refine ag ?_; rfl
  by_cases h7 : x.toNat ≤ 122
  ·have hc : nmC x = true := by unfold nmC; simp; omega
   rw [hc, Bool.true_and]
   refine evl ?_
   repeat' (first | refine cg ?_ | (refine ab ?_ ?_ <;> intro h))
   refine am [3, 0] [] ?_
   exact gJ s hs rest (done ++ [x]) _ _ _ (n + 1) (by simp [e]) (by simp [hn])
  have hc : nmC x = false := by unfold nmC; simp; omega
  rw [hc, Bool.false_and, Bool.false_and]
  refine evl ?_
  repeat' (first | refine cg ?_ | (refine ab ?_ ?_ <;> intro h))
  refine ag ?_; rfl
theorem pr (s : List UInt8) (hs : s.length < 2 ^ 40) : ax G 573 [.str s] [] ⟨.bool (nmB s), []⟩ := by
 refine aa (F := f573) rfl rfl (ah 300 _ _ _ _ ?_)
 repeat' (first | refine ae ?_ | (refine ab ?_ ?_ <;> intro h))
 refine am [3, 0] [] ?_
 exact gJ s hs s [] _ _ _ 0 rfl rfl
def gY (r : ComR) : Int := if r.high < -1 then 5 else if 65535 < r.high then 5 else if r.low < -1 then 5 else if 65535 < r.low then 5 else 0
theorem BL (r : ComR) : ax G 572 [.agg r.enc] [] ⟨.int .i64 (gY r), []⟩ := by
 by_cases c0 : r.high < -1
 ·rw [gY, if_pos c0]
  refine aa (F := f572) rfl rfl (ah 300 _ _ _ _ ?_)
  repeat' (first | refine ae ?_ | (refine ab ?_ ?_ <;> intro h))
  refine ag ?_; rfl
 by_cases c1 : 65535 < r.high
 ·rw [gY, if_neg c0, if_pos c1]
  refine aa (F := f572) rfl rfl (ah 300 _ _ _ _ ?_)
  repeat' (first | refine ae ?_ | (refine ab ?_ ?_ <;> intro h))
  refine ag ?_; rfl
 by_cases c2 : r.low < -1
 ·rw [gY, if_neg c0, if_neg c1, if_pos c2]
  refine aa (F := f572) rfl rfl (ah 300 _ _ _ _ ?_)
  repeat' (first | refine ae ?_ | (refine ab ?_ ?_ <;> intro h))
  refine ag ?_; rfl
 by_cases c3 : 65535 < r.low
 ·rw [gY, if_neg c0, if_neg c1, if_neg c2, if_pos c3]
  refine aa (F := f572) rfl rfl (ah 300 _ _ _ _ ?_)
  repeat' (first | refine ae ?_ | (refine ab ?_ ?_ <;> intro h))
  refine ag ?_; rfl
 rw [gY, if_neg c0, if_neg c1, if_neg c2, if_neg c3]
 refine aa (F := f572) rfl rfl (ah 300 _ _ _ _ ?_)
 repeat' (first | refine ae ?_ | (refine ab ?_ ?_ <;> intro h))
 refine ag ?_; rfl
end Go.AM.IR
namespace Go.AM.IR
section
variable {kv : AV → Prop}
theorem OC {a b : List UInt8} {v : Bool} (hv : (Op.bytesLess a b || a == b) = v) (h : kv (.bool v)) : ∃ w, bj .leq (.str a) (.str b) = some w ∧ kv w := ⟨_, by show some (AV.bool (Op.bytesLess a b || a == b)) = _; rw [hv], h⟩
end
def dz (name before : List UInt8) (any : Bool) (n : Int) : Int := if nmB name = false then 1 else if any = false ∧ (Op.bytesLess name before || name == before) = true then 16 else if 64 < n then 4 else 0
theorem fQ (name before : List UInt8) (hn : name.length < 2 ^ 40) (any : Bool) (n : Int) : ax G 500 [.str name, .str before, .bool any, .int .i64 n] [] ⟨.int .i64 (dz name before any n), []⟩ := by
 have h1 := pr name hn
 rw [dz]
 rcases hb : nmB name with _ | _
 ·rw [hb] at h1
  rw [if_pos rfl]
  refine aa (F := f500) rfl rfl (ah 300 _ _ _ _ ?_)
  repeat' (first | refine ae ?_ | (refine ab ?_ ?_ <;> intro h))
  refine ag ?_; rfl
 rw [hb] at h1
 rw [if_neg (by simp)]
 cases any
 ·rcases hl : (Op.bytesLess name before || name == before) with _ | _
  ·rw [if_neg (by simp)]
   by_cases c : 64 < n
   ·rw [if_pos c]
    refine aa (F := f500) rfl rfl (ah 300 _ _ _ _ ?_)
    repeat' ((conv => whnf); first | refine OC hl ?_ | refine aP ?_ | (refine ab ?_ ?_ <;> intro h))
    refine ag ?_; rfl
   ·rw [if_neg c]
    refine aa (F := f500) rfl rfl (ah 300 _ _ _ _ ?_)
    repeat' ((conv => whnf); first | refine OC hl ?_ | refine aP ?_ | (refine ab ?_ ?_ <;> intro h))
    refine ag ?_; rfl
  ·rw [if_pos ⟨rfl, rfl⟩]
   refine aa (F := f500) rfl rfl (ah 300 _ _ _ _ ?_)
   repeat' ((conv => whnf); first | refine OC hl ?_ | refine aP ?_ | (refine ab ?_ ?_ <;> intro h))
   refine ag ?_; rfl
 ·rw [if_neg (by simp)]
  by_cases c : 64 < n
  ·rw [if_pos c]
   refine aa (F := f500) rfl rfl (ah 300 _ _ _ _ ?_)
   repeat' (first | refine ae ?_ | (refine ab ?_ ?_ <;> intro h))
   refine ag ?_; rfl
  ·rw [if_neg c]
   refine aa (F := f500) rfl rfl (ah 300 _ _ _ _ ?_)
   repeat' (first | refine ae ?_ | (refine ab ?_ ?_ <;> intro h))
   refine ag ?_; rfl
def dh (a : Actn) : Int := if a.asn ≠ 0 then 1 else if a.com ≠ 0 then 1 else if a.addr ≠ 0 then 1 else if a.n < 0 then 5 else if 4294967295 < a.n then 5 else 0
theorem aua (a : Actn) (hk : a.kind = 1) : ax G 575 [.agg a.enc] [] ⟨.int .i64 (dh a), []⟩ := by
 by_cases c0 : a.asn ≠ 0
 ·rw [dh, if_pos c0]
  refine aa (F := f575) rfl rfl (ah 300 _ _ _ _ ?_)
  repeat' (first | refine ae ?_ | (refine ab ?_ ?_ <;> intro h))
  refine ag ?_; rfl
 have d0 : a.asn = 0 := Decidable.not_not.1 c0
 by_cases c1 : a.com ≠ 0
 ·rw [dh, if_neg c0, if_pos c1]
  refine aa (F := f575) rfl rfl (ah 300 _ _ _ _ ?_)
  repeat' (first | refine ae ?_ | (refine ab ?_ ?_ <;> intro h))
  refine ag ?_; rfl
 have d1 : a.com = 0 := Decidable.not_not.1 c1
 by_cases c2 : a.addr ≠ 0
 ·rw [dh, if_neg c0, if_neg c1, if_pos c2]
  refine aa (F := f575) rfl rfl (ah 300 _ _ _ _ ?_)
  repeat' (first | refine ae ?_ | (refine ab ?_ ?_ <;> intro h))
  refine ag ?_; rfl
 have d2 : a.addr = 0 := Decidable.not_not.1 c2
 by_cases c3 : a.n < 0
 ·rw [dh, if_neg c0, if_neg c1, if_neg c2, if_pos c3]
  refine aa (F := f575) rfl rfl (ah 300 _ _ _ _ ?_)
  repeat' (first | refine ae ?_ | (refine ab ?_ ?_ <;> intro h))
  refine ag ?_; rfl
 by_cases c4 : 4294967295 < a.n
 ·rw [dh, if_neg c0, if_neg c1, if_neg c2, if_neg c3, if_pos c4]
  refine aa (F := f575) rfl rfl (ah 300 _ _ _ _ ?_)
  repeat' (first | refine ae ?_ | (refine ab ?_ ?_ <;> intro h))
  refine ag ?_; rfl
 rw [dh, if_neg c0, if_neg c1, if_neg c2, if_neg c3, if_neg c4]
 refine aa (F := f575) rfl rfl (ah 300 _ _ _ _ ?_)
 repeat' (first | refine ae ?_ | (refine ab ?_ ?_ <;> intro h))
 refine ag ?_; rfl
theorem at9 (a : Actn) (hk : a.kind = 2) : ax G 575 [.agg a.enc] [] ⟨.int .i64 (dh a), []⟩ := by
 by_cases c0 : a.asn ≠ 0
 ·rw [dh, if_pos c0]
  refine aa (F := f575) rfl rfl (ah 300 _ _ _ _ ?_)
  repeat' (first | refine ae ?_ | (refine ab ?_ ?_ <;> intro h))
  refine ag ?_; rfl
 have d0 : a.asn = 0 := Decidable.not_not.1 c0
 by_cases c1 : a.com ≠ 0
 ·rw [dh, if_neg c0, if_pos c1]
  refine aa (F := f575) rfl rfl (ah 300 _ _ _ _ ?_)
  repeat' (first | refine ae ?_ | (refine ab ?_ ?_ <;> intro h))
  refine ag ?_; rfl
 have d1 : a.com = 0 := Decidable.not_not.1 c1
 by_cases c2 : a.addr ≠ 0
 ·rw [dh, if_neg c0, if_neg c1, if_pos c2]
  refine aa (F := f575) rfl rfl (ah 300 _ _ _ _ ?_)
  repeat' (first | refine ae ?_ | (refine ab ?_ ?_ <;> intro h))
  refine ag ?_; rfl
 have d2 : a.addr = 0 := Decidable.not_not.1 c2
 by_cases c3 : a.n < 0
 ·rw [dh, if_neg c0, if_neg c1, if_neg c2, if_pos c3]
  refine aa (F := f575) rfl rfl (ah 300 _ _ _ _ ?_)
  repeat' (first | refine ae ?_ | (refine ab ?_ ?_ <;> intro h))
  refine ag ?_; rfl
 by_cases c4 : 4294967295 < a.n
 ·rw [dh, if_neg c0, if_neg c1, if_neg c2, if_neg c3, if_pos c4]
  refine aa (F := f575) rfl rfl (ah 300 _ _ _ _ ?_)
  repeat' (first | refine ae ?_ | (refine ab ?_ ?_ <;> intro h))
  refine ag ?_; rfl
 rw [dh, if_neg c0, if_neg c1, if_neg c2, if_neg c3, if_neg c4]
 refine aa (F := f575) rfl rfl (ah 300 _ _ _ _ ?_)
 repeat' (first | refine ae ?_ | (refine ab ?_ ?_ <;> intro h))
 refine ag ?_; rfl
theorem at7 (a : Actn) (hk : a.kind = 4) : ax G 575 [.agg a.enc] [] ⟨.int .i64 (dh a), []⟩ := by
 by_cases c0 : a.asn ≠ 0
 ·rw [dh, if_pos c0]
  refine aa (F := f575) rfl rfl (ah 300 _ _ _ _ ?_)
  repeat' (first | refine ae ?_ | (refine ab ?_ ?_ <;> intro h))
  refine ag ?_; rfl
 have d0 : a.asn = 0 := Decidable.not_not.1 c0
 by_cases c1 : a.com ≠ 0
 ·rw [dh, if_neg c0, if_pos c1]
  refine aa (F := f575) rfl rfl (ah 300 _ _ _ _ ?_)
  repeat' (first | refine ae ?_ | (refine ab ?_ ?_ <;> intro h))
  refine ag ?_; rfl
 have d1 : a.com = 0 := Decidable.not_not.1 c1
 by_cases c2 : a.addr ≠ 0
 ·rw [dh, if_neg c0, if_neg c1, if_pos c2]
  refine aa (F := f575) rfl rfl (ah 300 _ _ _ _ ?_)
  repeat' (first | refine ae ?_ | (refine ab ?_ ?_ <;> intro h))
  refine ag ?_; rfl
 have d2 : a.addr = 0 := Decidable.not_not.1 c2
 by_cases c3 : a.n < 0
 ·rw [dh, if_neg c0, if_neg c1, if_neg c2, if_pos c3]
  refine aa (F := f575) rfl rfl (ah 300 _ _ _ _ ?_)
  repeat' (first | refine ae ?_ | (refine ab ?_ ?_ <;> intro h))
  refine ag ?_; rfl
 by_cases c4 : 4294967295 < a.n
 ·rw [dh, if_neg c0, if_neg c1, if_neg c2, if_neg c3, if_pos c4]
  refine aa (F := f575) rfl rfl (ah 300 _ _ _ _ ?_)
  repeat' (first | refine ae ?_ | (refine ab ?_ ?_ <;> intro h))
  refine ag ?_; rfl
 rw [dh, if_neg c0, if_neg c1, if_neg c2, if_neg c3, if_neg c4]
 refine aa (F := f575) rfl rfl (ah 300 _ _ _ _ ?_)
 repeat' (first | refine ae ?_ | (refine ab ?_ ?_ <;> intro h))
 refine ag ?_; rfl
def nW (a : Actn) : Int := if a.asn ≠ 0 then 1 else if a.com ≠ 0 then 1 else if a.addr ≠ 0 then 1 else if a.n < 0 then 5 else if 16777216 < a.n then 5 else 0
theorem at8 (a : Actn) (hk : a.kind = 3) : ax G 575 [.agg a.enc] [] ⟨.int .i64 (nW a), []⟩ := by
 by_cases c0 : a.asn ≠ 0
 ·rw [nW, if_pos c0]
  refine aa (F := f575) rfl rfl (ah 300 _ _ _ _ ?_)
  repeat' (first | refine ae ?_ | (refine ab ?_ ?_ <;> intro h))
  refine ag ?_; rfl
 have d0 : a.asn = 0 := Decidable.not_not.1 c0
 by_cases c1 : a.com ≠ 0
 ·rw [nW, if_neg c0, if_pos c1]
  refine aa (F := f575) rfl rfl (ah 300 _ _ _ _ ?_)
  repeat' (first | refine ae ?_ | (refine ab ?_ ?_ <;> intro h))
  refine ag ?_; rfl
 have d1 : a.com = 0 := Decidable.not_not.1 c1
 by_cases c2 : a.addr ≠ 0
 ·rw [nW, if_neg c0, if_neg c1, if_pos c2]
  refine aa (F := f575) rfl rfl (ah 300 _ _ _ _ ?_)
  repeat' (first | refine ae ?_ | (refine ab ?_ ?_ <;> intro h))
  refine ag ?_; rfl
 have d2 : a.addr = 0 := Decidable.not_not.1 c2
 by_cases c3 : a.n < 0
 ·rw [nW, if_neg c0, if_neg c1, if_neg c2, if_pos c3]
  refine aa (F := f575) rfl rfl (ah 300 _ _ _ _ ?_)
  repeat' (first | refine ae ?_ | (refine ab ?_ ?_ <;> intro h))
  refine ag ?_; rfl
 by_cases c4 : 16777216 < a.n
 ·rw [nW, if_neg c0, if_neg c1, if_neg c2, if_neg c3, if_pos c4]
  refine aa (F := f575) rfl rfl (ah 300 _ _ _ _ ?_)
  repeat' (first | refine ae ?_ | (refine ab ?_ ?_ <;> intro h))
  refine ag ?_; rfl
 rw [nW, if_neg c0, if_neg c1, if_neg c2, if_neg c3, if_neg c4]
 refine aa (F := f575) rfl rfl (ah 300 _ _ _ _ ?_)
 repeat' (first | refine ae ?_ | (refine ab ?_ ?_ <;> intro h))
 refine ag ?_; rfl
def qR (a : Actn) : Int := if a.n ≠ 0 then 1 else if a.asn ≠ 0 then 1 else if a.com ≠ 0 then 1 else if a.addr = 0 then 5 else 0
theorem at6 (a : Actn) (hk : a.kind = 5) : ax G 575 [.agg a.enc] [] ⟨.int .i64 (qR a), []⟩ := by
 by_cases c0 : a.n ≠ 0
 ·rw [qR, if_pos c0]
  refine aa (F := f575) rfl rfl (ah 300 _ _ _ _ ?_)
  repeat' (first | refine ae ?_ | (refine ab ?_ ?_ <;> intro h))
  refine ag ?_; rfl
 have d0 : a.n = 0 := Decidable.not_not.1 c0
 by_cases c1 : a.asn ≠ 0
 ·rw [qR, if_neg c0, if_pos c1]
  refine aa (F := f575) rfl rfl (ah 300 _ _ _ _ ?_)
  repeat' (first | refine ae ?_ | (refine ab ?_ ?_ <;> intro h))
  refine ag ?_; rfl
 have d1 : a.asn = 0 := Decidable.not_not.1 c1
 by_cases c2 : a.com ≠ 0
 ·rw [qR, if_neg c0, if_neg c1, if_pos c2]
  refine aa (F := f575) rfl rfl (ah 300 _ _ _ _ ?_)
  repeat' (first | refine ae ?_ | (refine ab ?_ ?_ <;> intro h))
  refine ag ?_; rfl
 have d2 : a.com = 0 := Decidable.not_not.1 c2
 by_cases c3 : a.addr = 0
 ·rw [qR, if_neg c0, if_neg c1, if_neg c2, if_pos c3]
  refine aa (F := f575) rfl rfl (ah 300 _ _ _ _ ?_)
  repeat' (first | refine ae ?_ | (refine ab ?_ ?_ <;> intro h))
  refine ag ?_; rfl
 rw [qR, if_neg c0, if_neg c1, if_neg c2, if_neg c3]
 refine aa (F := f575) rfl rfl (ah 300 _ _ _ _ ?_)
 repeat' (first | refine ae ?_ | (refine ab ?_ ?_ <;> intro h))
 refine ag ?_; rfl
def je (a : Actn) : Int := if a.n ≠ 0 then 1 else if a.asn ≠ 0 then 1 else if a.addr ≠ 0 then 1 else 0
theorem at5 (a : Actn) (hk : a.kind = 6) : ax G 575 [.agg a.enc] [] ⟨.int .i64 (je a), []⟩ := by
 by_cases c0 : a.n ≠ 0
 ·rw [je, if_pos c0]
  refine aa (F := f575) rfl rfl (ah 300 _ _ _ _ ?_)
  repeat' (first | refine ae ?_ | (refine ab ?_ ?_ <;> intro h))
  refine ag ?_; rfl
 have d0 : a.n = 0 := Decidable.not_not.1 c0
 by_cases c1 : a.asn ≠ 0
 ·rw [je, if_neg c0, if_pos c1]
  refine aa (F := f575) rfl rfl (ah 300 _ _ _ _ ?_)
  repeat' (first | refine ae ?_ | (refine ab ?_ ?_ <;> intro h))
  refine ag ?_; rfl
 have d1 : a.asn = 0 := Decidable.not_not.1 c1
 by_cases c2 : a.addr ≠ 0
 ·rw [je, if_neg c0, if_neg c1, if_pos c2]
  refine aa (F := f575) rfl rfl (ah 300 _ _ _ _ ?_)
  repeat' (first | refine ae ?_ | (refine ab ?_ ?_ <;> intro h))
  refine ag ?_; rfl
 have d2 : a.addr = 0 := Decidable.not_not.1 c2
 rw [je, if_neg c0, if_neg c1, if_neg c2]
 refine aa (F := f575) rfl rfl (ah 300 _ _ _ _ ?_)
 repeat' (first | refine ae ?_ | (refine ab ?_ ?_ <;> intro h))
 refine ag ?_; rfl
theorem at4 (a : Actn) (hk : a.kind = 7) : ax G 575 [.agg a.enc] [] ⟨.int .i64 (je a), []⟩ := by
 by_cases c0 : a.n ≠ 0
 ·rw [je, if_pos c0]
  refine aa (F := f575) rfl rfl (ah 300 _ _ _ _ ?_)
  repeat' (first | refine ae ?_ | (refine ab ?_ ?_ <;> intro h))
  refine ag ?_; rfl
 have d0 : a.n = 0 := Decidable.not_not.1 c0
 by_cases c1 : a.asn ≠ 0
 ·rw [je, if_neg c0, if_pos c1]
  refine aa (F := f575) rfl rfl (ah 300 _ _ _ _ ?_)
  repeat' (first | refine ae ?_ | (refine ab ?_ ?_ <;> intro h))
  refine ag ?_; rfl
 have d1 : a.asn = 0 := Decidable.not_not.1 c1
 by_cases c2 : a.addr ≠ 0
 ·rw [je, if_neg c0, if_neg c1, if_pos c2]
  refine aa (F := f575) rfl rfl (ah 300 _ _ _ _ ?_)
  repeat' (first | refine ae ?_ | (refine ab ?_ ?_ <;> intro h))
  refine ag ?_; rfl
 have d2 : a.addr = 0 := Decidable.not_not.1 c2
 rw [je, if_neg c0, if_neg c1, if_neg c2]
 refine aa (F := f575) rfl rfl (ah 300 _ _ _ _ ?_)
 repeat' (first | refine ae ?_ | (refine ab ?_ ?_ <;> intro h))
 refine ag ?_; rfl
def kA (a : Actn) : Int := if a.com ≠ 0 then 1 else if a.addr ≠ 0 then 1 else if a.n < 0 then 5 else if 16 < a.n then 5 else if a.n < 1 then 5 else if a.asn < 1 then 5 else if 4294967295 < a.asn then 5 else 0
theorem at3 (a : Actn) (hk : a.kind = 8) : ax G 575 [.agg a.enc] [] ⟨.int .i64 (kA a), []⟩ := by
 by_cases c0 : a.com ≠ 0
 ·rw [kA, if_pos c0]
  refine aa (F := f575) rfl rfl (ah 300 _ _ _ _ ?_)
  repeat' (first | refine ae ?_ | (refine ab ?_ ?_ <;> intro h))
  refine ag ?_; rfl
 have d0 : a.com = 0 := Decidable.not_not.1 c0
 by_cases c1 : a.addr ≠ 0
 ·rw [kA, if_neg c0, if_pos c1]
  refine aa (F := f575) rfl rfl (ah 300 _ _ _ _ ?_)
  repeat' (first | refine ae ?_ | (refine ab ?_ ?_ <;> intro h))
  refine ag ?_; rfl
 have d1 : a.addr = 0 := Decidable.not_not.1 c1
 by_cases c2 : a.n < 0
 ·rw [kA, if_neg c0, if_neg c1, if_pos c2]
  refine aa (F := f575) rfl rfl (ah 300 _ _ _ _ ?_)
  repeat' (first | refine ae ?_ | (refine ab ?_ ?_ <;> intro h))
  refine ag ?_; rfl
 by_cases c3 : 16 < a.n
 ·rw [kA, if_neg c0, if_neg c1, if_neg c2, if_pos c3]
  refine aa (F := f575) rfl rfl (ah 300 _ _ _ _ ?_)
  repeat' (first | refine ae ?_ | (refine ab ?_ ?_ <;> intro h))
  refine ag ?_; rfl
 by_cases c4 : a.n < 1
 ·rw [kA, if_neg c0, if_neg c1, if_neg c2, if_neg c3, if_pos c4]
  refine aa (F := f575) rfl rfl (ah 300 _ _ _ _ ?_)
  repeat' (first | refine ae ?_ | (refine ab ?_ ?_ <;> intro h))
  refine ag ?_; rfl
 by_cases c5 : a.asn < 1
 ·rw [kA, if_neg c0, if_neg c1, if_neg c2, if_neg c3, if_neg c4, if_pos c5]
  refine aa (F := f575) rfl rfl (ah 300 _ _ _ _ ?_)
  repeat' (first | refine ae ?_ | (refine ab ?_ ?_ <;> intro h))
  refine ag ?_; rfl
 by_cases c6 : 4294967295 < a.asn
 ·rw [kA, if_neg c0, if_neg c1, if_neg c2, if_neg c3, if_neg c4, if_neg c5, if_pos c6]
  refine aa (F := f575) rfl rfl (ah 300 _ _ _ _ ?_)
  repeat' (first | refine ae ?_ | (refine ab ?_ ?_ <;> intro h))
  refine ag ?_; rfl
 rw [kA, if_neg c0, if_neg c1, if_neg c2, if_neg c3, if_neg c4, if_neg c5, if_neg c6]
 refine aa (F := f575) rfl rfl (ah 300 _ _ _ _ ?_)
 repeat' (first | refine ae ?_ | (refine ab ?_ ?_ <;> intro h))
 refine ag ?_; rfl
def qQ (a : Actn) : Int := if a.kind = 1 then dh a else if a.kind = 2 then dh a else if a.kind = 4 then dh a else if a.kind = 3 then nW a else if a.kind = 5 then qR a else if a.kind = 6 then je a else if a.kind = 7 then je a else if a.kind = 8 then kA a else 15
theorem Cy (a : Actn) : ax G 575 [.agg a.enc] [] ⟨.int .i64 (qQ a), []⟩ := by
 rw [qQ]
 by_cases k1 : a.kind = 1
 ·rw [if_pos k1]
  exact aua a k1
 rw [if_neg k1]
 by_cases k2 : a.kind = 2
 ·rw [if_pos k2]
  exact at9 a k2
 rw [if_neg k2]
 by_cases k4 : a.kind = 4
 ·rw [if_pos k4]
  exact at7 a k4
 rw [if_neg k4]
 by_cases k3 : a.kind = 3
 ·rw [if_pos k3]
  exact at8 a k3
 rw [if_neg k3]
 by_cases k5 : a.kind = 5
 ·rw [if_pos k5]
  exact at6 a k5
 rw [if_neg k5]
 by_cases k6 : a.kind = 6
 ·rw [if_pos k6]
  exact at5 a k6
 rw [if_neg k6]
 by_cases k7 : a.kind = 7
 ·rw [if_pos k7]
  exact at4 a k7
 rw [if_neg k7]
 by_cases k8 : a.kind = 8
 ·rw [if_pos k8]
  exact at3 a k8
 rw [if_neg k8]
 refine aa (F := f575) rfl rfl (ah 300 _ _ _ _ ?_)
 repeat' (first | refine ae ?_ | (refine ab ?_ ?_ <;> intro h))
 refine ag ?_; rfl
end Go.AM.IR
namespace Go.AM.IR
def bc (x n : Nat) : Nat := x / 2 ^ (32 - n) * 2 ^ (32 - n)
theorem vK (x n j : Nat) (hn : n ≤ 32) : (bc x n).testBit j = (decide (32 - n ≤ j) && x.testBit j) := by
 unfold bc
 rw [Nat.testBit_mul_two_pow]
 by_cases h : 32 - n ≤ j
 ·simp only [h, decide_true, Bool.true_and]
  rw [Nat.testBit_div_two_pow]; congr 1; omega
 ·simp [h]
theorem zg (x n : Nat) : bc x n ≤ x := Nat.div_mul_le_self _ _
theorem KO (x n : Nat) (hn : n < 32) : bc x n ||| (x / 2 ^ (31 - n) % 2 * 2 ^ (31 - n)) = bc x (n + 1) := by
 apply Nat.eq_of_testBit_eq
 intro j
 rw [Nat.testBit_or, vK x n j (by omega), vK x (n + 1) j (by omega), Nat.testBit_mul_two_pow]
 have e1 : ∀ q : Nat, (x / 2 ^ (31 - n) % 2).testBit q = (decide (q < 1) && (x / 2 ^ (31 - n)).testBit q) := fun q => by
  have := Nat.testBit_mod_two_pow (x / 2 ^ (31 - n)) 1 q
  simpa using this
 rw [e1, Nat.testBit_div_two_pow]
 by_cases h1 : 32 - n ≤ j
 ·have h2 : 32 - (n + 1) ≤ j := by omega
  have h3 : ¬ (j - (31 - n) < 1) := by omega
  simp [h1, h2, h3]; intro _; omega
 ·by_cases h2 : j = 31 - n
  ·subst h2
   have h3 : 32 - (n + 1) ≤ 31 - n := by omega
   simp [h1, h3]
  ·have h3 : ¬ 32 - (n + 1) ≤ j := by omega
   have h4 : ¬ 31 - n ≤ j := by omega
   simp [h1, h3, h4]
theorem KN (x : Nat) (hx : x < 4294967296) : bc x 0 = 0 := by
 unfold bc; rw [Nat.div_eq_of_lt (by simpa using hx), Nat.zero_mul]
def cq (n : Int) : Nat := if n ≤ 0 then 0 else if n ≤ 32 then n.toNat else 32
theorem Ob (n : Int) : cq n ≤ 32 := by
 unfold cq
 repeat' split
 all_goals omega
section
variable {k : AV → Prop}
theorem n7 (r : Nat) (hr : r < 4294967296) : IntKind.wrap .u32 (r : Int) = (r : Int) := by
 simp [IntKind.wrap, IntKind.signed, IntKind.bits]; omega
theorem oe (a : Nat) (ha : a < 4294967296) : (BitVec.ofInt 32 (a : Int)).toNat = a := by
 rw [BitVec.toNat_ofInt]; omega
theorem JY (a b : Nat) (ha : a < 4294967296) (hb : b < 4294967296) : intBits .and .u32 (a : Int) (b : Int) = ((a &&& b : Nat) : Int) := by
 have hl : a &&& b < 4294967296 := Nat.lt_of_le_of_lt Nat.and_le_left ha
 show IntKind.wrap .u32 (((BitVec.ofInt 32 (a : Int) &&& BitVec.ofInt 32 (b : Int)).toNat : Nat) : Int) = _
 rw [BitVec.toNat_and, oe a ha, oe b hb]; exact n7 _ hl
theorem adh (a b : Nat) (ha : a < 4294967296) (hb : b < 4294967296) : intBits .or .u32 (a : Int) (b : Int) = ((a ||| b : Nat) : Int) := by
 have hl : a ||| b < 4294967296 := Nat.or_lt_two_pow (n := 32) ha hb
 show IntKind.wrap .u32 (((BitVec.ofInt 32 (a : Int) ||| BitVec.ofInt 32 (b : Int)).toNat : Nat) : Int) = _
 rw [BitVec.toNat_or, oe a ha, oe b hb]; exact n7 _ hl
theorem xU {a b : Nat} (h : k (.int .u32 ((a &&& b : Nat) : Int))) (ha : a < 4294967296 := by omega) (hb : b < 4294967296 := by omega) : ∃ v, bj .and (.int .u32 (a : Int)) (.int .u32 (b : Int)) = some v ∧ k v := ⟨_, by show some (AV.int .u32 (intBits .and .u32 _ _)) = _; rw [JY a b ha hb], h⟩
theorem atG {a b : Nat} (h : k (.int .u32 ((a ||| b : Nat) : Int))) (ha : a < 4294967296) (hb : b < 4294967296) : ∃ v, bj .or (.int .u32 (a : Int)) (.int .u32 (b : Int)) = some v ∧ k v := ⟨_, by show some (AV.int .u32 (intBits .or .u32 _ _)) = _; rw [adh a b ha hb], h⟩
theorem ac7 {x : Nat} {j : Int} (h : k (.int .u32 ((x / 2 ^ j.toNat : Nat) : Int))) (h0 : 0 ≤ j) (h1 : j ≤ 32) : ∃ v, bj .shr (.int .u32 (x : Int)) (.int .u64 j) = some v ∧ k v := by
 refine ⟨_, ?_, h⟩
 show (if j < 0 then none else some (AV.int .u32 ((x : Int).fdiv (2 ^ (min j.toNat 32))))) = _
 rw [if_neg (by omega), show min j.toNat 32 = j.toNat by omega]
 congr 2
 rw [Int.fdiv_eq_ediv_of_nonneg _ (by exact Int.le_of_lt (Int.pow_pos (by omega)))]
 simp
theorem atF {b m : Nat} {j : Int} (h : k (.int .u32 ((b * 2 ^ m : Nat) : Int))) (hj : j = m) (hm : m < 32) (hb : b < 2) : ∃ v, bj .shl (.int .u32 (b : Int)) (.int .u64 j) = some v ∧ k v := by
 refine ⟨_, ?_, h⟩
 show (if j < 0 then none else some (AV.int .u32 (IntKind.wrap .u32 ((b : Int) * 2 ^ (min j.toNat 32))))) = _
 rw [if_neg (by omega), show min j.toNat 32 = m by omega]
 have h1 : (2 : Nat) ^ m ≤ 2 ^ 31 := Nat.pow_le_pow_right (by omega) (by omega)
 have e : ((b : Int) * 2 ^ m : Int) = ((b * 2 ^ m : Nat) : Int) := by simp
 rw [e]
 have h3 : b * 2 ^ m < 4294967296 := by
  have : b * 2 ^ m ≤ 1 * 2 ^ m := Nat.mul_le_mul_right _ (by omega)
  omega
 congr 2
 simp only [IntKind.wrap, IntKind.signed, IntKind.bits]; simp; omega
theorem atH {x : Nat} (hx : x < 4294967296) (h : k (.int .u32 ((x % 2 : Nat) : Int))) : ∃ v, bj .and (.int .u32 (x : Int)) (.int .u32 1) = some v ∧ k v :=
 ⟨_, by
  show some (AV.int .u32 (intBits .and .u32 (x : Int) ((1 : Nat) : Int))) = _
  rw [JY x 1 hx (by omega), Nat.and_one_is_mod], h⟩
end
end Go.AM.IR
namespace Go.AM.IR
theorem y9 (n : Int) : ax G 184 [.int .i64 n, .int .i64 32] [] ⟨.int .i64 (cq n : Nat), []⟩ := by
 by_cases h0 : n ≤ 0
 ·rw [show cq n = 0 from by simp [cq, h0]]
  by_cases h1 : n = 0
  ·subst h1
   refine aa (F := f184) rfl rfl (ah 300 _ _ _ _ ?_)
   repeat' (first | refine ae ?_ | (refine ab ?_ ?_ <;> intro h))
   refine ag ?_; rfl
  ·have h2 : n < 0 := by omega
   refine aa (F := f184) rfl rfl (ah 300 _ _ _ _ ?_)
   repeat' (first | refine ae ?_ | (refine ab ?_ ?_ <;> intro h))
   refine ag ?_; first | rfl | (simp [h2])
 ·by_cases h1 : n ≤ 32
  ·rw [show ((cq n : Nat) : Int) = n from by simp [cq, h0, h1]; omega]
   refine aa (F := f184) rfl rfl (ah 300 _ _ _ _ ?_)
   repeat' (first | refine ae ?_ | (refine ab ?_ ?_ <;> intro h))
   refine ag ?_; rfl
  ·rw [show cq n = 32 from by simp [cq, h0, h1]]
   refine aa (F := f184) rfl rfl (ah 300 _ _ _ _ ?_)
   repeat' (first | refine ae ?_ | (refine ab ?_ ?_ <;> intro h))
   refine ag ?_; rfl
theorem DC (x i : Nat) (hx : x < 4294967296) (hi : i < 32) : ax G 185 [.int .u32 (x : Int), .int .i64 (i : Int)] [] ⟨.int .i64 (x / 2 ^ (31 - i) % 2 : Nat), []⟩ := by
 have he : (31 - (i : Int)).toNat = 31 - i := by omega
 have hd : x / 2 ^ (31 - i) < 4294967296 := Nat.lt_of_le_of_lt (Nat.div_le_self _ _) hx
 have hm : x / 2 ^ (31 - i) % 2 < 2 := Nat.mod_lt _ (by omega)
 rw [← he] at hd hm ⊢
 refine aa (F := f185) rfl rfl (ah 300 _ _ _ _ ?_)
 repeat' ((conv => whnf); first | refine ac7 ?_ (by omega) (by omega) | refine atH hd ?_ | refine aP ?_ | (refine ab ?_ ?_ <;> intro h))
 refine ag ?_; rfl
theorem nx (x c : Nat) (hx : x < 4294967296) (hc : c ≤ 32) : ∀ (d i : Nat) (T : List (Nat × AV)) (H : aq) (ct : Nat) (hd : d + i = c),
  Ev G ⟨Qv, ⟨(9, .int .i64 (i : Int)) :: (0, .int .u32 (x : Int)) :: (5, .int .u32 (bc x i : Nat)) :: (8, .int .i64 (c : Int)) :: T, H, ct⟩, [.t 4], 0⟩ ⟨.int .u32 (bc x c : Nat), []⟩
 | 0, i, T, H, ct, hd => by
  obtain rfl : i = c := by omega
  refine evl ?_
  repeat' (first | refine ae ?_ | (refine ab ?_ ?_ <;> intro h))
  refine ag ?_; rfl
 | d + 1, i, T, H, ct, hd => by
  have ha := DC x i hx (by omega)
  have hb : x / 2 ^ (31 - i) % 2 < 2 := Nat.mod_lt _ (by omega)
  have hk := KO x i (by omega)
  have hl := zg x i
  have hs : x / 2 ^ (31 - i) % 2 * 2 ^ (31 - i) < 4294967296 := by
   have h1 : (2 : Nat) ^ (31 - i) ≤ 2 ^ 31 := Nat.pow_le_pow_right (by omega) (by omega)
   have h2 := Nat.mul_le_mul_right (2 ^ (31 - i)) (show x / 2 ^ (31 - i) % 2 ≤ 1 by omega)
   omega
  generalize x / 2 ^ (31 - i) % 2 = b at *
  generalize hki : bc x i = ki at *
  refine evl ?_
  repeat' ((conv => whnf); first | refine atF (m := 31 - i) ?_ (by omega) (by omega) hb | refine atG ?_ (by omega) hs | refine aP ?_ | (refine ab ?_ ?_ <;> intro h))
  rw [hk]
  refine am [9, 0, 5, 8] [] ?_
  exact nx x c hx hc d (i + 1) _ _ _ (by omega)
theorem xa (x : Nat) (n : Int) (hx : x < 4294967296) : ax G 182 [.int .u32 (x : Int), .int .i64 n] [] ⟨.int .u32 (bc x (cq n) : Nat), []⟩ := by
 have hm := y9 n
 have hl := Ob n
 have h0 := KN x hx
 generalize cq n = c at *
 refine aa (F := f182) rfl rfl (ah 300 _ _ _ _ ?_)
 repeat' (first | refine ae ?_ | (refine ab ?_ ?_ <;> intro h))
 refine am [9, 0, 5, 8] [] ?_
 have := nx x c hx hl c 0
 rw [h0] at this
 exact this _ _ _ rfl
def aU (p : Pfx) : Bool := decide (0 ≤ p.len ∧ p.len ≤ 32 ∧ (bc p.addr.toNat p.len.toNat : Int) = p.addr)
end Go.AM.IR
namespace Go.AM.IR
theorem bI (p : Pfx) (h : p.ok) : ax G 179 [.agg p.enc] [] ⟨.bool (aU p), []⟩ := by
 obtain ⟨a, n⟩ := p
 obtain ⟨x, rfl⟩ : ∃ x : Nat, a = x := ⟨a.toNat, by have := h.addr; unfold okU at this; simp only at this; omega⟩
 have hx : x < 4294967296 := by have := h.addr; unfold okU at this; simp only at this; omega
 have hk := xa x n hx
 have hkl := zg x (cq n)
 by_cases hn : 0 ≤ n ∧ n ≤ 32
 ·obtain ⟨n0, n1⟩ := hn
  have hc : cq n = n.toNat := by unfold cq; repeat' split <;> omega
  rw [hc] at hk hkl
  by_cases hq : bc x n.toNat = x
  ·rw [show aU ⟨x, n⟩ = true from by simp [aU, n0, n1, hq]]
   rw [hq] at hk
   refine aa (F := f179) rfl rfl (ah 300 _ _ _ _ ?_)
   repeat' (first | refine ae ?_ | (refine ab ?_ ?_ <;> intro h))
   refine ag ?_; simp
  ·rw [show aU ⟨x, n⟩ = false from by simp only [aU, decide_eq_false_iff_not]; intro hh; exact hq (by have := hh.2.2; simp only [Int.toNat_natCast] at this; omega)]
   have hq2 : ¬ ((bc x n.toNat : Nat) : Int) = (x : Int) := by omega
   generalize bc x n.toNat = kq at *
   refine aa (F := f179) rfl rfl (ah 300 _ _ _ _ ?_)
   repeat' (first | refine ae ?_ | (refine ab ?_ ?_ <;> intro h))
   refine ag ?_; simp [hq2]
 ·rw [show aU ⟨x, n⟩ = false from by simp [aU]; omega]
  by_cases n0 : 0 ≤ n
  ·have n1 : ¬ n ≤ 32 := by omega
   refine aa (F := f179) rfl rfl (ah 300 _ _ _ _ ?_)
   repeat' (first | refine ae ?_ | (refine ab ?_ ?_ <;> intro h))
   refine ag ?_; rfl
  ·refine aa (F := f179) rfl rfl (ah 300 _ _ _ _ ?_)
   repeat' (first | refine ae ?_ | (refine ab ?_ ?_ <;> intro h))
   refine ag ?_; rfl
def gn (p q : Pfx) : Int := if p.addr < q.addr ∨ (p.addr = q.addr ∧ p.len < q.len) then -1 else if p = q then 0 else 1
end Go.AM.IR
