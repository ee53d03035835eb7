/- What the functions of this program give, on the abstract machine. -/
import Derived.Test.YtomphmeopjpejaaGreatDoorDataA
set_option linter.unusedVariables false
set_option linter.unusedSimpArgs false
set_option maxHeartbeats 4000000
set_option maxRecDepth 20000
namespace Go.AM.IR
def bV {α : Type} (f : α → Nat) : List α → Nat
 | [] => 0
 | x :: r => f x + bV f r
def oa (t : Trm) : Nat := t.mats.length + t.acts.length
def lg (p : Pol) : Nat := p.terms.length + bV oa p.terms
def fC (s : PSet) : Nat := s.prefixes.length + s.paths.length + s.comms.length + s.pols.length + bV (fun p => p.rules.length) s.prefixes + bV (fun p => p.rules.length) s.paths + bV (fun p => p.rules.length) s.comms + bV lg s.pols
theorem sK (l : List Trm) (P : List (List AV)) (j ln2 : Int) (tot : Int) (htot : tot < 2 ^ 40) (hj : 0 ≤ j ∧ j < 2 ^ 50) (R : Ret) (go : ∀ (T : List (Nat × AV)) (H : ay) (c : Nat), Ev G ⟨tu, ⟨(69, .sl 3 P) :: (70, .int .i64 ln2) :: (71, .int .i64 (j + 1)) :: (3, .int .i64 tot) :: T, H, c⟩, [.t 2], 0⟩ R) (hl : l.length < 2 ^ 40) (ln : Int) (hln : ln = l.length) : ∀ (rest done : List Trm) (a : Int) (T : List (Nat × AV)) (H : ay) (c : Nat) (n : Int) (e : l = done ++ rest) (hn : n = done.length) (ha : a + ((bV oa rest : Nat) : Int) = tot) (h0 : 0 ≤ a), Ev G ⟨GY, ⟨(81, .sl 4 (l.map Trm.enc)) :: (82, .int .i64 ln) :: (83, .int .i64 n) :: (3, .int .i64 a) :: (69, .sl 3 P) :: (70, .int .i64 ln2) :: (71, .int .i64 j) :: T, H, c⟩, [.t 2], 0⟩ R
 | [], done, a, T, H, c, n, e, hn, ha, h0 => by
  have hd : l.length = done.length := by simp [e]
  have hll : (l.map Trm.enc).length = l.length := by simp
  obtain rfl : a = tot := by simp only [bV] at ha; omega
  refine evl ?_
  repeat' (first | refine ae ?_ | (refine ab ?_ ?_ <;> intro h))
  refine aA [69, 70, 71, 3] [] ?_
  exact go _ _ _
 | x :: r, done, a, T, H, c, n, e, hn, ha, h0 => by
  have hd : l.length = done.length + (r.length + 1) := by simp [e]
  have hll : (l.map Trm.enc).length = l.length := by simp
  have hx : (l.map Trm.enc)[n.toNat]? = some (Trm.enc x) := by simp [e, hn]
  have m1 : (x.mats.map Mat.enc).length = x.mats.length := by simp
  have m2 : (x.acts.map Actn.enc).length = x.acts.length := by simp
  simp only [bV, oa] at ha
  refine evl ?_
  repeat' (first | refine ae ?_ | (refine ab ?_ ?_ <;> intro h))
  refine aA [81, 82, 83, 3, 69, 70, 71] [] ?_; exact sK l P j ln2 tot htot hj R go hl ln hln r (done ++ [x]) (a + (((x.mats.map Mat.enc).length : Int) + ((x.acts.map Actn.enc).length : Int))) _ _ _ (n + 1) (by simp [e]) (by simp [hn] <;> omega) (by rw [← ha, m1, m2]; omega) (by omega)
theorem sJ (l : List Pol) (tot : Int) (htot : tot < 2 ^ 40) (hl : l.length < 2 ^ 40) (ln : Int) (hln : ln = l.length) : ∀ (rest done : List Pol) (a : Int) (T : List (Nat × AV)) (H : ay) (c : Nat) (n : Int) (e : l = done ++ rest) (hn : n = done.length) (ha : a + ((bV lg rest : Nat) : Int) = tot) (h0 : 0 ≤ a), Ev G ⟨tu, ⟨(69, .sl 3 (l.map Pol.enc)) :: (70, .int .i64 ln) :: (71, .int .i64 n) :: (3, .int .i64 a) :: T, H, c⟩, [.t 2], 0⟩ (⟨.int .i64 tot, []⟩)
 | [], done, a, T, H, c, n, e, hn, ha, h0 => by
  have hd : l.length = done.length := by simp [e]
  have hll : (l.map Pol.enc).length = l.length := by simp
  obtain rfl : a = tot := by simp only [bV] at ha; omega
  refine evl ?_
  repeat' (first | refine ae ?_ | (refine ab ?_ ?_ <;> intro h))
  refine ah ?_; rfl
 | x :: r, done, a, T, H, c, n, e, hn, ha, h0 => by
  have hd : l.length = done.length + (r.length + 1) := by simp [e]
  have hll : (l.map Pol.enc).length = l.length := by simp
  have hx : (l.map Pol.enc)[n.toNat]? = some (Pol.enc x) := by simp [e, hn]
  have m1 : (x.terms.map Trm.enc).length = x.terms.length := by simp
  simp only [bV, lg] at ha
  refine evl ?_
  repeat' (first | refine ae ?_ | (refine ab ?_ ?_ <;> intro h))
  refine aA [81, 82, 83, 3, 69, 70, 71] [] ?_
  rw [m1]
  exact sK x.terms (l.map Pol.enc) n ln (a + x.terms.length + ((bV oa x.terms : Nat) : Int)) (by omega) (by omega) _ (fun T H c => sJ l tot htot hl ln hln r (done ++ [x]) (a + x.terms.length + ((bV oa x.terms : Nat) : Int)) T H c (n + 1) (by simp [e]) (by simp [hn] <;> omega) (by omega) (by omega)) (by omega) _ rfl x.terms [] (a + x.terms.length) _ _ _ 0 rfl rfl rfl (by omega)
theorem pu (l : List ComL) (s : PSet) (hl1 : s.comms = l) (tot : Int) (htot : tot < 2 ^ 40) (hsz : s.pols.length < 2 ^ 40 ∧ s.comms.length < 2 ^ 40 ∧ s.paths.length < 2 ^ 40) (hl : l.length < 2 ^ 40) (ln : Int) (hln : ln = l.length) : ∀ (rest done : List ComL) (a : Int) (T : List (Nat × AV)) (H : ay) (c : Nat) (n : Int) (e : l = done ++ rest) (hn : n = done.length) (ha : a + ((bV (fun p => p.rules.length) rest + (bV lg s.pols) : Nat) : Int) = tot) (h0 : 0 ≤ a), Ev G ⟨GZ, ⟨(56, .sl 2 (l.map ComL.enc)) :: (57, .int .i64 ln) :: (58, .int .i64 n) :: (3, .int .i64 a) :: (1, .ref 65 1 0) :: T, (65, some (1, .cells s.enc)) :: H, c⟩, [.t 2], 0⟩ (⟨.int .i64 tot, []⟩)
 | [], done, a, T, H, c, n, e, hn, ha, h0 => by
  have hd : l.length = done.length := by simp [e]
  have hll : (l.map ComL.enc).length = l.length := by simp
  have m1 : (s.pols.map Pol.enc).length = s.pols.length := by simp
  refine evl ?_
  repeat' (first | refine ae ?_ | (refine ab ?_ ?_ <;> intro h))
  refine aA [69, 70, 71, 3] [] ?_
  rw [m1]
  exact sJ s.pols tot htot (by omega) _ rfl s.pols [] a _ _ _ 0 rfl rfl (by simp only [bV] at ha; omega) h0
 | x :: r, done, a, T, H, c, n, e, hn, ha, h0 => by
  have hd : l.length = done.length + (r.length + 1) := by simp [e]
  have hll : (l.map ComL.enc).length = l.length := by simp
  have hx : (l.map ComL.enc)[n.toNat]? = some (ComL.enc x) := by simp [e, hn]
  have m1 : (x.rules.map ComR.enc).length = x.rules.length := by simp
  simp only [bV] at ha
  refine evl ?_
  repeat' (first | refine ae ?_ | (refine ab ?_ ?_ <;> intro h))
  refine aA [56, 57, 58, 3, 1] [65] ?_; exact pu l s hl1 tot htot hsz hl ln hln r (done ++ [x]) (a + ((x.rules.map ComR.enc).length : Int)) _ _ _ (n + 1) (by simp [e]) (by simp [hn] <;> omega) (by rw [← ha, m1]; omega) (by omega)
theorem pw (l : List PathL) (s : PSet) (hl1 : s.paths = l) (tot : Int) (htot : tot < 2 ^ 40) (hsz : s.pols.length < 2 ^ 40 ∧ s.comms.length < 2 ^ 40 ∧ s.paths.length < 2 ^ 40) (hl : l.length < 2 ^ 40) (ln : Int) (hln : ln = l.length) : ∀ (rest done : List PathL) (a : Int) (T : List (Nat × AV)) (H : ay) (c : Nat) (n : Int) (e : l = done ++ rest) (hn : n = done.length) (ha : a + ((bV (fun p => p.rules.length) rest + (bV (fun p => p.rules.length) s.comms + bV lg s.pols) : Nat) : Int) = tot) (h0 : 0 ≤ a), Ev G ⟨G6, ⟨(43, .sl 2 (l.map PathL.enc)) :: (44, .int .i64 ln) :: (45, .int .i64 n) :: (3, .int .i64 a) :: (1, .ref 65 1 0) :: T, (65, some (1, .cells s.enc)) :: H, c⟩, [.t 2], 0⟩ (⟨.int .i64 tot, []⟩)
 | [], done, a, T, H, c, n, e, hn, ha, h0 => by
  have hd : l.length = done.length := by simp [e]
  have hll : (l.map PathL.enc).length = l.length := by simp
  have m1 : (s.comms.map ComL.enc).length = s.comms.length := by simp
  refine evl ?_
  repeat' (first | refine ae ?_ | (refine ab ?_ ?_ <;> intro h))
  refine aA [56, 57, 58, 3, 1] [65] ?_
  rw [m1]
  exact pu s.comms s rfl tot htot hsz (by omega) _ rfl s.comms [] a _ _ _ 0 rfl rfl (by simp only [bV] at ha; omega) h0
 | x :: r, done, a, T, H, c, n, e, hn, ha, h0 => by
  have hd : l.length = done.length + (r.length + 1) := by simp [e]
  have hll : (l.map PathL.enc).length = l.length := by simp
  have hx : (l.map PathL.enc)[n.toNat]? = some (PathL.enc x) := by simp [e, hn]
  have m1 : (x.rules.map PathR.enc).length = x.rules.length := by simp
  simp only [bV] at ha
  refine evl ?_
  repeat' (first | refine ae ?_ | (refine ab ?_ ?_ <;> intro h))
  refine aA [43, 44, 45, 3, 1] [65] ?_; exact pw l s hl1 tot htot hsz hl ln hln r (done ++ [x]) (a + ((x.rules.map PathR.enc).length : Int)) _ _ _ (n + 1) (by simp [e]) (by simp [hn] <;> omega) (by rw [← ha, m1]; omega) (by omega)
theorem sI (l : List PList) (s : PSet) (hl1 : s.prefixes = l) (tot : Int) (htot : tot < 2 ^ 40) (hsz : s.pols.length < 2 ^ 40 ∧ s.comms.length < 2 ^ 40 ∧ s.paths.length < 2 ^ 40) (hl : l.length < 2 ^ 40) (ln : Int) (hln : ln = l.length) : ∀ (rest done : List PList) (a : Int) (T : List (Nat × AV)) (H : ay) (c : Nat) (n : Int) (e : l = done ++ rest) (hn : n = done.length) (ha : a + ((bV (fun p => p.rules.length) rest + (bV (fun p => p.rules.length) s.paths + (bV (fun p => p.rules.length) s.comms + bV lg s.pols)) : Nat) : Int) = tot) (h0 : 0 ≤ a), Ev G ⟨J5, ⟨(30, .sl 2 (l.map PList.enc)) :: (31, .int .i64 ln) :: (32, .int .i64 n) :: (3, .int .i64 a) :: (1, .ref 65 1 0) :: T, (65, some (1, .cells s.enc)) :: H, c⟩, [.t 2], 0⟩ (⟨.int .i64 tot, []⟩)
 | [], done, a, T, H, c, n, e, hn, ha, h0 => by
  have hd : l.length = done.length := by simp [e]
  have hll : (l.map PList.enc).length = l.length := by simp
  have m1 : (s.paths.map PathL.enc).length = s.paths.length := by simp
  refine evl ?_
  repeat' (first | refine ae ?_ | (refine ab ?_ ?_ <;> intro h))
  refine aA [43, 44, 45, 3, 1] [65] ?_
  rw [m1]
  exact pw s.paths s rfl tot htot hsz (by omega) _ rfl s.paths [] a _ _ _ 0 rfl rfl (by simp only [bV] at ha; omega) h0
 | x :: r, done, a, T, H, c, n, e, hn, ha, h0 => by
  have hd : l.length = done.length + (r.length + 1) := by simp [e]
  have hll : (l.map PList.enc).length = l.length := by simp
  have hx : (l.map PList.enc)[n.toNat]? = some (PList.enc x) := by simp [e, hn]
  have m1 : (x.rules.map RuleP.enc).length = x.rules.length := by simp
  simp only [bV] at ha
  refine evl ?_
  repeat' (first | refine ae ?_ | (refine ab ?_ ?_ <;> intro h))
  refine aA [30, 31, 32, 3, 1] [65] ?_; exact sI l s hl1 tot htot hsz hl ln hln r (done ++ [x]) (a + ((x.rules.map RuleP.enc).length : Int)) _ _ _ (n + 1) (by simp [e]) (by simp [hn] <;> omega) (by rw [← ha, m1]; omega) (by omega)
theorem tQ (s : PSet) (hs : fC s < 2 ^ 40) : am G 435 [.agg s.enc] [] ⟨.int .i64 (fC s : Nat), []⟩ := by
 have m1 : (s.prefixes.map PList.enc).length = s.prefixes.length := by simp
 have m2 : (s.paths.map PathL.enc).length = s.paths.length := by simp
 have m3 : (s.comms.map ComL.enc).length = s.comms.length := by simp
 have m4 : (s.pols.map Pol.enc).length = s.pols.length := by simp
 have hz : fC s = s.prefixes.length + s.paths.length + s.comms.length + s.pols.length + bV (fun p => p.rules.length) s.prefixes + bV (fun p => p.rules.length) s.paths + bV (fun p => p.rules.length) s.comms + bV lg s.pols := rfl
 refine aa (F := f435) rfl rfl (ag 300 _ _ _ _ ?_)
 repeat' (first | refine ae ?_ | (refine ab ?_ ?_ <;> intro h))
 refine aA [30, 31, 32, 3, 1] [65] ?_
 rw [m1, m2, m3, m4]
 exact sI s.prefixes s rfl (fC s : Nat) (by omega) (by omega) (by omega) _ rfl s.prefixes [] _ _ _ _ 0 rfl rfl (by rw [hz]; omega) (by omega)
end Go.AM.IR
namespace Go.AM.IR
theorem jL {α : Type} {f : α → Nat} {enc : α → List AV} (h : ∀ x, f x + 1 ≤ bkL (enc x)) : ∀ l : List α, l.length + bV f l ≤ dC (l.map enc)
 | [] => by simp [bV]
 | x :: r => by
  have := jL h r
  have := h x
  rw [List.map_cons, dC, List.length_cons, bV]; omega
theorem dL {α : Type} {enc : α → List AV} (h : ∀ x, 1 ≤ bkL (enc x)) (l : List α) : l.length ≤ dC (l.map enc) := by
 have := jL (f := fun _ => 0) (enc := enc) (fun x => by have := h x; omega) l
 omega
theorem jM {α : Type} {enc : α → List AV} {x : α} : ∀ {l : List α}, x ∈ l → bkL (enc x) ≤ dC (l.map enc)
 | y :: r, h => by
  rw [List.map_cons, dC]
  rcases List.mem_cons.1 h with rfl | h
  ·omega
  ·have := jM (enc := enc) h; omega
theorem IA (x : Mat) : 0 + 1 ≤ bkL x.enc := by simp only [Mat.enc, bkL, AV.bk]; omega
theorem Dm (x : Actn) : 0 + 1 ≤ bkL x.enc := by simp only [Actn.enc, bkL, AV.bk]; omega
theorem Iw (x : Trm) : oa x + 1 ≤ bkL x.enc := by
 have h1 := dL (fun x => by have := IA x; omega) x.mats
 have h2 := dL (fun x => by have := Dm x; omega) x.acts
 simp only [Trm.enc, bkL, AV.bk, oa]; omega
theorem Iy (x : Pol) : lg x + 1 ≤ bkL x.enc := by
 have h1 := jL Iw x.terms
 simp only [Pol.enc, bkL, AV.bk, lg]; omega
theorem xB (x : RuleP) : 1 ≤ bkL x.enc := by simp only [RuleP.enc, bkL, AV.bk]; omega
theorem xC (x : PathR) : 1 ≤ bkL x.enc := by simp only [PathR.enc, bkL, AV.bk]; omega
theorem Dk (x : ComR) : 1 ≤ bkL x.enc := by simp only [ComR.enc, bkL, AV.bk]; omega
theorem xF (x : PList) : x.rules.length + 1 ≤ bkL x.enc := by
 have h1 := dL xB x.rules
 simp only [PList.enc, bkL, AV.bk]; omega
theorem xD (x : PathL) : x.rules.length + 1 ≤ bkL x.enc := by
 have h1 := dL xC x.rules
 simp only [PathL.enc, bkL, AV.bk]; omega
theorem Dl (x : ComL) : x.rules.length + 1 ≤ bkL x.enc := by
 have h1 := dL Dk x.rules
 simp only [ComL.enc, bkL, AV.bk]; omega
theorem Wc (s : PSet) : fC s ≤ bkL s.enc := by
 have h1 := jL xF s.prefixes
 have h2 := jL xD s.paths
 have h3 := jL Dl s.comms
 have h4 := jL Iy s.pols
 simp only [PSet.enc, bkL, AV.bk, fC]; omega
end Go.AM.IR
namespace Go.AM.IR
section
variable {k : Eff → Prop} {x y : Opd} {g key : Nat} {hg : Nat → Option (Nat × Blk)}
end
theorem idx_at {s done rest : List UInt8} {x : UInt8} {n : Int} (e : s = done ++ x :: rest) (hn : n = done.length) : s[n.toNat]? = some x := by
 rw [e, hn]; simp
end Go.AM.IR
namespace Go.AM.IR
def iw : List PList → List UInt8 → Option PList
 | [], _ => none
 | x :: r, k => if x.name = k then some x else iw r k
def DX : Option PList → Ret
 | none => ⟨.tup [.agg [.str [], .con (.slice none 0 0)], .bool false], []⟩
 | some x => ⟨.tup [.agg x.enc, .bool true], []⟩
theorem nR (l : List PList) (k : List UInt8) (g : Nat) (hl : l.length < 2 ^ 40) (ln : Int) (hln : ln = l.length) : ∀ (rest done : List PList)  (T : List (Nat × AV)) (H : ay) (c : Nat) (n : Int) (e : l = done ++ rest) (hn : n = done.length) , Ev G ⟨JV, ⟨(9, .sl 2 (l.map PList.enc)) :: (10, .int .i64 ln) :: (11, .int .i64 n) :: (4, .ref 68 g 0) :: (1, .str k) :: T, (68, some (g, .cells [.str [], .con (.slice none 0 0)])) :: H, c⟩, [.cell 4 (some 2), .t 5], 0⟩ (DX (iw rest k))
 | [], done,  T, H, c, n, e, hn => by
  have hd : l.length = done.length := by simp [e]
  have hll : (l.map PList.enc).length = l.length := by simp
  refine evl ?_
  repeat' (first | refine ae ?_ | (refine ab ?_ ?_ <;> intro h))
  refine ah ?_; (conv => whnf); refine Go.AM.finC ?_; rfl
 | x :: r, done,  T, H, c, n, e, hn => by
  have hd : l.length = done.length + (r.length + 1) := by simp [e]
  have hll : (l.map PList.enc).length = l.length := by simp
  have hx : (l.map PList.enc)[n.toNat]? = some (PList.enc x) := by simp [e, hn]
  by_cases hk : x.name = k
  ·rw [iw, if_pos hk]
   refine evl ?_
   repeat' (first | refine du ?_ | (refine ab ?_ ?_ <;> intro h))
   refine ah ?_; (conv => whnf); refine Go.AM.finC ?_; rfl
  ·rw [iw, if_neg hk]
   refine evl ?_
   repeat' (first | refine du ?_ | (refine ab ?_ ?_ <;> intro h))
   refine aA [9, 10, 11, 4, 1] [68] ?_; exact nR l k g hl ln hln r (done ++ [x])  _ _ _ (n + 1) (by simp [e]) (by simp [hn] <;> omega)
theorem vr (s : PSet) (hs : s.prefixes.length < 2 ^ 40) (k : List UInt8) : am G 620 [.agg s.enc, .str k] [] (DX (iw s.prefixes k)) := by
 have hll : (s.prefixes.map PList.enc).length = s.prefixes.length := by simp
 refine aa (F := f620) rfl rfl (ag 300 _ _ _ _ ?_)
 repeat' (first | refine ae ?_ | (refine ab ?_ ?_ <;> intro h))
 refine aA [9, 10, 11, 4, 1] [68] ?_
 rw [hll]
 exact nR s.prefixes k _ hs _ rfl s.prefixes [] _ _ _ 0 rfl rfl
def iy : List PathL → List UInt8 → Option PathL
 | [], _ => none
 | x :: r, k => if x.name = k then some x else iy r k
def DZ : Option PathL → Ret
 | none => ⟨.tup [.agg [.str [], .con (.slice none 0 0)], .bool false], []⟩
 | some x => ⟨.tup [.agg x.enc, .bool true], []⟩
theorem nU (l : List PathL) (k : List UInt8) (g : Nat) (hl : l.length < 2 ^ 40) (ln : Int) (hln : ln = l.length) : ∀ (rest done : List PathL)  (T : List (Nat × AV)) (H : ay) (c : Nat) (n : Int) (e : l = done ++ rest) (hn : n = done.length) , Ev G ⟨JU, ⟨(9, .sl 2 (l.map PathL.enc)) :: (10, .int .i64 ln) :: (11, .int .i64 n) :: (4, .ref 68 g 0) :: (1, .str k) :: T, (68, some (g, .cells [.str [], .con (.slice none 0 0)])) :: H, c⟩, [.cell 4 (some 2), .t 5], 0⟩ (DZ (iy rest k))
 | [], done,  T, H, c, n, e, hn => by
  have hd : l.length = done.length := by simp [e]
  have hll : (l.map PathL.enc).length = l.length := by simp
  refine evl ?_
  repeat' (first | refine ae ?_ | (refine ab ?_ ?_ <;> intro h))
  refine ah ?_; (conv => whnf); refine Go.AM.finC ?_; rfl
 | x :: r, done,  T, H, c, n, e, hn => by
  have hd : l.length = done.length + (r.length + 1) := by simp [e]
  have hll : (l.map PathL.enc).length = l.length := by simp
  have hx : (l.map PathL.enc)[n.toNat]? = some (PathL.enc x) := by simp [e, hn]
  by_cases hk : x.name = k
  ·rw [iy, if_pos hk]
   refine evl ?_
   repeat' (first | refine du ?_ | (refine ab ?_ ?_ <;> intro h))
   refine ah ?_; (conv => whnf); refine Go.AM.finC ?_; rfl
  ·rw [iy, if_neg hk]
   refine evl ?_
   repeat' (first | refine du ?_ | (refine ab ?_ ?_ <;> intro h))
   refine aA [9, 10, 11, 4, 1] [68] ?_; exact nU l k g hl ln hln r (done ++ [x])  _ _ _ (n + 1) (by simp [e]) (by simp [hn] <;> omega)
theorem vu (s : PSet) (hs : s.paths.length < 2 ^ 40) (k : List UInt8) : am G 621 [.agg s.enc, .str k] [] (DZ (iy s.paths k)) := by
 have hll : (s.paths.map PathL.enc).length = s.paths.length := by simp
 refine aa (F := f621) rfl rfl (ag 300 _ _ _ _ ?_)
 repeat' (first | refine ae ?_ | (refine ab ?_ ?_ <;> intro h))
 refine aA [9, 10, 11, 4, 1] [68] ?_
 rw [hll]
 exact nU s.paths k _ hs _ rfl s.paths [] _ _ _ 0 rfl rfl
def iG : List ComL → List UInt8 → Option ComL
 | [], _ => none
 | x :: r, k => if x.name = k then some x else iG r k
def EK : Option ComL → Ret
 | none => ⟨.tup [.agg [.str [], .con (.slice none 0 0)], .bool false], []⟩
 | some x => ⟨.tup [.agg x.enc, .bool true], []⟩
theorem n7 (l : List ComL) (k : List UInt8) (g : Nat) (hl : l.length < 2 ^ 40) (ln : Int) (hln : ln = l.length) : ∀ (rest done : List ComL)  (T : List (Nat × AV)) (H : ay) (c : Nat) (n : Int) (e : l = done ++ rest) (hn : n = done.length) , Ev G ⟨JT, ⟨(9, .sl 2 (l.map ComL.enc)) :: (10, .int .i64 ln) :: (11, .int .i64 n) :: (4, .ref 68 g 0) :: (1, .str k) :: T, (68, some (g, .cells [.str [], .con (.slice none 0 0)])) :: H, c⟩, [.cell 4 (some 2), .t 5], 0⟩ (EK (iG rest k))
 | [], done,  T, H, c, n, e, hn => by
  have hd : l.length = done.length := by simp [e]
  have hll : (l.map ComL.enc).length = l.length := by simp
  refine evl ?_
  repeat' (first | refine ae ?_ | (refine ab ?_ ?_ <;> intro h))
  refine ah ?_; (conv => whnf); refine Go.AM.finC ?_; rfl
 | x :: r, done,  T, H, c, n, e, hn => by
  have hd : l.length = done.length + (r.length + 1) := by simp [e]
  have hll : (l.map ComL.enc).length = l.length := by simp
  have hx : (l.map ComL.enc)[n.toNat]? = some (ComL.enc x) := by simp [e, hn]
  by_cases hk : x.name = k
  ·rw [iG, if_pos hk]
   refine evl ?_
   repeat' (first | refine du ?_ | (refine ab ?_ ?_ <;> intro h))
   refine ah ?_; (conv => whnf); refine Go.AM.finC ?_; rfl
  ·rw [iG, if_neg hk]
   refine evl ?_
   repeat' (first | refine du ?_ | (refine ab ?_ ?_ <;> intro h))
   refine aA [9, 10, 11, 4, 1] [68] ?_; exact n7 l k g hl ln hln r (done ++ [x])  _ _ _ (n + 1) (by simp [e]) (by simp [hn] <;> omega)
theorem xm (s : PSet) (hs : s.comms.length < 2 ^ 40) (k : List UInt8) : am G 622 [.agg s.enc, .str k] [] (EK (iG s.comms k)) := by
 have hll : (s.comms.map ComL.enc).length = s.comms.length := by simp
 refine aa (F := f622) rfl rfl (ag 300 _ _ _ _ ?_)
 repeat' (first | refine ae ?_ | (refine ab ?_ ?_ <;> intro h))
 refine aA [9, 10, 11, 4, 1] [68] ?_
 rw [hll]
 exact n7 s.comms k _ hs _ rfl s.comms [] _ _ _ 0 rfl rfl
def cX (k : Int) : Ret :=
 if k = 4 then ⟨.tup [.int .i64 1, .int .i64 7, .bool true], []⟩ else if k = 5 then ⟨.tup [.int .i64 0, .int .i64 4294967295, .bool true], []⟩ else
 if k = 6 then ⟨.tup [.int .i64 0, .int .i64 16777216, .bool true], []⟩ else if k = 8 then ⟨.tup [.int .i64 0, .int .i64 2000, .bool true], []⟩ else ⟨.tup [.int .i64 0, .int .i64 0, .bool false], []⟩
theorem cR (k : Int) : am G 619 [.int .i64 k] [] (cX k) := by
 by_cases h4 : k = 4
 ·subst h4
  refine aa (F := f619) rfl rfl (ag 300 _ _ _ _ ?_)
  repeat' (first | refine ae ?_ | (refine ab ?_ ?_ <;> intro h))
  refine ah ?_; rfl
 by_cases h5 : k = 5
 ·subst h5
  refine aa (F := f619) rfl rfl (ag 300 _ _ _ _ ?_)
  repeat' (first | refine ae ?_ | (refine ab ?_ ?_ <;> intro h))
  refine ah ?_; rfl
 by_cases h6 : k = 6
 ·subst h6
  refine aa (F := f619) rfl rfl (ag 300 _ _ _ _ ?_)
  repeat' (first | refine ae ?_ | (refine ab ?_ ?_ <;> intro h))
  refine ah ?_; rfl
 by_cases h8 : k = 8
 ·subst h8
  refine aa (F := f619) rfl rfl (ag 300 _ _ _ _ ?_)
  repeat' (first | refine ae ?_ | (refine ab ?_ ?_ <;> intro h))
  refine ah ?_; rfl
 rw [cX, if_neg h4, if_neg h5, if_neg h6, if_neg h8]
 refine aa (F := f619) rfl rfl (ag 300 _ _ _ _ ?_)
 repeat' (first | refine ae ?_ | (refine ab ?_ ?_ <;> intro h))
 refine ah ?_; rfl
end Go.AM.IR
namespace Go.AM.IR
def nmC (b : UInt8) : Bool := b.toNat == 45 || (decide (48 ≤ b.toNat) && decide (b.toNat ≤ 57)) || (decide (65 ≤ b.toNat) && decide (b.toNat ≤ 90)) || (decide (97 ≤ b.toNat) && decide (b.toNat ≤ 122))
def nmB (s : List UInt8) : Bool := s.all nmC && (decide (1 ≤ s.length) && decide ((s.length : Int) ≤ 32))
theorem gj (s : List UInt8) (hs : s.length < 2 ^ 40) : ∀ (rest done : List UInt8) (T : List (Nat × AV)) (H : ay) (c : Nat) (n : Int) (e : s = done ++ rest) (hn : n = done.length),
  Ev G ⟨JZ, ⟨(3, .int .i64 n) :: (0, .str s) :: T, H, c⟩, [.t 2], 0⟩ ⟨.bool (rest.all nmC && (decide (1 ≤ s.length) && decide ((s.length : Int) ≤ 32))), []⟩
 | [], done, T, H, c, n, e, hn => by
  have hd : s.length = done.length := by simp [e]
  by_cases h1 : 1 ≤ s.length
  ·rw [decide_eq_true h1]
   refine evl ?_
   repeat' (first | refine ae ?_ | (refine ab ?_ ?_ <;> intro h))
   refine ah ?_; rfl
  ·rw [decide_eq_false h1]
   refine evl ?_
   repeat' (first | refine ae ?_ | (refine ab ?_ ?_ <;> intro h))
   refine ah ?_; rfl
 | x :: rest, done, T, H, c, n, e, hn => by
  have hd : s.length = done.length + (rest.length + 1) := by simp [e]
  have hb := idx_at e hn
  rw [List.all_cons]
  by_cases h0 : x.toNat < 45
  ·have hc : nmC x = false := by unfold nmC; simp; omega
   rw [hc, Bool.false_and, Bool.false_and]
   refine evl ?_
   repeat' (first | refine du ?_ | (refine ab ?_ ?_ <;> intro h))
   refine ah ?_; rfl
  by_cases h1 : x.toNat = 45
  ·have hc : nmC x = true := by unfold nmC; simp; omega
   rw [hc, Bool.true_and]
   refine evl ?_
   repeat' (first | refine du ?_ | (refine ab ?_ ?_ <;> intro h))
   refine aA [3, 0] [] ?_
   exact gj s hs rest (done ++ [x]) _ _ _ (n + 1) (by simp [e]) (by simp [hn])
  by_cases h2 : x.toNat < 48
  ·have hc : nmC x = false := by unfold nmC; simp; omega
   rw [hc, Bool.false_and, Bool.false_and]
   refine evl ?_
   repeat' (first | refine du ?_ | (refine ab ?_ ?_ <;> intro h))
   refine ah ?_; rfl
  by_cases h3 : x.toNat ≤ 57
  ·have hc : nmC x = true := by unfold nmC; simp; omega
   rw [hc, Bool.true_and]
   refine evl ?_
   repeat' (first | refine du ?_ | (refine ab ?_ ?_ <;> intro h))
   refine aA [3, 0] [] ?_
   exact gj s hs rest (done ++ [x]) _ _ _ (n + 1) (by simp [e]) (by simp [hn])
  by_cases h4 : x.toNat < 65
  ·have hc : nmC x = false := by unfold nmC; simp; omega
   rw [hc, Bool.false_and, Bool.false_and]
   refine evl ?_
   repeat' (first | refine du ?_ | (refine ab ?_ ?_ <;> intro h))
   refine ah ?_; rfl
  by_cases h5 : x.toNat ≤ 90
  ·have hc : nmC x = true := by unfold nmC; simp; omega
   rw [hc, Bool.true_and]
   refine evl ?_
   repeat' (first | refine du ?_ | (refine ab ?_ ?_ <;> intro h))
   refine aA [3, 0] [] ?_
   exact gj s hs rest (done ++ [x]) _ _ _ (n + 1) (by simp [e]) (by simp [hn])
  by_cases h6 : x.toNat < 97
  ·have hc : nmC x = false := by unfold nmC; simp; omega
   rw [hc, Bool.false_and, Bool.false_and]
   refine evl ?_
   repeat' (first | refine du ?_ | (refine ab ?_ ?_ <;> intro h))
   refine ah ?_; rfl
  by_cases h7 : x.toNat ≤ 122
  ·have hc : nmC x = true := by unfold nmC; simp; omega
   rw [hc, Bool.true_and]
   refine evl ?_
   repeat' (first | refine du ?_ | (refine ab ?_ ?_ <;> intro h))
   refine aA [3, 0] [] ?_
   exact gj s hs rest (done ++ [x]) _ _ _ (n + 1) (by simp [e]) (by simp [hn])
  have hc : nmC x = false := by unfold nmC; simp; omega
  rw [hc, Bool.false_and, Bool.false_and]
  refine evl ?_
  repeat' (first | refine du ?_ | (refine ab ?_ ?_ <;> intro h))
  refine ah ?_; rfl
theorem n3 (s : List UInt8) (hs : s.length < 2 ^ 40) : am G 573 [.str s] [] ⟨.bool (nmB s), []⟩ := by
 refine aa (F := f573) rfl rfl (ag 300 _ _ _ _ ?_)
 repeat' (first | refine ae ?_ | (refine ab ?_ ?_ <;> intro h))
 refine aA [3, 0] [] ?_
 exact gj s hs s [] _ _ _ 0 rfl rfl
def cW (r : ComR) : Int := if r.high < -1 then 5 else if 65535 < r.high then 5 else if r.low < -1 then 5 else if 65535 < r.low then 5 else 0
theorem xk (r : ComR) : am G 572 [.agg r.enc] [] ⟨.int .i64 (cW r), []⟩ := by
 by_cases c0 : r.high < -1
 ·rw [cW, if_pos c0]
  refine aa (F := f572) rfl rfl (ag 300 _ _ _ _ ?_)
  repeat' (first | refine ae ?_ | (refine ab ?_ ?_ <;> intro h))
  refine ah ?_; rfl
 by_cases c1 : 65535 < r.high
 ·rw [cW, if_neg c0, if_pos c1]
  refine aa (F := f572) rfl rfl (ag 300 _ _ _ _ ?_)
  repeat' (first | refine ae ?_ | (refine ab ?_ ?_ <;> intro h))
  refine ah ?_; rfl
 by_cases c2 : r.low < -1
 ·rw [cW, if_neg c0, if_neg c1, if_pos c2]
  refine aa (F := f572) rfl rfl (ag 300 _ _ _ _ ?_)
  repeat' (first | refine ae ?_ | (refine ab ?_ ?_ <;> intro h))
  refine ah ?_; rfl
 by_cases c3 : 65535 < r.low
 ·rw [cW, if_neg c0, if_neg c1, if_neg c2, if_pos c3]
  refine aa (F := f572) rfl rfl (ag 300 _ _ _ _ ?_)
  repeat' (first | refine ae ?_ | (refine ab ?_ ?_ <;> intro h))
  refine ah ?_; rfl
 rw [cW, if_neg c0, if_neg c1, if_neg c2, if_neg c3]
 refine aa (F := f572) rfl rfl (ag 300 _ _ _ _ ?_)
 repeat' (first | refine ae ?_ | (refine ab ?_ ?_ <;> intro h))
 refine ah ?_; rfl
end Go.AM.IR
