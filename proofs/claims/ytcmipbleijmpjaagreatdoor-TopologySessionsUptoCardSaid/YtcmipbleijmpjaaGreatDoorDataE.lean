/- What the functions of this program give, on the abstract machine. -/
import Derived.Test.YtcmipbleijmpjaaGreatDoorDataD
import Derived.Test.YtcmipbleijmpjaaGreatDoorDataC
import Derived.Test.YtcmipbleijmpjaaGreatDoorDataA
set_option linter.unusedVariables false
set_option linter.unusedSimpArgs false
set_option maxHeartbeats 4000000
set_option maxRecDepth 20000
namespace Go.AM.IR
def tu (a b : ARange) : Bool := decide (a.area < b.area ∨ (a.area = b.area ∧ (a.pfx.addr < b.pfx.addr ∨ (a.pfx.addr = b.pfx.addr ∧ a.pfx.len < b.pfx.len))))
theorem xc (a b : ARange) (ha : a.pfx.ok) (hb : b.pfx.ok) (va : aU a.pfx = true) (vb : aU b.pfx = true) : ax G 496 [.sl 4 [a.enc, b.enc]] [] ⟨.bool (tu a b), []⟩ := by
 have f1 := fT a.pfx ha
 have f2 := fT b.pfx hb
 rw [va] at f1
 rw [vb] at f2
 have l1 : ax G 570 [.agg [.int .u32 a.pfx.addr, .int .i64 a.pfx.len], .agg [.int .u32 b.pfx.addr, .int .i64 b.pfx.len]] [] ⟨.bool (decide (a.pfx.addr < b.pfx.addr ∨ (a.pfx.addr = b.pfx.addr ∧ a.pfx.len < b.pfx.len))), []⟩ := w9 a.pfx b.pfx
 have x0 : [a.enc, b.enc][(0 : Int).toNat]? = some a.enc := rfl
 have x1 : [a.enc, b.enc][(1 : Int).toNat]? = some b.enc := rfl
 have z2 : [a.enc, b.enc].length = 2 := rfl
 have e2 : ∀ (T : List (Nat × AV)) (H : aq) (c : Nat), Ev G ⟨zK, ⟨(3, .int .i64 2) :: (0, .sl 4 [a.enc, b.enc]) :: T, H, c⟩, [.t 2], 0⟩ ⟨.bool true, []⟩ := fun T H c => by
  refine evl ?_
  repeat' (first | refine ae ?_ | (refine ab ?_ ?_ <;> intro h))
  refine ag ?_; rfl
 have e1 : ∀ (T : List (Nat × AV)) (H : aq) (c : Nat), Ev G ⟨zK, ⟨(3, .int .i64 1) :: (0, .sl 4 [a.enc, b.enc]) :: T, H, c⟩, [.t 2], 0⟩ ⟨.bool (tu a b), []⟩ := fun T H c => by
  unfold tu
  by_cases lp : a.pfx.addr < b.pfx.addr ∨ (a.pfx.addr = b.pfx.addr ∧ a.pfx.len < b.pfx.len)
  ·rw [decide_eq_true lp] at l1
   by_cases c1 : a.area < b.area
   ·rw [decide_eq_true (.inl c1)]
    refine evl ?_
    repeat' (first | refine ae ?_ | (refine ab ?_ ?_ <;> intro h))
    refine am [3, 0] [] ?_
    exact e2 _ _ _
   ·by_cases c2 : a.area = b.area
    ·rw [decide_eq_true (.inr ⟨c2, lp⟩)]
     refine evl ?_
     repeat' (first | refine ae ?_ | (refine ab ?_ ?_ <;> intro h))
     refine am [3, 0] [] ?_
     exact e2 _ _ _
    ·rw [decide_eq_false (fun q => q.elim c1 fun q => c2 q.1)]
     refine evl ?_
     repeat' (first | refine ae ?_ | (refine ab ?_ ?_ <;> intro h))
     refine ag ?_; rfl
  ·rw [decide_eq_false lp] at l1
   by_cases c1 : a.area < b.area
   ·rw [decide_eq_true (.inl c1)]
    refine evl ?_
    repeat' (first | refine ae ?_ | (refine ab ?_ ?_ <;> intro h))
    refine am [3, 0] [] ?_
    exact e2 _ _ _
   ·rw [decide_eq_false (fun q => q.elim c1 fun q => lp q.2)]
    by_cases c2 : a.area = b.area
    ·refine evl ?_
     repeat' (first | refine ae ?_ | (refine ab ?_ ?_ <;> intro h))
     refine ag ?_; rfl
    ·refine evl ?_
     repeat' (first | refine ae ?_ | (refine ab ?_ ?_ <;> intro h))
     refine ag ?_; rfl
 refine aa (F := f496) rfl rfl (ah 300 _ _ _ _ ?_)
 repeat' (first | refine ae ?_ | (refine ab ?_ ?_ <;> intro h))
 refine am [3, 0] [] ?_
 refine evl ?_
 repeat' (first | refine ae ?_ | (refine ab ?_ ?_ <;> intro h))
 refine am [3, 0] [] ?_
 exact e1 _ _ _
end Go.AM.IR
namespace Go.AM.IR
def yk : List ARange → List ARange → Int
 | _, [] => 0
 | d, x :: r => if aU x.pfx = false then 1 else if (match d.getLast? with | some a => !tu a x | none => false) = true then 16 else yk (d ++ [x]) r
theorem ry (q : LSC) (hc : q.ranges.length < 2 ^ 40) (hok : ∀ x ∈ q.ranges, x.pfx.ok) : ∀ (rest done : List ARange) (T : List (Nat × AV)) (H : aq) (c : Nat) (n : Int) (e : q.ranges = done ++ rest) (hn : n = done.length) (hv : ∀ y ∈ done, aU y.pfx = true),
  Ev G ⟨Nh, ⟨(7, .int .i64 n) :: (1, .ref 65 1 0) :: T, (65, some (1, .cells q.enc)) :: H, c⟩, [.t 2], 0⟩ ⟨.int .i64 (yk done rest), []⟩
 | [], done, T, H, c, n, e, hn, hv => by
  have hd : q.ranges.length = done.length := by simp [e]
  have m1 : (q.ranges.map ARange.enc).length = q.ranges.length := by simp
  refine evl ?_
  repeat' (first | refine ae ?_ | (refine ab ?_ ?_ <;> intro h))
  refine ag ?_; rfl
 | x :: r, done, T, H, c, n, e, hn, hv => by
  have hd : q.ranges.length = done.length + (r.length + 1) := by simp [e]
  have m1 : (q.ranges.map ARange.enc).length = q.ranges.length := by simp
  have hx : (q.ranges.map ARange.enc)[n.toNat]? = some x.enc := by simp [e, hn]
  have hxo := hok x (by simp [e])
  have f1 := fT x.pfx hxo
  rw [yk]
  cases vx : aU x.pfx with
  | false =>
   rw [vx] at f1
   rw [if_pos rfl]
   refine evl ?_
   repeat' (first | refine ae ?_ | (refine ab ?_ ?_ <;> intro h))
   refine ag ?_; rfl
  | true =>
  rw [vx] at f1
  rw [if_neg (by simp)]
  have hv' : ∀ y ∈ done ++ [x], aU y.pfx = true := fun y hy => by
   rcases List.mem_append.1 hy with w | w
   ·exact hv y w
   ·simp only [List.mem_singleton] at w; rw [w]; exact vx
  have ih := fun T H c => ry q hc hok r (done ++ [x]) T H c (n + 1) (by simp [e]) (by simp [hn]) hv'
  rcases List.eq_nil_or_concat done with h0 | ⟨d, a, h0⟩
  ·subst h0
   obtain rfl : n = 0 := hn
   rw [if_neg (by simp)]
   refine evl ?_
   repeat' (first | refine ae ?_ | (refine ab ?_ ?_ <;> intro h))
   refine am [7, 1] [65] ?_
   exact ih _ _ _
  ·have hao := hok a (by rw [e, h0]; simp)
   have g1 := xc a x hao hxo (hv a (by rw [h0]; simp)) vx
   have hl0 : done.getLast? = some a := by rw [h0]; simp
   have hdl : done.length = d.length + 1 := by rw [h0]; simp
   have n1 : (0 : Int) < n := by omega
   have hE : List.take ((n + 1).toNat - (n - 1).toNat) (List.drop (n - 1).toNat (q.ranges.map ARange.enc)) = [a.enc, x.enc] := by
    have e1 : (n - 1).toNat = d.length := by omega
    have e2 : (n + 1).toNat - (n - 1).toNat = 2 := by omega
    rw [e2, e1, e, h0]
    simp [List.concat_eq_append]
   rw [hl0]
   dsimp only
   have kE : ∀ es, es = [a.enc, x.enc] → ax G 496 [.sl 4 es] [] ⟨.bool (tu a x), []⟩ := fun es w => by rw [w]; exact g1
   have hpr : ∀ es, es = [a.enc, x.enc] → aH [AV.sl 4 es] = true := fun es w => by rw [w]; simp [aH, AV.pure, aG]
   by_cases ho : tu a x = true
   ·rw [ho] at kE
    rw [if_neg (by rw [ho]; simp)]
    refine evl ?_
    repeat' ((conv => whnf); first | refine kV (kE _ hE) ?_ (hpr _ hE) | refine aP ?_ | (refine ab ?_ ?_ <;> intro h))
    refine am [7, 1] [65] ?_
    exact ih _ _ _
   ·rw [Bool.not_eq_true] at ho
    rw [ho] at kE
    rw [if_pos (by rw [ho]; rfl)]
    refine evl ?_
    repeat' ((conv => whnf); first | refine kV (kE _ hE) ?_ (hpr _ hE) | refine aP ?_ | (refine ab ?_ ?_ <;> intro h))
    refine ag ?_; rfl
def ovT : List Ifc → List Ifc → Bool
 | _, [] => false
 | d, x :: r => d.any (fun y => ovE x.pfx y.pfx) || ovT (d ++ [x]) r
def lsE2 (q : LSC) : Int := if ovT [] q.ifs = true then 7 else yk [] q.ranges
def lsE (q : LSC) : Int := if q.router = 0 then 5 else if q.ifs = [] then 1 else if 16 < q.ifs.length then 4 else if 64 < q.ranges.length then 4 else if bh ifE q.ifs = 0 then lsE2 q else bh ifE q.ifs
theorem DY (q : LSC) (hc : q.ifs.length < 2 ^ 40) (hok : ∀ x ∈ q.ifs, x.ok) (hv : ∀ x ∈ q.ifs, aU x.pfx = true) (i : Nat) (x : Ifc) (hx : q.ifs[i]? = some x) (R : Ret)
  (go : (q.ifs.take i).any (fun y => ovE x.pfx y.pfx) = false → ∀ (T : List (Nat × AV)) (H : aq) (c : Nat), Ev G ⟨v8, ⟨(5, .int .i64 ((i : Int) + 1)) :: (1, .ref 65 1 0) :: T, (65, some (1, .cells q.enc)) :: H, c⟩, [.t 2], 0⟩ R)
  (hR : (q.ifs.take i).any (fun y => ovE x.pfx y.pfx) = true → R = ⟨.int .i64 7, []⟩) : ∀ (f k : Nat) (hk : k + f = i) (hd : (q.ifs.take k).any (fun y => ovE x.pfx y.pfx) = false) (T : List (Nat × AV)) (H : aq) (c : Nat),
  Ev G ⟨Ni, ⟨(6, .int .i64 (k : Int)) :: (1, .ref 65 1 0) :: (5, .int .i64 (i : Int)) :: T, (65, some (1, .cells q.enc)) :: H, c⟩, [.t 2], 0⟩ R
 | 0, k, hk, hd, T, H, c => by
  obtain rfl : k = i := by omega
  have hi : k < q.ifs.length := (List.getElem?_eq_some_iff.1 hx).1
  refine evl ?_
  repeat' (first | refine ae ?_ | (refine ab ?_ ?_ <;> intro h))
  refine am [5, 1] [65] ?_
  exact go hd _ _ _
 | f + 1, k, hk, hd, T, H, c => by
  have hi : i < q.ifs.length := (List.getElem?_eq_some_iff.1 hx).1
  obtain ⟨y, hy⟩ : ∃ y, q.ifs[k]? = some y := ⟨q.ifs[k], List.getElem?_eq_getElem (by omega)⟩
  have hki : (k : Int) < (i : Int) := by omega
  have m1 : (q.ifs.map Ifc.enc).length = q.ifs.length := by simp
  have hx1 : (q.ifs.map Ifc.enc)[((i : Nat) : Int).toNat]? = some x.enc := by simp [hx]
  have hy1 : (q.ifs.map Ifc.enc)[((k : Nat) : Int).toNat]? = some y.enc := by simp [hy]
  have mx := List.mem_of_getElem? hx
  have my := List.mem_of_getElem? hy
  have h1 : ax G 494 [.agg [.int .u32 x.pfx.addr, .int .i64 x.pfx.len], .agg [.int .u32 y.pfx.addr, .int .i64 y.pfx.len]] [] ⟨.bool (ovE x.pfx y.pfx), []⟩ := Dg x.pfx y.pfx (hok x mx).2.1 (hok y my).2.1 (hv x mx) (hv y my)
  have ht : q.ifs.take (k + 1) = q.ifs.take k ++ [y] := by rw [List.take_add_one, hy]; rfl
  by_cases ho : ovE x.pfx y.pfx = true
  ·rw [ho] at h1
   rw [hR (by
    rw [List.any_eq_true]
    exact ⟨y, List.mem_of_mem_take (i := k + 1) (by rw [List.take_take, Nat.min_eq_left (by omega), ht]; simp), ho⟩)]
   refine evl ?_
   repeat' (first | refine ae ?_ | (refine ab ?_ ?_ <;> intro h))
   refine ag ?_; rfl
  ·rw [Bool.not_eq_true] at ho
   rw [ho] at h1
   refine evl ?_
   repeat' (first | refine ae ?_ | (refine ab ?_ ?_ <;> intro h))
   refine am [6, 1, 5] [65] ?_
   exact DY q hc hok hv i x hx R go hR f (k + 1) (by omega) (by rw [ht]; simp [hd, ho]) _ _ _
theorem vv (q : LSC) (hc : q.ifs.length < 2 ^ 40) (hrg : q.ranges.length < 2 ^ 40) (hok : ∀ x ∈ q.ifs, x.ok) (hrok : ∀ x ∈ q.ranges, x.pfx.ok) (hv : ∀ x ∈ q.ifs, aU x.pfx = true) : ∀ (rest done : List Ifc) (T : List (Nat × AV)) (H : aq) (c : Nat) (n : Int) (e : q.ifs = done ++ rest) (hn : n = done.length),
  Ev G ⟨v8, ⟨(5, .int .i64 n) :: (1, .ref 65 1 0) :: T, (65, some (1, .cells q.enc)) :: H, c⟩, [.t 2], 0⟩ ⟨.int .i64 (if ovT done rest = true then 7 else yk [] q.ranges), []⟩
 | [], done, T, H, c, n, e, hn => by
  have hd : q.ifs.length = done.length := by simp [e]
  have m1 : (q.ifs.map Ifc.enc).length = q.ifs.length := by simp
  rw [ovT, if_neg (by simp)]
  refine evl ?_
  repeat' (first | refine ae ?_ | (refine ab ?_ ?_ <;> intro h))
  refine am [7, 1] [65] ?_
  exact ry q hrg hrok q.ranges [] _ _ _ 0 rfl rfl (by simp)
 | x :: r, done, T, H, c, n, e, hn => by
  have hd : q.ifs.length = done.length + (r.length + 1) := by simp [e]
  have m1 : (q.ifs.map Ifc.enc).length = q.ifs.length := by simp
  have ht : q.ifs.take done.length = done := by simp [e]
  have hx0 : q.ifs[done.length]? = some x := by simp [e]
  subst hn
  rw [ovT]
  refine evl ?_
  repeat' (first | refine ae ?_ | (refine ab ?_ ?_ <;> intro h))
  refine am [6, 1, 5] [65] ?_
  refine DY q hc hok hv done.length x hx0 _ (fun h0 T H c => ?_) (fun h1 => ?_) done.length 0 (by omega) (by simp) _ _ _
  ·rw [ht] at h0
   rw [h0, Bool.false_or]
   exact vv q hc hrg hok hrok hv r (done ++ [x]) T H c ((done.length : Int) + 1) (by simp [e]) (by simp)
  ·rw [ht] at h1
   rw [h1, Bool.true_or, if_pos rfl]
theorem vM (q : LSC) (hc : q.ifs.length < 2 ^ 40) (hrg : q.ranges.length < 2 ^ 40) (hok : ∀ x ∈ q.ifs, x.ok) (hrok : ∀ x ∈ q.ranges, x.pfx.ok) : ∀ (rest done : List Ifc) (T : List (Nat × AV)) (H : aq) (c : Nat) (n : Int) (e : q.ifs = done ++ rest) (hn : n = done.length) (hv : ∀ x ∈ done, aU x.pfx = true),
  Ev G ⟨Nj, ⟨(3, .int .i64 n) :: (1, .ref 65 1 0) :: T, (65, some (1, .cells q.enc)) :: H, c⟩, [.t 2], 0⟩ ⟨.int .i64 (if bh ifE rest = 0 then lsE2 q else bh ifE rest), []⟩
 | [], done, T, H, c, n, e, hn, hv => by
  have hd : q.ifs.length = done.length := by simp [e]
  have m1 : (q.ifs.map Ifc.enc).length = q.ifs.length := by simp
  obtain rfl : q.ifs = done := by simpa using e
  rw [bh, if_pos rfl]
  refine evl ?_
  repeat' (first | refine ae ?_ | (refine ab ?_ ?_ <;> intro h))
  refine am [5, 1] [65] ?_
  exact vv q hc hrg hok hrok hv q.ifs [] _ _ _ 0 rfl rfl
 | x :: r, done, T, H, c, n, e, hn, hv => by
  have hd : q.ifs.length = done.length + (r.length + 1) := by simp [e]
  have m1 : (q.ifs.map Ifc.enc).length = q.ifs.length := by simp
  have hx : (q.ifs.map Ifc.enc)[n.toNat]? = some x.enc := by simp [e, hn]
  have h1 := Dm x (hok x (by simp [e]))
  have hvx : ifE x = 0 → aU x.pfx = true := fun h => by
   unfold ifE at h
   split at h
   ·omega
   split at h
   ·omega
   ·rename_i h2; simpa using h2
  rw [bh]
  generalize ifE x = E at *
  by_cases h0 : E = 0
  ·subst h0
   rw [if_pos rfl]
   refine evl ?_
   repeat' (first | refine ae ?_ | (refine ab ?_ ?_ <;> intro h))
   refine am [3, 1] [65] ?_
   exact vM q hc hrg hok hrok r (done ++ [x]) _ _ _ (n + 1) (by simp [e]) (by simp [hn]) (fun y hy => by
    rcases List.mem_append.1 hy with w | w
    ·exact hv y w
    ·simp only [List.mem_singleton] at w; rw [w]; exact hvx rfl)
  ·rw [if_neg h0, if_neg h0]
   refine evl ?_
   repeat' (first | refine ae ?_ | (refine ab ?_ ?_ <;> intro h))
   refine ag ?_; rfl
theorem Di (q : LSC) (hc : q.ifs.length < 2 ^ 40) (hrg : q.ranges.length < 2 ^ 40) (hok : ∀ x ∈ q.ifs, x.ok) (hrok : ∀ x ∈ q.ranges, x.pfx.ok) : ax G 443 [.agg q.enc] [] ⟨.int .i64 (lsE q), []⟩ := by
 have m1 : (q.ifs.map Ifc.enc).length = q.ifs.length := by simp
 have m2 : (q.ranges.map ARange.enc).length = q.ranges.length := by simp
 rw [lsE]
 by_cases a : q.router = 0
 ·rw [if_pos a]
  refine aa (F := f443) rfl rfl (ah 300 _ _ _ _ ?_)
  repeat' (first | refine ae ?_ | (refine ab ?_ ?_ <;> intro h))
  refine ag ?_; rfl
 rw [if_neg a]
 by_cases b : q.ifs = []
 ·rw [if_pos b]
  have b' : (q.ifs.length : Int) = 0 := by rw [b]; rfl
  refine aa (F := f443) rfl rfl (ah 300 _ _ _ _ ?_)
  repeat' (first | refine ae ?_ | (refine ab ?_ ?_ <;> intro h))
  refine ag ?_; rfl
 rw [if_neg b]
 have b' : ¬ (q.ifs.length : Int) = 0 := fun w => b (List.eq_nil_of_length_eq_zero (by omega))
 by_cases d : 16 < q.ifs.length
 ·rw [if_pos d]
  have d' : (q.ifs.length : Int) > 16 := by omega
  refine aa (F := f443) rfl rfl (ah 300 _ _ _ _ ?_)
  repeat' (first | refine ae ?_ | (refine ab ?_ ?_ <;> intro h))
  refine ag ?_; rfl
 rw [if_neg d]
 by_cases f : 64 < q.ranges.length
 ·rw [if_pos f]
  have f' : (q.ranges.length : Int) > 64 := by omega
  refine aa (F := f443) rfl rfl (ah 300 _ _ _ _ ?_)
  repeat' (first | refine ae ?_ | (refine ab ?_ ?_ <;> intro h))
  refine ag ?_; rfl
 rw [if_neg f]
 refine aa (F := f443) rfl rfl (ah 300 _ _ _ _ ?_)
 repeat' (first | refine ae ?_ | (refine ab ?_ ?_ <;> intro h))
 refine am [3, 1] [65] ?_
 exact vM q hc hrg hok hrok q.ifs [] _ _ _ 0 rfl rfl (by simp)
end Go.AM.IR
namespace Go.AM.IR
theorem BP (p q : Pfx) : ax G 180 [.agg p.enc, .agg q.enc] [] ⟨.int .i64 (gn p q), []⟩ := by
 have hee : (p = q) ↔ (p.addr = q.addr ∧ p.len = q.len) := by cases p; cases q; simp
 by_cases h1 : p.addr < q.addr
 ·rw [show gn p q = -1 from by simp [gn, h1]]
  refine aa (F := f180) rfl rfl (ah 300 _ _ _ _ ?_)
  repeat' (first | refine ae ?_ | (refine ab ?_ ?_ <;> intro h))
  all_goals (refine ag ?_; first | rfl | (exfalso; omega))
 ·by_cases h2 : p.addr = q.addr
  ·by_cases h3 : p.len < q.len
   ·rw [show gn p q = -1 from by simp [gn, h2, h3]]
    refine aa (F := f180) rfl rfl (ah 300 _ _ _ _ ?_)
    repeat' (first | refine ae ?_ | (refine ab ?_ ?_ <;> intro h))
    all_goals (refine ag ?_; first | rfl | (exfalso; omega))
   ·by_cases h4 : p.len = q.len
    ·rw [show gn p q = 0 from by simp [gn, h2, h4, hee]]
     refine aa (F := f180) rfl rfl (ah 300 _ _ _ _ ?_)
     repeat' (first | refine ae ?_ | (refine ab ?_ ?_ <;> intro h))
     all_goals (refine ag ?_; first | rfl | (exfalso; omega))
    ·rw [show gn p q = 1 from by simp [gn, h2, h3, h4, hee]]
     refine aa (F := f180) rfl rfl (ah 300 _ _ _ _ ?_)
     repeat' (first | refine ae ?_ | (refine ab ?_ ?_ <;> intro h))
     all_goals (refine ag ?_; first | rfl | (exfalso; omega))
  ·rw [show gn p q = 1 from by simp [gn, h1, h2, hee]]
   refine aa (F := f180) rfl rfl (ah 300 _ _ _ _ ?_)
   repeat' (first | refine ae ?_ | (refine ab ?_ ?_ <;> intro h))
   all_goals (refine ag ?_; first | rfl | (exfalso; omega))
theorem bP2 {hp : aq} {s : Nat} {z : List AV} {n : Nat} {ps : List Nat} {vs : List AV} {k : List (List AV) → List Nat → Prop} {a b : AV} (hk : k [[a], [b]] []) (h1 : aH vs = true := by first | rfl | (simp [aH, aG, AV.pure]; done) | fail) (h2 : fX s (cU n z) ps vs = some [[a], [b]] := by rfl) : BslC hp s z n ps vs k := uR h1 h2 (tH.2 hk)
def dE (q : PVC) (p : PeerC) : Int := if p.damp = false then 0 else if ¬ p.kind = 1 then 1 else if fD q.damp = 0 then 0 else 1
def nc (s : PSet) (k : List UInt8) : Bool := !decide (k = []) && (gF s.pols k).isNone
def nmE (q : PVC) (p : PeerC) : List (List UInt8) → Int
 | [] => dE q p
 | k :: r => if nc q.pols k = true then 6 else nmE q p r
section
variable {kv : AV → Prop}
theorem cm {q : IntKind} {a b : Int} (h : ¬ a = b) (k : kv (.bool true)) : ∃ v, bj .neq (.int q a) (.int q b) = some v ∧ kv v := ⟨.bool true, by simp [bj, h], k⟩
theorem bG {q : IntKind} {a b : Int} (h : a = b) (k : kv (.bool false)) : ∃ v, bj .neq (.int q a) (.int q b) = some v ∧ kv v := ⟨.bool false, by simp [bj, h], k⟩
end
theorem lR (q : PVC) (hq : q.pols.pols.length < 2 ^ 40) (p : PeerC) (a b : List UInt8) (g : Nat) (g9 : Nat) (T : List (Nat × AV)) (H : aq) (c : Nat) :
  Ev G ⟨nC, ⟨(81, .int .i64 2) :: (2, .ref 66 1 0) :: (79, .vs 143 g 2) :: (5, .ref 69 g9 0) :: (80, .int .i64 2) :: T, (66, some (1, .cells q.enc)) :: (69, some (g9, .cells p.enc)) :: (143, some (g, .vec 1 [[.str a], [.str b]])) :: H, c⟩, [.t 4], 0⟩ ⟨.int .i64 (dE q p), []⟩ := by
 have h1 := nG q.damp
 cases hd : p.damp with
 | false =>
  rw [dE, if_pos hd]
  refine evl ?_
  repeat' (first | refine ae ?_ | (refine ab ?_ ?_ <;> intro h))
  all_goals first | (refine ag ?_; rfl) | (exfalso; simp_all; done)
 | true =>
 rw [dE, if_neg (by simp [hd])]
 by_cases k : p.kind = 1
 ·rw [if_neg (by simp [k])]
  by_cases e : fD q.damp = 0
  ·rw [if_pos e]
   rw [e] at h1
   refine evl ?_
   repeat' ((conv => whnf); first | refine bG k ?_ | refine aP ?_ | (refine ab ?_ ?_ <;> intro h))
   all_goals first | (refine ag ?_; rfl) | (exfalso; simp_all; done)
  ·rw [if_neg e]
   refine evl ?_
   repeat' ((conv => whnf); first | refine bG k ?_ | refine cm e ?_ | refine aP ?_ | (refine ab ?_ ?_ <;> intro h))
   all_goals first | (refine ag ?_; rfl) | (exfalso; simp_all; done)
 ·rw [if_pos k]
  refine evl ?_
  repeat' ((conv => whnf); first | refine cm k ?_ | refine aP ?_ | (refine ab ?_ ?_ <;> intro h))
  all_goals first | (refine ag ?_; rfl) | (exfalso; simp_all; done)
theorem lU (q : PVC) (hq : q.pols.pols.length < 2 ^ 40) (p : PeerC) (a b : List UInt8) (g : Nat) (g9 : Nat) (T : List (Nat × AV)) (H : aq) (c : Nat) :
  Ev G ⟨nC, ⟨(81, .int .i64 1) :: (2, .ref 66 1 0) :: (79, .vs 143 g 2) :: (5, .ref 69 g9 0) :: (80, .int .i64 2) :: T, (66, some (1, .cells q.enc)) :: (69, some (g9, .cells p.enc)) :: (143, some (g, .vec 1 [[.str a], [.str b]])) :: H, c⟩, [.t 4], 0⟩ ⟨.int .i64 (nmE q p [b]), []⟩ := by
 have h1 := jF q.pols hq b
 rw [nmE]
 by_cases hk : b = []
 ·rw [nc, decide_eq_true hk, if_neg (by simp)]
  subst hk
  cases hf : gF q.pols.pols [] with
  | none =>
   rw [hf, eW] at h1
   refine evl ?_
   repeat' (first | refine ae ?_ | (refine ab ?_ ?_ <;> intro h))
   refine am [81, 2, 79, 5, 80] [66, 69, 143] ?_
   exact lR q hq p _ _ g _ _ _ _
  | some v =>
   rw [hf, eW] at h1
   refine evl ?_
   repeat' (first | refine ae ?_ | (refine ab ?_ ?_ <;> intro h))
   refine am [81, 2, 79, 5, 80] [66, 69, 143] ?_
   exact lR q hq p _ _ g _ _ _ _
 ·rw [nc, decide_eq_false hk, Bool.not_false, Bool.true_and]
  cases hf : gF q.pols.pols b with
  | none =>
   rw [hf, eW] at h1
   simp only [Option.isNone_none, if_true]
   refine evl ?_
   repeat' ((conv => whnf); first | refine jA hk ?_ | refine aP ?_ | (refine ab ?_ ?_ <;> intro h))
   refine ag ?_; rfl
  | some v =>
   rw [hf, eW] at h1
   simp only [Option.isNone_some, Bool.false_eq_true, if_false]
   refine evl ?_
   repeat' ((conv => whnf); first | refine jA hk ?_ | refine aP ?_ | (refine ab ?_ ?_ <;> intro h))
   refine am [81, 2, 79, 5, 80] [66, 69, 143] ?_
   exact lR q hq p _ _ g _ _ _ _
theorem KJ (q : PVC) (hq : q.pols.pols.length < 2 ^ 40) (p : PeerC) (a b : List UInt8) (g : Nat) (g9 : Nat) (T : List (Nat × AV)) (H : aq) (c : Nat) :
  Ev G ⟨nC, ⟨(81, .int .i64 0) :: (2, .ref 66 1 0) :: (79, .vs 143 g 2) :: (5, .ref 69 g9 0) :: (80, .int .i64 2) :: T, (66, some (1, .cells q.enc)) :: (69, some (g9, .cells p.enc)) :: (143, some (g, .vec 1 [[.str a], [.str b]])) :: H, c⟩, [.t 4], 0⟩ ⟨.int .i64 (nmE q p [a, b]), []⟩ := by
 have h1 := jF q.pols hq a
 rw [nmE]
 by_cases hk : a = []
 ·rw [nc, decide_eq_true hk, if_neg (by simp)]
  subst hk
  cases hf : gF q.pols.pols [] with
  | none =>
   rw [hf, eW] at h1
   refine evl ?_
   repeat' (first | refine ae ?_ | (refine ab ?_ ?_ <;> intro h))
   refine am [81, 2, 79, 5, 80] [66, 69, 143] ?_
   exact lU q hq p _ _ g _ _ _ _
  | some v =>
   rw [hf, eW] at h1
   refine evl ?_
   repeat' (first | refine ae ?_ | (refine ab ?_ ?_ <;> intro h))
   refine am [81, 2, 79, 5, 80] [66, 69, 143] ?_
   exact lU q hq p _ _ g _ _ _ _
 ·rw [nc, decide_eq_false hk, Bool.not_false, Bool.true_and]
  cases hf : gF q.pols.pols a with
  | none =>
   rw [hf, eW] at h1
   simp only [Option.isNone_none, if_true]
   refine evl ?_
   repeat' ((conv => whnf); first | refine jA hk ?_ | refine aP ?_ | (refine ab ?_ ?_ <;> intro h))
   refine ag ?_; rfl
  | some v =>
   rw [hf, eW] at h1
   simp only [Option.isNone_some, Bool.false_eq_true, if_false]
   refine evl ?_
   repeat' ((conv => whnf); first | refine jA hk ?_ | refine aP ?_ | (refine ab ?_ ?_ <;> intro h))
   refine am [81, 2, 79, 5, 80] [66, 69, 143] ?_
   exact lU q hq p _ _ g _ _ _ _
def tlE (q : PVC) (p : PeerC) : Int := if p.client = true ∧ ¬ p.kind = 3 then 1 else if ¬ p.hold = 0 ∧ (p.hold < 3 ∨ 65535 < p.hold) then 21 else if p.restart < 0 then 5 else if 4095 < p.restart then 5 else nmE q p [p.imp, p.exp]
theorem vr (q : PVC) (hq : q.pols.pols.length < 2 ^ 40) (p : PeerC) (l : List PeerC) (hl : l.length < 2 ^ 40) : ∀ (rest done : List PeerC) (g9 : Nat) (T : List (Nat × AV)) (H : aq) (c : Nat) (n : Int) (e : l = done ++ rest) (hn : n = done.length),
  Ev G ⟨MN, ⟨(37, .int .i64 n) :: (5, .ref 69 g9 0) :: (35, .sl 11 (l.map PeerC.enc)) :: (2, .ref 66 1 0) :: (36, .int .i64 l.length) :: T, (66, some (1, .cells q.enc)) :: (69, some (g9, .cells p.enc)) :: H, c⟩, [.t 4], 0⟩ ⟨.int .i64 (if rest.any (fun y => decide (y.addr = p.addr)) then 7 else tlE q p), []⟩
 | [], done, g9, T, H, c, n, e, hn => by
  obtain rfl : l = done := by simpa using e
  simp only [List.any_nil, Bool.false_eq_true, if_false]
  by_cases c1 : p.client = true ∧ ¬ p.kind = 3
  ·rw [tlE, if_pos c1]
   obtain ⟨c1, c2⟩ := c1
   refine evl ?_
   repeat' (first | refine ae ?_ | (refine ab ?_ ?_ <;> intro h))
   all_goals first | (refine ag ?_; rfl) | contradiction | (exfalso; omega)
  by_cases c2 : ¬ p.hold = 0 ∧ (p.hold < 3 ∨ 65535 < p.hold)
  ·rw [tlE, if_neg c1, if_pos c2]
   obtain ⟨c2, c3⟩ := c2
   refine evl ?_
   repeat' (first | refine ae ?_ | (refine ab ?_ ?_ <;> intro h))
   all_goals first | (refine ag ?_; rfl) | (exfalso; exact c1 ⟨by assumption, by assumption⟩) | (exfalso; omega)
  by_cases c3 : p.restart < 0
  ·rw [tlE, if_neg c1, if_neg c2, if_pos c3]
   refine evl ?_
   repeat' (first | refine ae ?_ | (refine ab ?_ ?_ <;> intro h))
   all_goals first | (refine ag ?_; rfl) | (exfalso; exact c1 ⟨by assumption, by assumption⟩) | (exfalso; omega)
  by_cases c4 : 4095 < p.restart
  ·rw [tlE, if_neg c1, if_neg c2, if_neg c3, if_pos c4]
   refine evl ?_
   repeat' (first | refine ae ?_ | (refine ab ?_ ?_ <;> intro h))
   all_goals first | (refine ag ?_; rfl) | (exfalso; exact c1 ⟨by assumption, by assumption⟩) | (exfalso; omega)
  rw [tlE, if_neg c1, if_neg c2, if_neg c3, if_neg c4]
  refine evl ?_
  repeat' ((conv => whnf); first | refine bP2 (a := .str p.imp) (b := .str p.exp) ?_ | refine aP ?_ | (refine ab ?_ ?_ <;> intro h))
  all_goals try (exfalso; first | exact c1 ⟨by assumption, by assumption⟩ | omega)
  all_goals (refine am [81, 2, 79, 5, 80] [66, 69, 143] ?_; exact KJ q hq p _ _ _ _ _ _ _)
 | x :: r, done, g9, T, H, c, n, e, hn => by
  have hd : l.length = done.length + (r.length + 1) := by simp [e]
  have m1 : (l.map PeerC.enc).length = l.length := by simp
  have hx : (l.map PeerC.enc)[n.toNat]? = some x.enc := by simp [e, hn]
  by_cases h : x.addr = p.addr
  ·rw [if_pos (by simp [h])]
   refine evl ?_
   repeat' ((conv => whnf); first | refine ba h ?_ | refine aP ?_ | (refine ab ?_ ?_ <;> intro h))
   refine ag ?_; rfl
  ·rw [show ((x :: r).any fun y => decide (y.addr = p.addr)) = r.any fun y => decide (y.addr = p.addr) from by simp [h]]
   refine evl ?_
   repeat' ((conv => whnf); first | refine aQ h ?_ | refine aP ?_ | (refine ab ?_ ?_ <;> intro h))
   refine am [37, 5, 35, 2, 36] [66, 69] ?_
   exact vr q hq p l hl r (done ++ [x]) _ _ _ _ (n + 1) (by simp [e]) (by simp [hn])
def peE (q : PVC) (d : List PeerC) (p : PeerC) : Int := if pkE q p = 0 then (if p.addr = 0 then 1 else if p.loc = 0 then 1 else if d.any (fun y => decide (y.addr = p.addr)) then 7 else tlE q p) else pkE q p
theorem w6 (q : PVC) (hq : q.pols.pols.length < 2 ^ 40) (hl : q.peers.length < 2 ^ 40) (i : Nat) (p : PeerC) (hp : q.peers[i]? = some p) : ax G 503 [.agg q.enc, .int .i64 i] [] ⟨.int .i64 (peE q (q.peers.take i) p), []⟩ := by
 have h1 := De q p
 have hi : i < q.peers.length := (List.getElem?_eq_some_iff.1 hp).1
 have m1 : (q.peers.map PeerC.enc).length = q.peers.length := by simp
 have hx : (q.peers.map PeerC.enc)[((i : Nat) : Int).toNat]? = some p.enc := by simp [hp]
 rw [peE]
 by_cases e : pkE q p = 0
 ·rw [if_pos e]
  rw [e] at h1
  by_cases a1 : p.addr = 0
  ·rw [if_pos a1]
   refine aa (F := f503) rfl rfl (ah 300 _ _ _ _ ?_)
   repeat' ((conv => whnf); first | refine ba a1 ?_ | refine aP ?_ | (refine ab ?_ ?_ <;> intro h))
   refine ag ?_; rfl
  by_cases a2 : p.loc = 0
  ·rw [if_neg a1, if_pos a2]
   refine aa (F := f503) rfl rfl (ah 300 _ _ _ _ ?_)
   repeat' ((conv => whnf); first | refine aQ a1 ?_ | refine ba a2 ?_ | refine aP ?_ | (refine ab ?_ ?_ <;> intro h))
   refine ag ?_; rfl
  rw [if_neg a1, if_neg a2]
  refine aa (F := f503) rfl rfl (ah 300 _ _ _ _ ?_)
  repeat' ((conv => whnf); first | refine aQ a1 ?_ | refine aQ a2 ?_ | refine aP ?_ | (refine ab ?_ ?_ <;> intro h))
  refine am [37, 5, 35, 2, 36] [66, 69] ?_
  rw [show List.take (((i : Nat) : Int).toNat - 0) (List.drop 0 (List.map PeerC.enc q.peers)) = List.map PeerC.enc (q.peers.take i) from by simp, List.length_map]
  exact vr q hq p (q.peers.take i) (by simp; omega) _ [] _ _ _ _ 0 rfl rfl
 ·rw [if_neg e]
  refine aa (F := f503) rfl rfl (ah 300 _ _ _ _ ?_)
  repeat' ((conv => whnf); first | refine cm e ?_ | refine aP ?_ | (refine ab ?_ ?_ <;> intro h))
  refine ag ?_; rfl
end Go.AM.IR
namespace Go.AM.IR
theorem sv {b : Bool} {p q : Prop} (h : b = false) (k : p) : condC (true ^^ b) p q := by subst h; exact ⟨fun _ => k, fun w => by cases w⟩
def Ky (q : PVC) : List PeerC → List PeerC → Int
 | _, [] => 0
 | d, x :: r => if peE q d x = 0 then Ky q (d ++ [x]) r else peE q d x
def t3E (q : PVC) : Int := if q.multi < 0 then 5 else if 16 < q.multi then 5 else Ky q [] q.peers
def t2E (q : PVC) : Int := if q.damp.half = 0 ∧ q.damp.reuse = 0 ∧ q.damp.suppress = 0 ∧ q.damp.maxTime = 0 then t3E q else if fD q.damp = 0 then t3E q else fD q.damp
def yU (q : PVC) : List Pfx → List Pfx → Int
 | _, [] => t2E q
 | d, x :: r => if aU x = false then 1 else if (match d.getLast? with | some a => decide (0 ≤ gn a x) | none => false) = true then 16 else yU q (d ++ [x]) r
theorem lC (q : PVC) (hq : q.pols.pols.length < 2 ^ 40) (hl : q.peers.length < 2 ^ 40) : ∀ (rest done : List PeerC) (T : List (Nat × AV)) (H : aq) (c : Nat) (n : Int) (e : q.peers = done ++ rest) (hn : n = done.length),
  Ev G ⟨Nd, ⟨(101, .int .i64 n) :: (1, .ref 65 1 0) :: (100, .int .i64 q.peers.length) :: T, (65, some (1, .cells q.enc)) :: H, c⟩, [.t 2], 0⟩ ⟨.int .i64 (Ky q done rest), []⟩
 | [], done, T, H, c, n, e, hn => by
  have hd : q.peers.length = done.length := by simp [e]
  refine evl ?_
  repeat' (first | refine ae ?_ | (refine ab ?_ ?_ <;> intro h))
  refine ag ?_; rfl
 | x :: r, done, T, H, c, n, e, hn => by
  have hd : q.peers.length = done.length + (r.length + 1) := by simp [e]
  have h1 := w6 q hq hl done.length x (by simp [e])
  rw [show q.peers.take done.length = done from by simp [e], ← hn] at h1
  rw [Ky]
  by_cases h0 : peE q done x = 0
  ·rw [if_pos h0]
   rw [h0] at h1
   refine evl ?_
   repeat' (first | refine ae ?_ | (refine ab ?_ ?_ <;> intro h))
   refine am [101, 1, 100] [65] ?_
   exact lC q hq hl r (done ++ [x]) _ _ _ (n + 1) (by simp [e]) (by simp [hn])
  ·rw [if_neg h0]
   generalize peE q done x = E at *
   refine evl ?_
   repeat' ((conv => whnf); first | refine cm h0 ?_ | refine aP ?_ | (refine ab ?_ ?_ <;> intro h))
   refine ag ?_; rfl
theorem rM (q : PVC) (hq : q.pols.pols.length < 2 ^ 40) (hl : q.peers.length < 2 ^ 40) (hnt : q.nets.length < 2 ^ 40) (hok : ∀ x ∈ q.nets, x.ok) : ∀ (rest done : List Pfx) (T : List (Nat × AV)) (H : aq) (c : Nat) (n : Int) (e : q.nets = done ++ rest) (hn : n = done.length),
  Ev G ⟨Nf, ⟨(58, .int .i64 n) :: (1, .ref 65 1 0) :: (56, .sl 2 (q.nets.map Pfx.enc)) :: (57, .int .i64 q.nets.length) :: T, (65, some (1, .cells q.enc)) :: H, c⟩, [.t 2], 0⟩ ⟨.int .i64 (yU q done rest), []⟩
 | [], done, T, H, c, n, e, hn => by
  have hd : q.nets.length = done.length := by simp [e]
  have h1 := nG q.damp
  have m1 : (q.peers.map PeerC.enc).length = q.peers.length := by simp
  rw [yU]
  by_cases k : q.damp.half = 0 ∧ q.damp.reuse = 0 ∧ q.damp.suppress = 0 ∧ q.damp.maxTime = 0
  ·rw [t2E, if_pos k, t3E]
   obtain ⟨k1, k2, k3, k4⟩ := k
   by_cases u : q.multi < 0
   ·rw [if_pos u]
    refine evl ?_
    repeat' (first | refine ae ?_ | (refine ab ?_ ?_ <;> intro h))
    refine ag ?_; rfl
   by_cases u' : 16 < q.multi
   ·rw [if_neg u, if_pos u']
    refine evl ?_
    repeat' (first | refine ae ?_ | (refine ab ?_ ?_ <;> intro h))
    refine ag ?_; rfl
   rw [if_neg u, if_neg u']
   refine evl ?_
   repeat' (first | refine ae ?_ | (refine ab ?_ ?_ <;> intro h))
   refine am [101, 1, 100] [65] ?_
   rw [m1]
   exact lC q hq hl q.peers [] _ _ _ 0 rfl rfl
  ·rw [t2E, if_neg k]
   have kb : (q.damp.half == 0 && (q.damp.reuse == 0 && (q.damp.suppress == 0 && (q.damp.maxTime == 0 && true)))) = false := by
    simpa using k
   by_cases d : fD q.damp = 0
   ·rw [if_pos d, t3E]
    rw [d] at h1
    by_cases u : q.multi < 0
    ·rw [if_pos u]
     refine evl ?_
     repeat' ((conv => whnf); first | refine sv kb ?_ | refine bG d ?_ | refine aP ?_ | (refine ab ?_ ?_ <;> intro h))
     refine ag ?_; rfl
    by_cases u' : 16 < q.multi
    ·rw [if_neg u, if_pos u']
     refine evl ?_
     repeat' ((conv => whnf); first | refine sv kb ?_ | refine bG d ?_ | refine aP ?_ | (refine ab ?_ ?_ <;> intro h))
     refine ag ?_; rfl
    rw [if_neg u, if_neg u']
    refine evl ?_
    repeat' ((conv => whnf); first | refine sv kb ?_ | refine bG d ?_ | refine aP ?_ | (refine ab ?_ ?_ <;> intro h))
    refine am [101, 1, 100] [65] ?_
    rw [m1]
    exact lC q hq hl q.peers [] _ _ _ 0 rfl rfl
   ·rw [if_neg d]
    generalize fD q.damp = E at *
    refine evl ?_
    repeat' ((conv => whnf); first | refine sv kb ?_ | refine cm d ?_ | refine aP ?_ | (refine ab ?_ ?_ <;> intro h))
    refine ag ?_; rfl
 | x :: r, done, T, H, c, n, e, hn => by
  have hd : q.nets.length = done.length + (r.length + 1) := by simp [e]
  have m1 : (q.nets.map Pfx.enc).length = q.nets.length := by simp
  have hx : (q.nets.map Pfx.enc)[n.toNat]? = some x.enc := by simp [e, hn]
  have hxo := hok x (by simp [e])
  have f1 := bI x hxo
  rw [yU]
  cases vx : aU x with
  | false =>
   rw [vx] at f1
   rw [if_pos rfl]
   refine evl ?_
   repeat' (first | refine ae ?_ | (refine ab ?_ ?_ <;> intro h))
   refine ag ?_; rfl
  | true =>
  rw [vx] at f1
  rw [if_neg (by simp)]
  have ih := fun T H c => rM q hq hl hnt hok r (done ++ [x]) T H c (n + 1) (by simp [e]) (by simp [hn])
  rcases List.eq_nil_or_concat done with h0 | ⟨d, a, h0⟩
  ·subst h0
   obtain rfl : n = 0 := hn
   rw [if_neg (by simp)]
   refine evl ?_
   repeat' (first | refine ae ?_ | (refine ab ?_ ?_ <;> intro h))
   refine am [58, 1, 56, 57] [65] ?_
   exact ih _ _ _
  ·have g1 := BP a x
   have hl0 : done.getLast? = some a := by rw [h0]; simp
   have hdl : done.length = d.length + 1 := by rw [h0]; simp
   have n1 : (0 : Int) < n := by omega
   have ha : (q.nets.map Pfx.enc)[(n - 1).toNat]? = some a.enc := by
    rw [show (n - 1).toNat = d.length from by omega, e, h0]; simp
   rw [hl0]
   dsimp only
   by_cases ho : 0 ≤ gn a x
   ·rw [if_pos (by simpa using ho)]
    generalize gn a x = Z at *
    refine evl ?_
    repeat' (first | refine ae ?_ | (refine ab ?_ ?_ <;> intro h))
    refine ag ?_; rfl
   ·rw [if_neg (by simpa using ho)]
    generalize gn a x = Z at *
    refine evl ?_
    repeat' (first | refine ae ?_ | (refine ab ?_ ?_ <;> intro h))
    refine am [58, 1, 56, 57] [65] ?_
    exact ih _ _ _
end Go.AM.IR
namespace Go.AM.IR
structure PVC.good (q : PVC) : Prop where
 pols : q.pols.good
 peers : q.peers.length < 2 ^ 40
 nets : q.nets.length < 2 ^ 40
 ok : ∀ x ∈ q.nets, x.ok
def t1E (q : PVC) : Int := if ft q.pols = 0 then yU q [] q.nets else ft q.pols
def pvE (q : PVC) : Int := if q.asn < 1 then 5 else if 4294967295 < q.asn then 5 else if q.confed < 0 then 5 else if 4294967295 < q.confed then 5 else if q.confed = q.asn then 14 else if q.router = 0 then 1 else if 16 < q.peers.length then 4 else if 2000 < q.nets.length then 4 else t1E q
theorem Dc (q : PVC) (g : q.good) : ax G 445 [.agg q.enc] [] ⟨.int .i64 (pvE q), []⟩ := by
 have h1 := jX q.pols g.pols
 have m1 : (q.peers.map PeerC.enc).length = q.peers.length := by simp
 have m2 : (q.nets.map Pfx.enc).length = q.nets.length := by simp
 have g1 := g.peers
 have g2 := g.nets
 rw [pvE]
 by_cases a1 : q.asn < 1
 ·rw [if_pos a1]
  refine aa (F := f445) rfl rfl (ah 300 _ _ _ _ ?_)
  repeat' (first | refine ae ?_ | (refine ab ?_ ?_ <;> intro h))
  refine ag ?_; rfl
 rw [if_neg a1]
 by_cases a2 : 4294967295 < q.asn
 ·rw [if_pos a2]
  refine aa (F := f445) rfl rfl (ah 300 _ _ _ _ ?_)
  repeat' (first | refine ae ?_ | (refine ab ?_ ?_ <;> intro h))
  refine ag ?_; rfl
 rw [if_neg a2]
 by_cases a3 : q.confed < 0
 ·rw [if_pos a3]
  refine aa (F := f445) rfl rfl (ah 300 _ _ _ _ ?_)
  repeat' (first | refine ae ?_ | (refine ab ?_ ?_ <;> intro h))
  refine ag ?_; rfl
 rw [if_neg a3]
 by_cases a4 : 4294967295 < q.confed
 ·rw [if_pos a4]
  refine aa (F := f445) rfl rfl (ah 300 _ _ _ _ ?_)
  repeat' (first | refine ae ?_ | (refine ab ?_ ?_ <;> intro h))
  refine ag ?_; rfl
 rw [if_neg a4]
 by_cases a5 : q.confed = q.asn
 ·rw [if_pos a5]
  refine aa (F := f445) rfl rfl (ah 300 _ _ _ _ ?_)
  repeat' ((conv => whnf); first | refine ba a5 ?_ | refine aP ?_ | (refine ab ?_ ?_ <;> intro h))
  refine ag ?_; rfl
 rw [if_neg a5]
 by_cases a6 : q.router = 0
 ·rw [if_pos a6]
  refine aa (F := f445) rfl rfl (ah 300 _ _ _ _ ?_)
  repeat' ((conv => whnf); first | refine aQ a5 ?_ | refine ba a6 ?_ | refine aP ?_ | (refine ab ?_ ?_ <;> intro h))
  refine ag ?_; rfl
 rw [if_neg a6]
 by_cases a7 : 16 < q.peers.length
 ·rw [if_pos a7]
  have a7' : (q.peers.length : Int) > 16 := by omega
  refine aa (F := f445) rfl rfl (ah 300 _ _ _ _ ?_)
  repeat' ((conv => whnf); first | refine aQ a5 ?_ | refine aQ a6 ?_ | refine aP ?_ | (refine ab ?_ ?_ <;> intro h))
  refine ag ?_; rfl
 rw [if_neg a7]
 have a7' : ¬ (q.peers.length : Int) > 16 := by omega
 by_cases a8 : 2000 < q.nets.length
 ·rw [if_pos a8]
  have a8' : (q.nets.length : Int) > 2000 := by omega
  refine aa (F := f445) rfl rfl (ah 300 _ _ _ _ ?_)
  repeat' ((conv => whnf); first | refine aQ a5 ?_ | refine aQ a6 ?_ | refine aP ?_ | (refine ab ?_ ?_ <;> intro h))
  refine ag ?_; rfl
 rw [if_neg a8]
 have a8' : ¬ (q.nets.length : Int) > 2000 := by omega
 rw [t1E]
 by_cases k : ft q.pols = 0
 ·rw [if_pos k]
  rw [k] at h1
  refine aa (F := f445) rfl rfl (ah 300 _ _ _ _ ?_)
  repeat' ((conv => whnf); first | refine aQ a5 ?_ | refine aQ a6 ?_ | refine bG rfl ?_ | refine aP ?_ | (refine ab ?_ ?_ <;> intro h))
  refine am [58, 1, 56, 57] [65] ?_
  rw [m2]
  exact rM q g.pols.d g1 g2 g.ok q.nets [] _ _ _ 0 rfl rfl
 ·rw [if_neg k]
  generalize ft q.pols = E at *
  refine aa (F := f445) rfl rfl (ah 300 _ _ _ _ ?_)
  repeat' ((conv => whnf); first | refine aQ a5 ?_ | refine aQ a6 ?_ | refine cm k ?_ | refine aP ?_ | (refine ab ?_ ?_ <;> intro h))
  refine ag ?_; rfl
end Go.AM.IR
namespace Go.AM.IR
section
variable {kv : AV → Prop}
theorem Ko {a : List UInt8} (h : a = []) (k : kv (.bool false)) : ∃ v, bj .neq (.str a) (.str []) = some v ∧ kv v := by subst h; exact ⟨.bool false, rfl, k⟩
end
def Kx (s : PSet) (r : Red) : Int := if r.metric < 0 then 5 else if 16777216 < r.metric then 5 else if nc s r.pol = true then 6 else 0
def OX (s : PSet) (r : Red) : Int := if r.src < 1 then 15 else if 7 < r.src then 15 else if r.dst = 5 then (if 3 ≤ r.src ∧ r.src ≤ 5 then 1 else Kx s r) else if r.dst = 6 then (if r.src = 6 ∨ r.src = 7 then 1 else Kx s r) else 15
def m8 (s : PSet) (l : List Red) : Int := if ft s = 0 then (if 64 < l.length then 4 else bh (OX s) l) else ft s
theorem rA (s : PSet) (hs : s.pols.length < 2 ^ 40) (l : List Red) (hl : l.length < 2 ^ 40) : ∀ (rest done : List Red) (T : List (Nat × AV)) (H : aq) (c : Nat) (n : Int) (e : l = done ++ rest) (hn : n = done.length),
  Ev G ⟨Nb, ⟨(20, .int .i64 n) :: (2, .ref 66 1 0) :: (18, .sl 5 (l.map Red.enc)) :: (19, .int .i64 l.length) :: T, (66, some (1, .cells s.enc)) :: H, c⟩, [.t 4], 0⟩ ⟨.int .i64 (bh (OX s) rest), []⟩
 | [], done, T, H, c, n, e, hn => by
  have hd : l.length = done.length := by simp [e]
  refine evl ?_
  repeat' (first | refine ae ?_ | (refine ab ?_ ?_ <;> intro h))
  refine ag ?_; rfl
 | x :: r, done, T, H, c, n, e, hn => by
  have hd : l.length = done.length + (r.length + 1) := by simp [e]
  have m1 : (l.map Red.enc).length = l.length := by simp
  have hx : (l.map Red.enc)[n.toNat]? = some x.enc := by simp [e, hn]
  have h1 := jF s hs x.pol
  have h2 := yZ x.src
  have h3 := xV x.src
  have ih := fun T H c => rA s hs l hl r (done ++ [x]) T H c (n + 1) (by simp [e]) (by simp [hn])
  rw [bh, OX]
  by_cases a1 : x.src < 1
  ·rw [if_pos a1, if_neg (by decide)]
   refine evl ?_
   repeat' (first | refine ae ?_ | (refine ab ?_ ?_ <;> intro h))
   refine ag ?_; rfl
  by_cases a2 : 7 < x.src
  ·rw [if_neg a1, if_pos a2, if_neg (by decide)]
   refine evl ?_
   repeat' (first | refine ae ?_ | (refine ab ?_ ?_ <;> intro h))
   refine ag ?_; rfl
  rw [if_neg a1, if_neg a2]
  by_cases d5 : x.dst = 5
  ·rw [if_pos d5]
   by_cases q : 3 ≤ x.src ∧ x.src ≤ 5
   ·rw [if_pos q, if_neg (by decide)]
    rw [decide_eq_true q] at h2
    refine evl ?_
    repeat' ((conv => whnf); first | refine bG d5 ?_ | refine ba d5 ?_ | refine aP ?_ | (refine ab ?_ ?_ <;> intro h))
    refine ag ?_; rfl
   rw [if_neg q]
   rw [decide_eq_false q] at h2
   have d6 : ¬ x.dst = 6 := by omega
   rw [Kx]
   by_cases m1 : x.metric < 0
   ·rw [if_pos m1, if_neg (by decide)]
    refine evl ?_
    repeat' ((conv => whnf); first | refine bG d5 ?_ | refine ba d5 ?_ | refine aQ d6 ?_ | refine aP ?_ | (refine ab ?_ ?_ <;> intro h))
    refine ag ?_; rfl
   by_cases m2 : 16777216 < x.metric
   ·rw [if_neg m1, if_pos m2, if_neg (by decide)]
    refine evl ?_
    repeat' ((conv => whnf); first | refine bG d5 ?_ | refine ba d5 ?_ | refine aQ d6 ?_ | refine aP ?_ | (refine ab ?_ ?_ <;> intro h))
    refine ag ?_; rfl
   rw [if_neg m1, if_neg m2, nc]
   by_cases hk : x.pol = []
   ·rw [decide_eq_true hk, Bool.not_true, Bool.false_and]
    simp only [Bool.false_eq_true, if_false, if_true]
    cases hf : gF s.pols x.pol with
    | none =>
     rw [hf, eW] at h1
     refine evl ?_
     repeat' ((conv => whnf); first | refine bG d5 ?_ | refine ba d5 ?_ | refine aQ d6 ?_ | refine Ko hk ?_ | refine aP ?_ | (refine ab ?_ ?_ <;> intro h))
     refine am [20, 2, 18, 19] [66] ?_
     exact ih _ _ _
    | some v =>
     rw [hf, eW] at h1
     refine evl ?_
     repeat' ((conv => whnf); first | refine bG d5 ?_ | refine ba d5 ?_ | refine aQ d6 ?_ | refine Ko hk ?_ | refine aP ?_ | (refine ab ?_ ?_ <;> intro h))
     refine am [20, 2, 18, 19] [66] ?_
     exact ih _ _ _
   ·rw [decide_eq_false hk, Bool.not_false, Bool.true_and]
    cases hf : gF s.pols x.pol with
    | none =>
     rw [hf, eW] at h1
     simp only [Option.isNone_none, if_true]
     rw [if_neg (by decide)]
     refine evl ?_
     repeat' ((conv => whnf); first | refine bG d5 ?_ | refine ba d5 ?_ | refine aQ d6 ?_ | refine jA hk ?_ | refine aP ?_ | (refine ab ?_ ?_ <;> intro h))
     refine ag ?_; rfl
    | some v =>
     rw [hf, eW] at h1
     simp only [Option.isNone_some, Bool.false_eq_true, if_false, if_true]
     refine evl ?_
     repeat' ((conv => whnf); first | refine bG d5 ?_ | refine ba d5 ?_ | refine aQ d6 ?_ | refine jA hk ?_ | refine aP ?_ | (refine ab ?_ ?_ <;> intro h))
     refine am [20, 2, 18, 19] [66] ?_
     exact ih _ _ _
  rw [if_neg d5]
  by_cases d6 : x.dst = 6
  ·rw [if_pos d6]
   by_cases q : x.src = 6 ∨ x.src = 7
   ·rw [if_pos q, if_neg (by decide)]
    rw [decide_eq_true q] at h3
    refine evl ?_
    repeat' ((conv => whnf); first | refine cm d5 ?_ | refine bG d6 ?_ | refine aQ d5 ?_ | refine ba d6 ?_ | refine aP ?_ | (refine ab ?_ ?_ <;> intro h))
    refine ag ?_; rfl
   rw [if_neg q]
   rw [decide_eq_false q] at h3
   rw [Kx]
   by_cases m1 : x.metric < 0
   ·rw [if_pos m1, if_neg (by decide)]
    refine evl ?_
    repeat' ((conv => whnf); first | refine cm d5 ?_ | refine bG d6 ?_ | refine aQ d5 ?_ | refine ba d6 ?_ | refine aP ?_ | (refine ab ?_ ?_ <;> intro h))
    refine ag ?_; rfl
   by_cases m2 : 16777216 < x.metric
   ·rw [if_neg m1, if_pos m2, if_neg (by decide)]
    refine evl ?_
    repeat' ((conv => whnf); first | refine cm d5 ?_ | refine bG d6 ?_ | refine aQ d5 ?_ | refine ba d6 ?_ | refine aP ?_ | (refine ab ?_ ?_ <;> intro h))
    refine ag ?_; rfl
   rw [if_neg m1, if_neg m2, nc]
   by_cases hk : x.pol = []
   ·rw [decide_eq_true hk, Bool.not_true, Bool.false_and]
    simp only [Bool.false_eq_true, if_false, if_true]
    cases hf : gF s.pols x.pol with
    | none =>
     rw [hf, eW] at h1
     refine evl ?_
     repeat' ((conv => whnf); first | refine cm d5 ?_ | refine bG d6 ?_ | refine aQ d5 ?_ | refine ba d6 ?_ | refine Ko hk ?_ | refine aP ?_ | (refine ab ?_ ?_ <;> intro h))
     refine am [20, 2, 18, 19] [66] ?_
     exact ih _ _ _
    | some v =>
     rw [hf, eW] at h1
     refine evl ?_
     repeat' ((conv => whnf); first | refine cm d5 ?_ | refine bG d6 ?_ | refine aQ d5 ?_ | refine ba d6 ?_ | refine Ko hk ?_ | refine aP ?_ | (refine ab ?_ ?_ <;> intro h))
     refine am [20, 2, 18, 19] [66] ?_
     exact ih _ _ _
   ·rw [decide_eq_false hk, Bool.not_false, Bool.true_and]
    cases hf : gF s.pols x.pol with
    | none =>
     rw [hf, eW] at h1
     simp only [Option.isNone_none, if_true]
     rw [if_neg (by decide)]
     refine evl ?_
     repeat' ((conv => whnf); first | refine cm d5 ?_ | refine bG d6 ?_ | refine aQ d5 ?_ | refine ba d6 ?_ | refine jA hk ?_ | refine aP ?_ | (refine ab ?_ ?_ <;> intro h))
     refine ag ?_; rfl
    | some v =>
     rw [hf, eW] at h1
     simp only [Option.isNone_some, Bool.false_eq_true, if_false, if_true]
     refine evl ?_
     repeat' ((conv => whnf); first | refine cm d5 ?_ | refine bG d6 ?_ | refine aQ d5 ?_ | refine ba d6 ?_ | refine jA hk ?_ | refine aP ?_ | (refine ab ?_ ?_ <;> intro h))
     refine am [20, 2, 18, 19] [66] ?_
     exact ih _ _ _
  ·rw [if_neg d6, if_neg (by decide)]
   refine evl ?_
   repeat' ((conv => whnf); first | refine cm d5 ?_ | refine cm d6 ?_ | refine aP ?_ | (refine ab ?_ ?_ <;> intro h))
   refine ag ?_; rfl
theorem yn (s : PSet) (hs : s.good) (l : List Red) (hl : l.length < 2 ^ 40) : ax G 446 [.agg s.enc, .sl 5 (l.map Red.enc)] [] ⟨.int .i64 (m8 s l), []⟩ := by
 have h1 := jX s hs
 have m1 : (l.map Red.enc).length = l.length := by simp
 rw [m8]
 by_cases k : ft s = 0
 ·rw [if_pos k]
  rw [k] at h1
  by_cases a : 64 < l.length
  ·rw [if_pos a]
   have a' : (l.length : Int) > 64 := by omega
   refine aa (F := f446) rfl rfl (ah 300 _ _ _ _ ?_)
   repeat' ((conv => whnf); first | refine bG rfl ?_ | refine aP ?_ | (refine ab ?_ ?_ <;> intro h))
   refine ag ?_; rfl
  ·rw [if_neg a]
   have a' : ¬ (l.length : Int) > 64 := by omega
   refine aa (F := f446) rfl rfl (ah 300 _ _ _ _ ?_)
   repeat' ((conv => whnf); first | refine bG rfl ?_ | refine aP ?_ | (refine ab ?_ ?_ <;> intro h))
   refine am [20, 2, 18, 19] [66] ?_
   rw [m1]
   exact rA s hs.d l hl l [] _ _ _ 0 rfl rfl
 ·rw [if_neg k]
  generalize ft s = E at *
  refine aa (F := f446) rfl rfl (ah 300 _ _ _ _ ?_)
  repeat' ((conv => whnf); first | refine cm k ?_ | refine aP ?_ | (refine ab ?_ ?_ <;> intro h))
  refine ag ?_; rfl
end Go.AM.IR
namespace Go.AM.IR
def d7E (q : RConf) : Int := if q.dists.length = 0 then 0 else if q.dists.length = 7 then 0 else 1
def dsF (q : RConf) : List Int → Int
 | [] => d7E q
 | x :: r => if x < 0 then 1 else if 255 < x then 1 else dsF q r
def stF (q : RConf) : List Stat → Int
 | [] => dsF q q.dists
 | x :: r => if aU x.pfx = false then 1 else if x.dist < 0 then 1 else if 255 < x.dist then 1 else stF q r
theorem wt (q : RConf) (hl : q.dists.length < 2 ^ 40) (g9 : Nat) : ∀ (rest done : List Int) (T : List (Nat × AV)) (H : aq) (c : Nat) (n : Int) (e : q.dists = done ++ rest) (hn : n = done.length),
  Ev G ⟨NF, ⟨(117, .int .i64 n) :: (5, .ref 69 g9 0) :: (116, .int .i64 q.dists.length) :: T, (69, some (g9, .cells q.enc)) :: H, c⟩, [.t 4], 0⟩ ⟨.int .i64 (dsF q rest), []⟩
 | [], done, T, H, c, n, e, hn => by
  have hd : q.dists.length = done.length := by simp [e]
  have m1 : (q.dists.map gj).length = q.dists.length := by simp
  rw [dsF, d7E]
  by_cases a : (q.dists.length : Int) = 0
  ·rw [if_pos (by omega)]
   refine evl ?_
   repeat' ((conv => whnf); first | refine bG a ?_ | refine aP ?_ | (refine ab ?_ ?_ <;> intro h))
   refine ag ?_; rfl
  by_cases b : (q.dists.length : Int) = 7
  ·rw [if_neg (by omega), if_pos (by omega)]
   have b0 : (q.dists.length : Int) = 7 := b
   refine evl ?_
   repeat' ((conv => whnf); first | refine cm a ?_ | refine bG b ?_ | refine aP ?_ | (refine ab ?_ ?_ <;> intro h))
   refine ag ?_; rfl
  ·rw [if_neg (by omega), if_neg (by omega)]
   refine evl ?_
   repeat' ((conv => whnf); first | refine cm a ?_ | refine cm b ?_ | refine aP ?_ | (refine ab ?_ ?_ <;> intro h))
   refine ag ?_; rfl
 | x :: r, done, T, H, c, n, e, hn => by
  have hd : q.dists.length = done.length + (r.length + 1) := by simp [e]
  have m1 : (q.dists.map gj).length = q.dists.length := by simp
  have hx : (q.dists.map gj)[n.toNat]? = some (gj x) := by simp [e, hn]
  rw [dsF]
  by_cases a : x < 0
  ·rw [if_pos a]
   refine evl ?_
   repeat' (first | refine ae ?_ | (refine ab ?_ ?_ <;> intro h))
   refine ag ?_; rfl
  by_cases b : 255 < x
  ·rw [if_neg a, if_pos b]
   refine evl ?_
   repeat' (first | refine ae ?_ | (refine ab ?_ ?_ <;> intro h))
   refine ag ?_; rfl
  rw [if_neg a, if_neg b]
  refine evl ?_
  repeat' (first | refine ae ?_ | (refine ab ?_ ?_ <;> intro h))
  refine am [117, 5, 116] [69] ?_
  exact wt q hl g9 r (done ++ [x]) _ _ _ (n + 1) (by simp [e]) (by simp [hn])
theorem mW (q : RConf) (hl : q.dists.length < 2 ^ 40) (hs : q.stat.length < 2 ^ 40) (hok : ∀ x ∈ q.stat, x.ok) (g9 : Nat) : ∀ (rest done : List Stat) (T : List (Nat × AV)) (H : aq) (c : Nat) (n : Int) (e : q.stat = done ++ rest) (hn : n = done.length),
  Ev G ⟨NG, ⟨(91, .int .i64 n) :: (5, .ref 69 g9 0) :: (90, .int .i64 q.stat.length) :: T, (69, some (g9, .cells q.enc)) :: H, c⟩, [.t 4], 0⟩ ⟨.int .i64 (stF q rest), []⟩
 | [], done, T, H, c, n, e, hn => by
  have hd : q.stat.length = done.length := by simp [e]
  have m1 : (q.dists.map gj).length = q.dists.length := by simp
  rw [stF]
  refine evl ?_
  repeat' (first | refine ae ?_ | (refine ab ?_ ?_ <;> intro h))
  refine am [117, 5, 116] [69] ?_
  rw [m1]
  exact wt q hl g9 q.dists [] _ _ _ 0 rfl rfl
 | x :: r, done, T, H, c, n, e, hn => by
  have hd : q.stat.length = done.length + (r.length + 1) := by simp [e]
  have m1 : (q.stat.map Stat.enc).length = q.stat.length := by simp
  have hx : (q.stat.map Stat.enc)[n.toNat]? = some x.enc := by simp [e, hn]
  have f1 : ax G 179 [.agg [.int .u32 x.pfx.addr, .int .i64 x.pfx.len]] [] ⟨.bool (aU x.pfx), []⟩ := bI x.pfx (hok x (by simp [e])).1
  rw [stF]
  cases vx : aU x.pfx with
  | false =>
   rw [vx] at f1
   rw [if_pos rfl]
   refine evl ?_
   repeat' (first | refine ae ?_ | (refine ab ?_ ?_ <;> intro h))
   refine ag ?_; rfl
  | true =>
  rw [vx] at f1
  rw [if_neg (by simp)]
  by_cases a : x.dist < 0
  ·rw [if_pos a]
   refine evl ?_
   repeat' (first | refine ae ?_ | (refine ab ?_ ?_ <;> intro h))
   refine ag ?_; rfl
  by_cases b : 255 < x.dist
  ·rw [if_neg a, if_pos b]
   refine evl ?_
   repeat' (first | refine ae ?_ | (refine ab ?_ ?_ <;> intro h))
   refine ag ?_; rfl
  rw [if_neg a, if_neg b]
  refine evl ?_
  repeat' (first | refine ae ?_ | (refine ab ?_ ?_ <;> intro h))
  refine am [91, 5, 90] [69] ?_
  exact mW q hl hs hok g9 r (done ++ [x]) _ _ _ (n + 1) (by simp [e]) (by simp [hn])
end Go.AM.IR
namespace Go.AM.IR
def m1E (q : RConf) : Int := if m8 q.pv.pols q.redist = 0 then stF q q.stat else m8 q.pv.pols q.redist
def PQ (q : RConf) : Int := if q.hasPV = false then (if ft q.pv.pols = 0 then m1E q else 1) else if pvE q.pv = 0 then (if q.pv.router = q.ls.router then m1E q else 14) else pvE q.pv
structure RConf.good (q : RConf) : Prop where
 pv : q.pv.good
 name : q.name.length < 2 ^ 40
 ifs : q.ls.ifs.length < 2 ^ 40
 rgs : q.ls.ranges.length < 2 ^ 40
 ifo : ∀ x ∈ q.ls.ifs, x.ok
 rgo : ∀ x ∈ q.ls.ranges, x.pfx.ok
 red : q.redist.length < 2 ^ 40
 stat : q.stat.length < 2 ^ 40
 sto : ∀ x ∈ q.stat, x.ok
 dists : q.dists.length < 2 ^ 40
theorem u5 (t : Topo) (ht : t.routers.length < 2 ^ 40) (i : Nat) (hi : i < t.routers.length) (q : RConf) (gd : q.good) (g9 : Nat) : ∀ (f k : Nat) (T : List (Nat × AV)) (H : aq) (c : Nat) (hk : k + f = i),
  Ev G ⟨NH, ⟨(39, .int .i64 (k : Int)) :: (5, .ref 69 g9 0) :: (2, .ref 66 1 0) :: (38, .int .i64 (i : Int)) :: T, (66, some (1, .cells t.enc)) :: (69, some (g9, .cells q.enc)) :: H, c⟩, [.t 4], 0⟩ ⟨.int .i64 (if ((t.routers.take i).drop k).any (fun y => decide (y.ls.router = q.ls.router)) then 7 else PQ q), []⟩
 | 0, k, T, H, c, hk => by
  obtain rfl : k = i := by omega
  have h1 := jX q.pv.pols gd.pv.pols
  have h2 := Dc q.pv gd.pv
  have h3 := yn q.pv.pols gd.pv.pols q.redist gd.red
  have m1 : (q.stat.map Stat.enc).length = q.stat.length := by simp
  rw [show ((t.routers.take k).drop k) = [] from by simp, List.any_nil, if_neg (by simp), PQ]
  cases hb : q.hasPV with
  | false =>
   rw [if_pos rfl]
   by_cases k0 : ft q.pv.pols = 0
   ·rw [if_pos k0]
    rw [k0] at h1
    rw [m1E]
    by_cases r0 : m8 q.pv.pols q.redist = 0
    ·rw [if_pos r0]
     rw [r0] at h3
     refine evl ?_
     repeat' ((conv => whnf); first | refine bG rfl ?_ | refine aP ?_ | (refine ab ?_ ?_ <;> intro h))
     all_goals try (exfalso; simp_all only [Bool.false_eq_true, Bool.true_eq_false, Bool.not_true, Bool.not_false, not_true_eq_false]; done)
     refine am [91, 5, 90] [69] ?_
     rw [m1]
     exact mW q gd.dists gd.stat gd.sto g9 q.stat [] _ _ _ 0 rfl rfl
    ·rw [if_neg r0]
     generalize m8 q.pv.pols q.redist = E at *
     refine evl ?_
     repeat' ((conv => whnf); first | refine bG rfl ?_ | refine cm r0 ?_ | refine aP ?_ | (refine ab ?_ ?_ <;> intro h))
     all_goals try (exfalso; simp_all only [Bool.false_eq_true, Bool.true_eq_false, Bool.not_true, Bool.not_false, not_true_eq_false]; done)
     all_goals (refine ag ?_; rfl)
   ·rw [if_neg k0]
    generalize ft q.pv.pols = E at *
    refine evl ?_
    repeat' ((conv => whnf); first | refine cm k0 ?_ | refine aP ?_ | (refine ab ?_ ?_ <;> intro h))
    all_goals try (exfalso; simp_all only [Bool.false_eq_true, Bool.true_eq_false, Bool.not_true, Bool.not_false, not_true_eq_false]; done)
    all_goals (refine ag ?_; rfl)
  | true =>
   rw [if_neg (by simp)]
   by_cases k0 : pvE q.pv = 0
   ·rw [if_pos k0]
    rw [k0] at h2
    by_cases e : q.pv.router = q.ls.router
    ·rw [if_pos e]
     rw [m1E]
     by_cases r0 : m8 q.pv.pols q.redist = 0
     ·rw [if_pos r0]
      rw [r0] at h3
      refine evl ?_
      repeat' ((conv => whnf); first | refine bG e ?_ | refine bG rfl ?_ | refine aP ?_ | (refine ab ?_ ?_ <;> intro h))
      all_goals try (exfalso; simp_all only [Bool.false_eq_true, Bool.true_eq_false, Bool.not_true, Bool.not_false, not_true_eq_false]; done)
      refine am [91, 5, 90] [69] ?_
      rw [m1]
      exact mW q gd.dists gd.stat gd.sto g9 q.stat [] _ _ _ 0 rfl rfl
     ·rw [if_neg r0]
      generalize m8 q.pv.pols q.redist = E at *
      refine evl ?_
      repeat' ((conv => whnf); first | refine bG e ?_ | refine bG rfl ?_ | refine cm r0 ?_ | refine aP ?_ | (refine ab ?_ ?_ <;> intro h))
      all_goals try (exfalso; simp_all only [Bool.false_eq_true, Bool.true_eq_false, Bool.not_true, Bool.not_false, not_true_eq_false]; done)
      all_goals (refine ag ?_; rfl)
    ·rw [if_neg e]
     refine evl ?_
     repeat' ((conv => whnf); first | refine cm e ?_ | refine bG rfl ?_ | refine aP ?_ | (refine ab ?_ ?_ <;> intro h))
     all_goals try (exfalso; simp_all only [Bool.false_eq_true, Bool.true_eq_false, Bool.not_true, Bool.not_false, not_true_eq_false]; done)
     all_goals (refine ag ?_; rfl)
   ·rw [if_neg k0]
    generalize pvE q.pv = E at *
    refine evl ?_
    repeat' ((conv => whnf); first | refine cm k0 ?_ | refine aP ?_ | (refine ab ?_ ?_ <;> intro h))
    all_goals try (exfalso; simp_all only [Bool.false_eq_true, Bool.true_eq_false, Bool.not_true, Bool.not_false, not_true_eq_false]; done)
    all_goals (refine ag ?_; rfl)
 | f + 1, k, T, H, c, hk => by
  obtain ⟨y, hy⟩ : ∃ y, t.routers[k]? = some y := ⟨t.routers[k], List.getElem?_eq_getElem (by omega)⟩
  have hki : (k : Int) < (i : Int) := by omega
  have m1 : (t.routers.map RConf.enc).length = t.routers.length := by simp
  have hy1 : (t.routers.map RConf.enc)[((k : Nat) : Int).toNat]? = some y.enc := by simp [hy]
  have hd : (t.routers.take i).drop k = y :: (t.routers.take i).drop (k + 1) := by
   have h0 : (t.routers.take i)[k]? = some y := by rw [List.getElem?_take_of_lt (by omega)]; exact hy
   obtain ⟨hlt, hge⟩ := List.getElem?_eq_some_iff.1 h0
   rw [List.drop_eq_getElem_cons hlt, hge]
  rw [hd]
  by_cases e : y.ls.router = q.ls.router
  ·rw [if_pos (by simp [e])]
   refine evl ?_
   repeat' ((conv => whnf); first | refine ba e ?_ | refine aP ?_ | (refine ab ?_ ?_ <;> intro h))
   refine ag ?_; rfl
  ·rw [List.any_cons, decide_eq_false e, Bool.false_or]
   refine evl ?_
   repeat' ((conv => whnf); first | refine aQ e ?_ | refine aP ?_ | (refine ab ?_ ?_ <;> intro h))
   refine am [39, 5, 2, 38] [66, 69] ?_
   exact u5 t ht i hi q gd g9 f (k + 1) _ _ _ (by omega)
end Go.AM.IR
namespace Go.AM.IR
deriving instance DecidableEq for LEnd
def kg (t : Topo) (prev : List Lnk) : List LEnd → List LEnd → Int
 | _, [] => 0
 | d, x :: r => if fH t x = none then 5 else if ∃ y ∈ prev, x ∈ y.ends then 7 else if x ∈ d then 7 else if ∃ y ∈ d, y.router = x.router then 1 else kg t prev (d ++ [x]) r
theorem en33 (t : Topo) (l : List LEnd) (hl : l.length < 2 ^ 40) (i : Nat) (hi : i < 2 ^ 40) (ln : Int) (d : Nat) (x : LEnd) (hd : d < l.length) (hx : l[d]? = some x) (R : Ret)
  (go : ¬ (∃ y ∈ l.take d, y.router = x.router) → ∀ (T : List (Nat × AV)) (H : aq) (c : Nat), Ev G ⟨vV, ⟨(21, .int .i64 ((d : Int) + 1)) :: (5, .sl 2 (l.map LEnd.enc)) :: (2, .ref 66 1 0) :: (1, .int .i64 (i : Int)) :: (20, .int .i64 ln) :: T, (66, some (1, .cells t.enc)) :: H, c⟩, [.t 4], 0⟩ R)
  (hR : (∃ y ∈ l.take d, y.router = x.router) → R = ⟨.int .i64 1, []⟩) : ∀ (f k : Nat) (T : List (Nat × AV)) (H : aq) (c : Nat) (hk : k + f = d) (hP : ¬ (∃ y ∈ l.take k, y.router = x.router)),
  Ev G ⟨vY, ⟨(80, .int .i64 (k : Int)) :: (79, .int .i64 (d : Int)) :: (5, .sl 2 (l.map LEnd.enc)) :: (2, .ref 66 1 0) :: (1, .int .i64 (i : Int)) :: (20, .int .i64 ln) :: (21, .int .i64 (d : Int)) :: (6, .int .i64 (d : Int)) :: T, (66, some (1, .cells t.enc)) :: H, c⟩, [.t 4], 0⟩ R
 | 0, k, T, H, c, hk, hP => by
  obtain rfl : k = d := by omega
  refine evl ?_
  repeat' (first | refine ae ?_ | (refine ab ?_ ?_ <;> intro h))
  refine am [21, 5, 2, 1, 20] [66] ?_
  exact go hP _ _ _
 | f + 1, k, T, H, c, hk, hP => by
  have hkl : k < l.length := by omega
  obtain ⟨y, hy⟩ : ∃ y, l[k]? = some y := ⟨l[k], List.getElem?_eq_getElem hkl⟩
  have ht : l.take (k + 1) = l.take k ++ [y] := by rw [List.take_add_one, hy]; rfl
  have hsub : ∀ z, z ∈ l.take (k + 1) → z ∈ l.take d := fun z hz => List.mem_of_mem_take (i := k + 1) (by rw [List.take_take, Nat.min_eq_left (by omega)]; exact hz)
  have hx1 : (l.map LEnd.enc)[((d : Nat) : Int).toNat]? = some x.enc := by simp [hx]
  have hy1 : (l.map LEnd.enc)[((k : Nat) : Int).toNat]? = some y.enc := by simp [hy]
  have hll : (l.map LEnd.enc).length = l.length := by simp
  by_cases h : y.router = x.router
  ·rw [hR ⟨y, hsub y (by rw [ht]; simp), h⟩]
   refine evl ?_
   repeat' (first | refine ae ?_ | (refine ab ?_ ?_ <;> intro h))
   refine ag ?_; rfl
  ·refine evl ?_
   repeat' (first | refine ae ?_ | (refine ab ?_ ?_ <;> intro h))
   refine am [80, 79, 5, 2, 1, 20, 21, 6] [66] ?_
   exact en33 t l hl i hi ln d x hd hx R go hR f (k + 1) _ _ _ (by omega) (by
    rw [ht]; rintro ⟨z, hz, e⟩
    rcases List.mem_append.1 hz with hz | hz
    ·exact hP ⟨z, hz, e⟩
    ·simp only [List.mem_singleton] at hz; subst hz; exact h e)
theorem Qz (t : Topo) (l : List LEnd) (hl : l.length < 2 ^ 40) (i : Nat) (hi : i < 2 ^ 40) (ln : Int) (d : Nat) (x : LEnd) (hd : d < l.length) (hx : l[d]? = some x) (R : Ret)
  (go : ¬ (x ∈ l.take d) → ∀ (T : List (Nat × AV)) (H : aq) (c : Nat), Ev G ⟨vY, ⟨(80, .int .i64 0) :: (79, .int .i64 (d : Int)) :: (5, .sl 2 (l.map LEnd.enc)) :: (2, .ref 66 1 0) :: (1, .int .i64 (i : Int)) :: (20, .int .i64 ln) :: (21, .int .i64 (d : Int)) :: (6, .int .i64 (d : Int)) :: T, (66, some (1, .cells t.enc)) :: H, c⟩, [.t 4], 0⟩ R)
  (hR : (x ∈ l.take d) → R = ⟨.int .i64 7, []⟩) : ∀ (f k : Nat) (T : List (Nat × AV)) (H : aq) (c : Nat) (hk : k + f = d) (hP : ¬ (x ∈ l.take k)),
  Ev G ⟨vZ, ⟨(66, .int .i64 (k : Int)) :: (65, .int .i64 (d : Int)) :: (5, .sl 2 (l.map LEnd.enc)) :: (2, .ref 66 1 0) :: (1, .int .i64 (i : Int)) :: (20, .int .i64 ln) :: (21, .int .i64 (d : Int)) :: (6, .int .i64 (d : Int)) :: T, (66, some (1, .cells t.enc)) :: H, c⟩, [.t 4], 0⟩ R
 | 0, k, T, H, c, hk, hP => by
  obtain rfl : k = d := by omega
  refine evl ?_
  repeat' (first | refine ae ?_ | (refine ab ?_ ?_ <;> intro h))
  refine am [80, 79, 5, 2, 1, 20, 21, 6] [66] ?_
  exact go hP _ _ _
 | f + 1, k, T, H, c, hk, hP => by
  have hkl : k < l.length := by omega
  obtain ⟨y, hy⟩ : ∃ y, l[k]? = some y := ⟨l[k], List.getElem?_eq_getElem hkl⟩
  have ht : l.take (k + 1) = l.take k ++ [y] := by rw [List.take_add_one, hy]; rfl
  have hsub : ∀ z, z ∈ l.take (k + 1) → z ∈ l.take d := fun z hz => List.mem_of_mem_take (i := k + 1) (by rw [List.take_take, Nat.min_eq_left (by omega)]; exact hz)
  have hx1 : (l.map LEnd.enc)[((d : Nat) : Int).toNat]? = some x.enc := by simp [hx]
  have hy1 : (l.map LEnd.enc)[((k : Nat) : Int).toNat]? = some y.enc := by simp [hy]
  have hll : (l.map LEnd.enc).length = l.length := by simp
  by_cases h : y = x
  ·subst h
   rw [hR (hsub y (by rw [ht]; simp))]
   refine evl ?_
   repeat' (first | refine ae ?_ | (refine ab ?_ ?_ <;> intro h))
   refine ag ?_; rfl
  ·have hP' : ¬ x ∈ l.take (k + 1) := by
    rw [ht]; intro hz
    rcases List.mem_append.1 hz with hz | hz
    ·exact hP hz
    ·simp only [List.mem_singleton] at hz; exact h hz.symm
   have h' : ¬ (y.router = x.router ∧ y.ifc = x.ifc) := by
    rintro ⟨e1, e2⟩; apply h; cases y; cases x; simp_all
   by_cases h1 : y.router = x.router
   ·have h2 : ¬ y.ifc = x.ifc := fun e => h' ⟨h1, e⟩
    refine evl ?_
    repeat' (first | refine ae ?_ | (refine ab ?_ ?_ <;> intro h))
    refine am [66, 65, 5, 2, 1, 20, 21, 6] [66] ?_
    exact Qz t l hl i hi ln d x hd hx R go hR f (k + 1) _ _ _ (by omega) hP'
   ·refine evl ?_
    repeat' (first | refine ae ?_ | (refine ab ?_ ?_ <;> intro h))
    refine am [66, 65, 5, 2, 1, 20, 21, 6] [66] ?_
    exact Qz t l hl i hi ln d x hd hx R go hR f (k + 1) _ _ _ (by omega) hP'
theorem QB (l2 : List LEnd) (t : Topo) (htl : t.links.length < 2 ^ 40) (l : List LEnd) (hl0 : l.length < 2 ^ 40) (i : Nat) (hi : i < t.links.length) (ln0 : Int) (d : Nat) (w : LEnd) (hd0 : d < l.length) (hx0 : l[d]? = some w) (R : Ret) (j : Nat) (hj : j < i) (lk : Lnk) (hlk : t.links[j]? = some lk) (hl2 : lk.ends = l2) (go : ¬ w ∈ l2 → ∀ (T : List (Nat × AV)) (H : aq) (c : Nat), Ev G ⟨v6, ⟨(36, .int .i64 ((j : Int) + 1)) :: (35, .int .i64 (i : Int)) :: (5, .sl 2 (l.map LEnd.enc)) :: (2, .ref 66 1 0) :: (1, .int .i64 (i : Int)) :: (20, .int .i64 ln0) :: (21, .int .i64 (d : Int)) :: (6, .int .i64 (d : Int)) :: T, (66, some (1, .cells t.enc)) :: H, c⟩, [.t 4], 0⟩ R) (hR : w ∈ l2 → R = ⟨.int .i64 7, []⟩) (hl : l2.length < 2 ^ 40) (ln : Int) (hln : ln = l2.length) : ∀ (rest done : List LEnd)  (T : List (Nat × AV)) (H : aq) (c : Nat) (n : Int) (e : l2 = done ++ rest) (hn : n = done.length) (hP : ¬ w ∈ done), Ev G ⟨Na, ⟨(44, .sl 2 (l2.map LEnd.enc)) :: (45, .int .i64 ln) :: (46, .int .i64 n) :: (36, .int .i64 (j : Int)) :: (35, .int .i64 (i : Int)) :: (9, .int .i64 (j : Int)) :: (5, .sl 2 (l.map LEnd.enc)) :: (2, .ref 66 1 0) :: (1, .int .i64 (i : Int)) :: (20, .int .i64 ln0) :: (21, .int .i64 (d : Int)) :: (6, .int .i64 (d : Int)) :: T, (66, some (1, .cells t.enc)) :: H, c⟩, [.t 4], 0⟩ R
 | [], done,  T, H, c, n, e, hn, hP => by
  have hd : l2.length = done.length := by simp [e]
  have hll : (l2.map LEnd.enc).length = l2.length := by simp
  obtain rfl : l2 = done := by simp [e]
  refine evl ?_
  repeat' (first | refine ae ?_ | (refine ab ?_ ?_ <;> intro h))
  refine am [36, 35, 5, 2, 1, 20, 21, 6] [66] ?_
  exact go hP _ _ _
 | x :: r, done,  T, H, c, n, e, hn, hP => by
  have hd : l2.length = done.length + (r.length + 1) := by simp [e]
  have hll : (l2.map LEnd.enc).length = l2.length := by simp
  have hx : (l2.map LEnd.enc)[n.toNat]? = some (LEnd.enc x) := by simp [e, hn]
  have hx1 : (l.map LEnd.enc)[((d : Nat) : Int).toNat]? = some w.enc := by simp [hx0]
  have hl1 : (l.map LEnd.enc).length = l.length := by simp
  have hy1 : (t.links.map Lnk.enc)[((j : Nat) : Int).toNat]? = some lk.enc := by simp [hlk]
  have hy2 : (t.links.map Lnk.enc).length = t.links.length := by simp
  have hz1 : (lk.ends.map LEnd.enc)[n.toNat]? = some x.enc := by rw [hl2]; exact hx
  have hz2 : (lk.ends.map LEnd.enc).length = l2.length := by simp [hl2]
  by_cases h : x = w
  ·subst h
   rw [hR (by rw [e]; simp)]
   refine evl ?_
   repeat' (first | refine ae ?_ | (refine ab ?_ ?_ <;> intro h))
   refine ag ?_; rfl
  ·have hP' : ¬ w ∈ done ++ [x] := by
    intro hz
    rcases List.mem_append.1 hz with hz | hz
    ·exact hP hz
    ·simp only [List.mem_singleton] at hz; exact h hz.symm
   have h' : ¬ (x.router = w.router ∧ x.ifc = w.ifc) := by
    rintro ⟨e1, e2⟩; apply h; cases x; cases w; simp_all
   by_cases h1 : x.router = w.router
   ·have h2 : ¬ x.ifc = w.ifc := fun e => h' ⟨h1, e⟩
    refine evl ?_
    repeat' (first | refine ae ?_ | (refine ab ?_ ?_ <;> intro h))
    refine am [44, 45, 46, 36, 35, 9, 5, 2, 1, 20, 21, 6] [66] ?_; exact QB l2 t htl l hl0 i hi ln0 d w hd0 hx0 R j hj lk hlk hl2 go hR hl ln hln r (done ++ [x])  _ _ _ (n + 1) (by simp [e]) (by simp [hn] <;> omega) hP'
   ·refine evl ?_
    repeat' (first | refine ae ?_ | (refine ab ?_ ?_ <;> intro h))
    refine am [44, 45, 46, 36, 35, 9, 5, 2, 1, 20, 21, 6] [66] ?_; exact QB l2 t htl l hl0 i hi ln0 d w hd0 hx0 R j hj lk hlk hl2 go hR hl ln hln r (done ++ [x])  _ _ _ (n + 1) (by simp [e]) (by simp [hn] <;> omega) hP'
theorem en19 (t : Topo) (htl : t.links.length < 2 ^ 40) (l : List LEnd) (hl0 : l.length < 2 ^ 40) (i : Nat) (hi : i < t.links.length) (ln0 : Int) (d : Nat) (w : LEnd) (hd0 : d < l.length) (hx0 : l[d]? = some w) (R : Ret)
  (go : ¬ (∃ y ∈ t.links.take i, w ∈ y.ends) → ∀ (T : List (Nat × AV)) (H : aq) (c : Nat), Ev G ⟨vZ, ⟨(66, .int .i64 0) :: (65, .int .i64 (d : Int)) :: (5, .sl 2 (l.map LEnd.enc)) :: (2, .ref 66 1 0) :: (1, .int .i64 (i : Int)) :: (20, .int .i64 ln0) :: (21, .int .i64 (d : Int)) :: (6, .int .i64 (d : Int)) :: T, (66, some (1, .cells t.enc)) :: H, c⟩, [.t 4], 0⟩ R)
  (hR : (∃ y ∈ t.links.take i, w ∈ y.ends) → R = ⟨.int .i64 7, []⟩) (hel : ∀ y ∈ t.links, y.ends.length < 2 ^ 40) : ∀ (f k : Nat) (T : List (Nat × AV)) (H : aq) (c : Nat) (hk : k + f = i) (hP : ¬ (∃ y ∈ t.links.take k, w ∈ y.ends)),
  Ev G ⟨v6, ⟨(36, .int .i64 (k : Int)) :: (35, .int .i64 (i : Int)) :: (5, .sl 2 (l.map LEnd.enc)) :: (2, .ref 66 1 0) :: (1, .int .i64 (i : Int)) :: (20, .int .i64 ln0) :: (21, .int .i64 (d : Int)) :: (6, .int .i64 (d : Int)) :: T, (66, some (1, .cells t.enc)) :: H, c⟩, [.t 4], 0⟩ R
 | 0, k, T, H, c, hk, hP => by
  obtain rfl : k = i := by omega
  refine evl ?_
  repeat' (first | refine ae ?_ | (refine ab ?_ ?_ <;> intro h))
  refine am [66, 65, 5, 2, 1, 20, 21, 6] [66] ?_
  exact go hP _ _ _
 | f + 1, k, T, H, c, hk, hP => by
  have hkl : k < t.links.length := by omega
  obtain ⟨y, hy⟩ : ∃ y, t.links[k]? = some y := ⟨t.links[k], List.getElem?_eq_getElem hkl⟩
  have ht : t.links.take (k + 1) = t.links.take k ++ [y] := by rw [List.take_add_one, hy]; rfl
  have hsub : ∀ z, z ∈ t.links.take (k + 1) → z ∈ t.links.take i := fun z hz => List.mem_of_mem_take (i := k + 1) (by rw [List.take_take, Nat.min_eq_left (by omega)]; exact hz)
  have hy1 : (t.links.map Lnk.enc)[((k : Nat) : Int).toNat]? = some y.enc := by simp [hy]
  have hy2 : (t.links.map Lnk.enc).length = t.links.length := by simp
  have hy3 : (y.ends.map LEnd.enc).length = y.ends.length := by simp
  refine evl ?_
  repeat' (first | refine ae ?_ | (refine ab ?_ ?_ <;> intro h))
  refine am [44, 45, 46, 36, 35, 9, 5, 2, 1, 20, 21, 6] [66] ?_
  rw [hy3]
  exact QB y.ends t htl l hl0 i hi ln0 d w hd0 hx0 R k (by omega) y hy rfl (fun h T H c => en19 t htl l hl0 i hi ln0 d w hd0 hx0 R go hR hel f (k + 1) T H c (by omega) (by
   rw [ht]; rintro ⟨z, hz, hw⟩
   rcases List.mem_append.1 hz with hz | hz
   ·exact hP ⟨z, hz, hw⟩
   ·simp only [List.mem_singleton] at hz; subst hz; exact h hw)) (fun h => hR ⟨y, hsub y (by rw [ht]; simp), h⟩) (hel y (List.mem_of_getElem? hy)) _ rfl y.ends [] _ _ _ 0 rfl rfl (by simp)
theorem en35 (l : List LEnd) (t : Topo) (hrl : t.routers.length < 2 ^ 40) (hif : ∀ c ∈ t.routers, c.ls.ifs.length < 2 ^ 40) (htl : t.links.length < 2 ^ 40) (hel : ∀ y ∈ t.links, y.ends.length < 2 ^ 40) (i : Nat) (hi : i < t.links.length) (hl : l.length < 2 ^ 40) (ln : Int) (hln : ln = l.length) : ∀ (rest done : List LEnd)  (T : List (Nat × AV)) (H : aq) (c : Nat) (n : Int) (e : l = done ++ rest) (hn : n = done.length) , Ev G ⟨vV, ⟨(5, .sl 2 (l.map LEnd.enc)) :: (20, .int .i64 ln) :: (21, .int .i64 n) :: (2, .ref 66 1 0) :: (1, .int .i64 (i : Int)) :: T, (66, some (1, .cells t.enc)) :: H, c⟩, [.t 4], 0⟩ (⟨.int .i64 (kg t (t.links.take i) done rest), []⟩)
 | [], done,  T, H, c, n, e, hn => by
  have hd : l.length = done.length := by simp [e]
  have hll : (l.map LEnd.enc).length = l.length := by simp
  refine evl ?_
  repeat' (first | refine ae ?_ | (refine ab ?_ ?_ <;> intro h))
  refine ag ?_; rfl
 | x :: r, done,  T, H, c, n, e, hn => by
  have hd : l.length = done.length + (r.length + 1) := by simp [e]
  have hll : (l.map LEnd.enc).length = l.length := by simp
  have hx : (l.map LEnd.enc)[n.toNat]? = some (LEnd.enc x) := by simp [e, hn]
  have h1 := kL t x hrl hif
  have hg : l[done.length]? = some x := by simp [e]
  have ht : l.take done.length = done := by simp [e]
  rw [hn]
  rw [hn] at hx
  rcases ho : fH t x with _ | f
  ·rw [ho] at h1
   rw [kg, if_pos ho]
   simp only [r3] at h1
   refine evl ?_
   repeat' (first | refine ae ?_ | (refine ab ?_ ?_ <;> intro h))
   refine ag ?_; rfl
  ·rw [ho] at h1
   simp only [r3] at h1
   rw [kg, if_neg (by simp [ho])]
   refine evl ?_
   repeat' (first | refine ae ?_ | (refine ab ?_ ?_ <;> intro h))
   refine am [36, 35, 5, 2, 1, 20, 21, 6] [66] ?_
   refine en19 t htl l hl i hi ln done.length x (by omega) hg _ (fun g1 T H c => ?_) (fun g1 => by rw [if_pos g1]) hel i 0 _ _ _ (by omega) (by simp)
   refine Qz t l hl i (by omega) ln done.length x (by omega) hg _ (fun g2 T H c => ?_) (fun g2 => by rw [if_neg g1, if_pos (by rw [← ht]; exact g2)]) done.length 0 _ _ _ (by omega) (by simp)
   refine en33 t l hl i (by omega) ln done.length x (by omega) hg _ (fun g3 T H c => ?_) (fun g3 => by rw [if_neg g1, if_neg (by rw [← ht]; exact g2), if_pos (by rw [← ht]; exact g3)]) done.length 0 _ _ _ (by omega) (by simp)
   rw [ht] at g2 g3
   rw [if_neg g1, if_neg g2, if_neg g3]
   refine am [5, 20, 21, 2, 1] [66] ?_
   exact en35 l t hrl hif htl hel i hi hl ln hln r (done ++ [x]) _ _ _ (done.length + 1) (by simp [e]) (by simp)
theorem xg (t : Topo) (hrl : t.routers.length < 2 ^ 40) (hif : ∀ c ∈ t.routers, c.ls.ifs.length < 2 ^ 40) (htl : t.links.length < 2 ^ 40) (hel : ∀ y ∈ t.links, y.ends.length < 2 ^ 40) (i : Nat) (y : Lnk) (hy : t.links[i]? = some y) : ax G 447 [.agg t.enc, .int .i64 (i : Int)] [] ⟨.int .i64 (kg t (t.links.take i) [] y.ends), []⟩ := by
 have hi : i < t.links.length := (List.getElem?_eq_some_iff.1 hy).1
 have hy1 : (t.links.map Lnk.enc)[((i : Nat) : Int).toNat]? = some y.enc := by simp [hy]
 have hy2 : (t.links.map Lnk.enc).length = t.links.length := by simp
 have hy3 : (y.ends.map LEnd.enc).length = y.ends.length := by simp
 refine aa (F := f447) rfl rfl (ah 300 _ _ _ _ ?_)
 repeat' (first | refine ae ?_ | (refine ab ?_ ?_ <;> intro h))
 refine am [5, 20, 21, 2, 1] [66] ?_
 rw [hy3]
 exact en35 y.ends t hrl hif htl hel i hi (hel y (List.mem_of_getElem? hy)) _ rfl y.ends [] _ _ _ 0 rfl rfl
end Go.AM.IR
