/- What the functions of this program give, on the abstract machine. -/
import Derived.Test.YtomphmeopjpejaaGreatDoorDataE
import Derived.Test.YtomphmeopjpejaaGreatDoorDataL
import Derived.Test.YtomphmeopjpejaaGreatDoorDataK
set_option linter.unusedVariables false
set_option linter.unusedSimpArgs false
set_option maxHeartbeats 4000000
set_option maxRecDepth 20000
namespace Go.AM.IR
def aU {α : Type} (f : α → Int) : List α → Int
 | [] => 0
 | x :: r => if f x = 0 then aU f r else f x
def ey {α β : Type} (rule : β → Int) (name : α → List UInt8) (rules : α → List β) : List α → List UInt8 → Bool → Int
 | [], _, _ => 0
 | x :: r, b, fst => if dq (name x) b fst (rules x).length = 0 then (if aU rule (rules x) = 0 then ey rule name rules r (name x) false else aU rule (rules x)) else dq (name x) b fst (rules x).length
def ruE (r : RuleP) : Int := if bb r.pfx = true then (if r.min < r.pfx.len ∨ r.max < r.min ∨ r.max > 32 then 5 else 0) else 1
theorem yk (r : RuleP) (h : r.ok) : am G 326 [.agg r.enc] [] ⟨.int .i64 (ruE r), []⟩ := by
 have hv : am G 179 [.agg [.int .u32 r.pfx.addr, .int .i64 r.pfx.len]] [] ⟨.bool (bb r.pfx), []⟩ := ce r.pfx h.1
 unfold ruE
 cases hvp : bb r.pfx
 ·rw [hvp] at hv
  rw [if_neg (by simp)]
  refine aa (F := f326) rfl rfl (ag 300 _ _ _ _ ?_)
  repeat' (first | refine ae ?_ | (refine ab ?_ ?_ <;> intro h))
  refine ah ?_; rfl
 ·rw [hvp] at hv
  rw [if_pos rfl]
  by_cases h1 : r.min < r.pfx.len
  ·rw [if_pos (.inl h1)]
   refine aa (F := f326) rfl rfl (ag 300 _ _ _ _ ?_)
   repeat' (first | refine ae ?_ | (refine ab ?_ ?_ <;> intro h))
   refine ah ?_; rfl
  ·by_cases h2 : r.max < r.min
   ·rw [if_pos (.inr (.inl h2))]
    refine aa (F := f326) rfl rfl (ag 300 _ _ _ _ ?_)
    repeat' (first | refine ae ?_ | (refine ab ?_ ?_ <;> intro h))
    refine ah ?_; rfl
   ·by_cases h3 : r.max > 32
    ·rw [if_pos (.inr (.inr h3))]
     refine aa (F := f326) rfl rfl (ag 300 _ _ _ _ ?_)
     repeat' (first | refine ae ?_ | (refine ab ?_ ?_ <;> intro h))
     refine ah ?_; rfl
    ·rw [if_neg (by omega)]
     refine aa (F := f326) rfl rfl (ag 300 _ _ _ _ ?_)
     repeat' (first | refine ae ?_ | (refine ab ?_ ?_ <;> intro h))
     refine ah ?_; rfl
def paE (r : PathR) : Int := if (iL r.pattern).isSome then 0 else 2
theorem Jm (r : PathR) (h : r.pattern.length < 2 ^ 32) : ∃ (k lo hi : Int) (l : List Rx), am G 571 [.str r.pattern] [] ⟨.tup [.agg [.int .i64 k, .int .i64 lo, .int .i64 hi, .sl 4 (l.map Rx.enc)], .int .i64 (paE r)], []⟩ := by
 have h1 := rC r.pattern h
 unfold paE
 cases hq : iL r.pattern with
 | none =>
  rw [hq] at h1
  refine ⟨0, 0, 0, [], ?_⟩
  have e := aW 0 0 0 []
  have h2 : am G 571 [.str r.pattern] [] ⟨.tup [.agg rx0.enc, .int .i64 2], []⟩ := h1
  unfold rx0 at h2
  rw [e] at h2
  exact h2
 | some x =>
  rw [hq] at h1
  obtain ⟨k, lo, hi, l⟩ := x
  refine ⟨k, lo, hi, l, ?_⟩
  have h2 : am G 571 [.str r.pattern] [] ⟨.tup [.agg (Rx.mk k lo hi l).enc, .int .i64 0], []⟩ := h1
  rw [aW] at h2
  exact h2
theorem pJ (l2 : List RuleP) (hr : ∀ r ∈ l2, r.ok) (ls : List (List AV)) (len i : Int) (bf : List UInt8) (R : Ret) (go : aU ruE l2 = 0 → ∀ (T : List (Nat × AV)) (H : ay) (c : Nat), Ev G ⟨tq, ⟨(13, .sl 2 ls) :: (14, .int .i64 len) :: (15, .int .i64 (i + 1)) :: (3, .str bf) :: T, H, c⟩, [.t 2], 0⟩ R) (hi : 0 ≤ i ∧ i < 2 ^ 40) (hR : aU ruE l2 ≠ 0 → R = ⟨.int .i64 (aU ruE l2), []⟩) (hl : l2.length < 2 ^ 40) (ln : Int) (hln : ln = l2.length) : ∀ (rest done : List RuleP)  (T : List (Nat × AV)) (H : ay) (c : Nat) (n : Int) (e : l2 = done ++ rest) (hn : n = done.length) (hz : aU ruE rest = aU ruE l2), Ev G ⟨GU, ⟨(35, .sl 5 (l2.map RuleP.enc)) :: (36, .int .i64 ln) :: (37, .int .i64 n) :: (3, .str bf) :: (13, .sl 2 ls) :: (14, .int .i64 len) :: (15, .int .i64 i) :: T, H, c⟩, [.t 2], 0⟩ R
 | [], done,  T, H, c, n, e, hn, hz => by
  have hd : l2.length = done.length := by simp [e]
  have hll : (l2.map RuleP.enc).length = l2.length := by simp
  refine evl ?_
  repeat' (first | refine ae ?_ | (refine ab ?_ ?_ <;> intro h))
  refine aA [13, 14, 15, 3] [] ?_
  exact go (by rw [← hz]; rfl) _ _ _
 | x :: r, done,  T, H, c, n, e, hn, hz => by
  have hd : l2.length = done.length + (r.length + 1) := by simp [e]
  have hll : (l2.map RuleP.enc).length = l2.length := by simp
  have hx : (l2.map RuleP.enc)[n.toNat]? = some (RuleP.enc x) := by simp [e, hn]
  rw [aU] at hz
  have h1 := yk x (hr x (by simp [e]))
  generalize ruE x = E at *
  by_cases h0 : E = 0
  ·rw [if_pos h0] at hz
   subst h0
   refine evl ?_
   repeat' (first | refine ae ?_ | (refine ab ?_ ?_ <;> intro h))
   refine aA [35, 36, 37, 3, 13, 14, 15] [] ?_; exact pJ l2 hr ls len i bf R go hi hR hl ln hln r (done ++ [x])  _ _ _ (n + 1) (by simp [e]) (by simp [hn] <;> omega) hz
  ·rw [if_neg h0] at hz
   rw [hR (by rw [← hz]; exact h0), ← hz]
   refine evl ?_
   repeat' (first | refine ae ?_ | (refine ab ?_ ?_ <;> intro h))
   refine ah ?_; rfl
theorem qk (l : List PList) (hs : ∀ x ∈ l, x.name.length < 2 ^ 40 ∧ x.rules.length < 2 ^ 40 ∧ (∀ r ∈ x.rules, r.ok)) (hl : l.length < 2 ^ 40) (ln : Int) (hln : ln = l.length) : ∀ (rest done : List PList) (bf : List UInt8) (fst : Bool) (T : List (Nat × AV)) (H : ay) (c : Nat) (n : Int) (e : l = done ++ rest) (hn : n = done.length) (hf : (n == 0) = fst), Ev G ⟨tq, ⟨(13, .sl 2 (l.map PList.enc)) :: (14, .int .i64 ln) :: (15, .int .i64 n) :: (3, .str bf) :: T, H, c⟩, [.t 2], 0⟩ (⟨.int .i64 (ey ruE PList.name PList.rules rest bf fst), []⟩)
 | [], done, bf, fst, T, H, c, n, e, hn, hf => by
  have hd : l.length = done.length := by simp [e]
  have hll : (l.map PList.enc).length = l.length := by simp
  refine evl ?_
  repeat' (first | refine ae ?_ | (refine ab ?_ ?_ <;> intro h))
  refine ah ?_; rfl
 | x :: r, done, bf, fst, T, H, c, n, e, hn, hf => by
  have hd : l.length = done.length + (r.length + 1) := by simp [e]
  have hll : (l.map PList.enc).length = l.length := by simp
  have hx : (l.map PList.enc)[n.toNat]? = some (PList.enc x) := by simp [e, hn]
  obtain ⟨q1, q2, q3⟩ := hs x (by simp [e])
  have m1 : (x.rules.map RuleP.enc).length = x.rules.length := by simp
  have h1 := fF x.name bf q1 (n == 0) x.rules.length
  have hE : dq x.name bf (n == 0) x.rules.length = dq x.name bf fst x.rules.length := by rw [hf]
  rw [hE] at h1
  rw [← m1] at h1
  rw [ey, ← m1]
  generalize dq x.name bf fst (x.rules.map RuleP.enc).length = E at *
  by_cases h0 : E = 0
  ·rw [if_pos h0]
   subst h0
   refine evl ?_
   repeat' (first | refine ae ?_ | (refine ab ?_ ?_ <;> intro h))
   refine aA [35, 36, 37, 3, 13, 14, 15] [] ?_
   rw [m1]
   have hn1 : (n + 1 == 0) = false := by
    have : ¬ n + 1 = 0 := by omega
    simpa using this
   refine pJ x.rules q3 _ ln n x.name _ (fun hz T H c => ?_) (by omega) (fun hq => by rw [if_neg hq]) q2 _ rfl x.rules [] _ _ _ 0 rfl rfl rfl
   rw [if_pos hz]
   exact qk l hs hl ln hln r (done ++ [x]) x.name false T H c (n + 1) (by simp [e]) (by simp [hn] <;> omega) hn1
  ·rw [if_neg h0]
   refine evl ?_
   repeat' (first | refine ae ?_ | (refine ab ?_ ?_ <;> intro h))
   refine ah ?_; rfl
theorem pH (l2 : List PathR) (hr : ∀ r ∈ l2, r.pattern.length < 2 ^ 32) (ls : List (List AV)) (len i : Int) (bf : List UInt8) (R : Ret) (go : aU paE l2 = 0 → ∀ (T : List (Nat × AV)) (H : ay) (c : Nat), Ev G ⟨tp, ⟨(14, .sl 2 ls) :: (15, .int .i64 len) :: (16, .int .i64 (i + 1)) :: (3, .str bf) :: T, H, c⟩, [.t 2], 0⟩ R) (hi : 0 ≤ i ∧ i < 2 ^ 40) (hR : aU paE l2 ≠ 0 → R = ⟨.int .i64 (aU paE l2), []⟩) (hl : l2.length < 2 ^ 40) (ln : Int) (hln : ln = l2.length) : ∀ (rest done : List PathR)  (T : List (Nat × AV)) (H : ay) (c : Nat) (n : Int) (e : l2 = done ++ rest) (hn : n = done.length) (hz : aU paE rest = aU paE l2), Ev G ⟨GR, ⟨(36, .sl 2 (l2.map PathR.enc)) :: (37, .int .i64 ln) :: (38, .int .i64 n) :: (3, .str bf) :: (14, .sl 2 ls) :: (15, .int .i64 len) :: (16, .int .i64 i) :: T, H, c⟩, [.t 2], 0⟩ R
 | [], done,  T, H, c, n, e, hn, hz => by
  have hd : l2.length = done.length := by simp [e]
  have hll : (l2.map PathR.enc).length = l2.length := by simp
  refine evl ?_
  repeat' (first | refine ae ?_ | (refine ab ?_ ?_ <;> intro h))
  refine aA [14, 15, 16, 3] [] ?_
  exact go (by rw [← hz]; rfl) _ _ _
 | x :: r, done,  T, H, c, n, e, hn, hz => by
  have hd : l2.length = done.length + (r.length + 1) := by simp [e]
  have hll : (l2.map PathR.enc).length = l2.length := by simp
  have hx : (l2.map PathR.enc)[n.toNat]? = some (PathR.enc x) := by simp [e, hn]
  rw [aU] at hz
  obtain ⟨k0, lo0, hi0, l0, h1⟩ := Jm x (hr x (by simp [e]))
  generalize paE x = E at *
  by_cases h0 : E = 0
  ·rw [if_pos h0] at hz
   subst h0
   refine evl ?_
   repeat' (first | refine ae ?_ | (refine ab ?_ ?_ <;> intro h))
   refine aA [36, 37, 38, 3, 14, 15, 16] [] ?_; exact pH l2 hr ls len i bf R go hi hR hl ln hln r (done ++ [x])  _ _ _ (n + 1) (by simp [e]) (by simp [hn] <;> omega) hz
  ·rw [if_neg h0] at hz
   rw [hR (by rw [← hz]; exact h0), ← hz]
   refine evl ?_
   repeat' (first | refine ae ?_ | (refine ab ?_ ?_ <;> intro h))
   refine ah ?_; rfl
theorem qj (l : List PathL) (hs : ∀ x ∈ l, x.name.length < 2 ^ 40 ∧ x.rules.length < 2 ^ 40 ∧ (∀ r ∈ x.rules, r.pattern.length < 2 ^ 32)) (hl : l.length < 2 ^ 40) (ln : Int) (hln : ln = l.length) : ∀ (rest done : List PathL) (bf : List UInt8) (fst : Bool) (T : List (Nat × AV)) (H : ay) (c : Nat) (n : Int) (e : l = done ++ rest) (hn : n = done.length) (hf : (n == 0) = fst), Ev G ⟨tp, ⟨(14, .sl 2 (l.map PathL.enc)) :: (15, .int .i64 ln) :: (16, .int .i64 n) :: (3, .str bf) :: T, H, c⟩, [.t 2], 0⟩ (⟨.int .i64 (ey paE PathL.name PathL.rules rest bf fst), []⟩)
 | [], done, bf, fst, T, H, c, n, e, hn, hf => by
  have hd : l.length = done.length := by simp [e]
  have hll : (l.map PathL.enc).length = l.length := by simp
  refine evl ?_
  repeat' (first | refine ae ?_ | (refine ab ?_ ?_ <;> intro h))
  refine ah ?_; rfl
 | x :: r, done, bf, fst, T, H, c, n, e, hn, hf => by
  have hd : l.length = done.length + (r.length + 1) := by simp [e]
  have hll : (l.map PathL.enc).length = l.length := by simp
  have hx : (l.map PathL.enc)[n.toNat]? = some (PathL.enc x) := by simp [e, hn]
  obtain ⟨q1, q2, q3⟩ := hs x (by simp [e])
  have m1 : (x.rules.map PathR.enc).length = x.rules.length := by simp
  have h1 := fF x.name bf q1 (n == 0) x.rules.length
  have hE : dq x.name bf (n == 0) x.rules.length = dq x.name bf fst x.rules.length := by rw [hf]
  rw [hE] at h1
  rw [← m1] at h1
  rw [ey, ← m1]
  generalize dq x.name bf fst (x.rules.map PathR.enc).length = E at *
  by_cases h0 : E = 0
  ·rw [if_pos h0]
   subst h0
   refine evl ?_
   repeat' (first | refine ae ?_ | (refine ab ?_ ?_ <;> intro h))
   refine aA [36, 37, 38, 3, 14, 15, 16] [] ?_
   rw [m1]
   have hn1 : (n + 1 == 0) = false := by
    have : ¬ n + 1 = 0 := by omega
    simpa using this
   refine pH x.rules q3 _ ln n x.name _ (fun hz T H c => ?_) (by omega) (fun hq => by rw [if_neg hq]) q2 _ rfl x.rules [] _ _ _ 0 rfl rfl rfl
   rw [if_pos hz]
   exact qj l hs hl ln hln r (done ++ [x]) x.name false T H c (n + 1) (by simp [e]) (by simp [hn] <;> omega) hn1
  ·rw [if_neg h0]
   refine evl ?_
   repeat' (first | refine ae ?_ | (refine ab ?_ ?_ <;> intro h))
   refine ah ?_; rfl
theorem pG (l2 : List ComR) (hr : True) (ls : List (List AV)) (len i : Int) (bf : List UInt8) (R : Ret) (go : aU cW l2 = 0 → ∀ (T : List (Nat × AV)) (H : ay) (c : Nat), Ev G ⟨tn, ⟨(13, .sl 2 ls) :: (14, .int .i64 len) :: (15, .int .i64 (i + 1)) :: (3, .str bf) :: T, H, c⟩, [.t 2], 0⟩ R) (hi : 0 ≤ i ∧ i < 2 ^ 40) (hR : aU cW l2 ≠ 0 → R = ⟨.int .i64 (aU cW l2), []⟩) (hl : l2.length < 2 ^ 40) (ln : Int) (hln : ln = l2.length) : ∀ (rest done : List ComR)  (T : List (Nat × AV)) (H : ay) (c : Nat) (n : Int) (e : l2 = done ++ rest) (hn : n = done.length) (hz : aU cW rest = aU cW l2), Ev G ⟨GQ, ⟨(35, .sl 3 (l2.map ComR.enc)) :: (36, .int .i64 ln) :: (37, .int .i64 n) :: (3, .str bf) :: (13, .sl 2 ls) :: (14, .int .i64 len) :: (15, .int .i64 i) :: T, H, c⟩, [.t 2], 0⟩ R
 | [], done,  T, H, c, n, e, hn, hz => by
  have hd : l2.length = done.length := by simp [e]
  have hll : (l2.map ComR.enc).length = l2.length := by simp
  refine evl ?_
  repeat' (first | refine ae ?_ | (refine ab ?_ ?_ <;> intro h))
  refine aA [13, 14, 15, 3] [] ?_
  exact go (by rw [← hz]; rfl) _ _ _
 | x :: r, done,  T, H, c, n, e, hn, hz => by
  have hd : l2.length = done.length + (r.length + 1) := by simp [e]
  have hll : (l2.map ComR.enc).length = l2.length := by simp
  have hx : (l2.map ComR.enc)[n.toNat]? = some (ComR.enc x) := by simp [e, hn]
  rw [aU] at hz
  have h1 := xk x
  generalize cW x = E at *
  by_cases h0 : E = 0
  ·rw [if_pos h0] at hz
   subst h0
   refine evl ?_
   repeat' (first | refine ae ?_ | (refine ab ?_ ?_ <;> intro h))
   refine aA [35, 36, 37, 3, 13, 14, 15] [] ?_; exact pG l2 hr ls len i bf R go hi hR hl ln hln r (done ++ [x])  _ _ _ (n + 1) (by simp [e]) (by simp [hn] <;> omega) hz
  ·rw [if_neg h0] at hz
   rw [hR (by rw [← hz]; exact h0), ← hz]
   refine evl ?_
   repeat' (first | refine ae ?_ | (refine ab ?_ ?_ <;> intro h))
   refine ah ?_; rfl
theorem qi (l : List ComL) (hs : ∀ x ∈ l, x.name.length < 2 ^ 40 ∧ x.rules.length < 2 ^ 40 ∧ (True)) (hl : l.length < 2 ^ 40) (ln : Int) (hln : ln = l.length) : ∀ (rest done : List ComL) (bf : List UInt8) (fst : Bool) (T : List (Nat × AV)) (H : ay) (c : Nat) (n : Int) (e : l = done ++ rest) (hn : n = done.length) (hf : (n == 0) = fst), Ev G ⟨tn, ⟨(13, .sl 2 (l.map ComL.enc)) :: (14, .int .i64 ln) :: (15, .int .i64 n) :: (3, .str bf) :: T, H, c⟩, [.t 2], 0⟩ (⟨.int .i64 (ey cW ComL.name ComL.rules rest bf fst), []⟩)
 | [], done, bf, fst, T, H, c, n, e, hn, hf => by
  have hd : l.length = done.length := by simp [e]
  have hll : (l.map ComL.enc).length = l.length := by simp
  refine evl ?_
  repeat' (first | refine ae ?_ | (refine ab ?_ ?_ <;> intro h))
  refine ah ?_; rfl
 | x :: r, done, bf, fst, T, H, c, n, e, hn, hf => by
  have hd : l.length = done.length + (r.length + 1) := by simp [e]
  have hll : (l.map ComL.enc).length = l.length := by simp
  have hx : (l.map ComL.enc)[n.toNat]? = some (ComL.enc x) := by simp [e, hn]
  obtain ⟨q1, q2, q3⟩ := hs x (by simp [e])
  have m1 : (x.rules.map ComR.enc).length = x.rules.length := by simp
  have h1 := fF x.name bf q1 (n == 0) x.rules.length
  have hE : dq x.name bf (n == 0) x.rules.length = dq x.name bf fst x.rules.length := by rw [hf]
  rw [hE] at h1
  rw [← m1] at h1
  rw [ey, ← m1]
  generalize dq x.name bf fst (x.rules.map ComR.enc).length = E at *
  by_cases h0 : E = 0
  ·rw [if_pos h0]
   subst h0
   refine evl ?_
   repeat' (first | refine ae ?_ | (refine ab ?_ ?_ <;> intro h))
   refine aA [35, 36, 37, 3, 13, 14, 15] [] ?_
   rw [m1]
   have hn1 : (n + 1 == 0) = false := by
    have : ¬ n + 1 = 0 := by omega
    simpa using this
   refine pG x.rules q3 _ ln n x.name _ (fun hz T H c => ?_) (by omega) (fun hq => by rw [if_neg hq]) q2 _ rfl x.rules [] _ _ _ 0 rfl rfl rfl
   rw [if_pos hz]
   exact qi l hs hl ln hln r (done ++ [x]) x.name false T H c (n + 1) (by simp [e]) (by simp [hn] <;> omega) hn1
  ·rw [if_neg h0]
   refine evl ?_
   repeat' (first | refine ae ?_ | (refine ab ?_ ?_ <;> intro h))
   refine ah ?_; rfl
def jz (l : List PList) : Int := if 64 < l.length then 4 else ey ruE PList.name PList.rules l [] true
theorem vT (l : List PList) (hl : l.length < 2 ^ 40) (hs : ∀ x ∈ l, x.name.length < 2 ^ 40 ∧ x.rules.length < 2 ^ 40 ∧ (∀ r ∈ x.rules, r.ok)) : am G 497 [.sl 2 (l.map PList.enc)] [] ⟨.int .i64 (jz l), []⟩ := by
 have hll : (l.map PList.enc).length = l.length := by simp
 unfold jz
 by_cases c : 64 < l.length
 ·rw [if_pos c]
  have c' : (l.length : Int) > 64 := by omega
  refine aa (F := f497) rfl rfl (ag 300 _ _ _ _ ?_)
  repeat' (first | refine ae ?_ | (refine ab ?_ ?_ <;> intro h))
  refine ah ?_; rfl
 ·rw [if_neg c]
  refine aa (F := f497) rfl rfl (ag 300 _ _ _ _ ?_)
  repeat' (first | refine ae ?_ | (refine ab ?_ ?_ <;> intro h))
  refine aA [13, 14, 15, 3] [] ?_
  rw [hll]
  exact qk l hs hl _ rfl l [] [] true _ _ _ 0 rfl rfl rfl
def jy (l : List PathL) : Int := if 64 < l.length then 4 else ey paE PathL.name PathL.rules l [] true
theorem vR (l : List PathL) (hl : l.length < 2 ^ 40) (hs : ∀ x ∈ l, x.name.length < 2 ^ 40 ∧ x.rules.length < 2 ^ 40 ∧ (∀ r ∈ x.rules, r.pattern.length < 2 ^ 32)) : am G 498 [.sl 2 (l.map PathL.enc)] [] ⟨.int .i64 (jy l), []⟩ := by
 have hll : (l.map PathL.enc).length = l.length := by simp
 unfold jy
 by_cases c : 64 < l.length
 ·rw [if_pos c]
  have c' : (l.length : Int) > 64 := by omega
  refine aa (F := f498) rfl rfl (ag 300 _ _ _ _ ?_)
  repeat' (first | refine ae ?_ | (refine ab ?_ ?_ <;> intro h))
  refine ah ?_; rfl
 ·rw [if_neg c]
  refine aa (F := f498) rfl rfl (ag 300 _ _ _ _ ?_)
  repeat' (first | refine ae ?_ | (refine ab ?_ ?_ <;> intro h))
  refine aA [14, 15, 16, 3] [] ?_
  rw [hll]
  exact qj l hs hl _ rfl l [] [] true _ _ _ 0 rfl rfl rfl
def jx (l : List ComL) : Int := if 64 < l.length then 4 else ey cW ComL.name ComL.rules l [] true
theorem vQ (l : List ComL) (hl : l.length < 2 ^ 40) (hs : ∀ x ∈ l, x.name.length < 2 ^ 40 ∧ x.rules.length < 2 ^ 40 ∧ (True)) : am G 499 [.sl 2 (l.map ComL.enc)] [] ⟨.int .i64 (jx l), []⟩ := by
 have hll : (l.map ComL.enc).length = l.length := by simp
 unfold jx
 by_cases c : 64 < l.length
 ·rw [if_pos c]
  have c' : (l.length : Int) > 64 := by omega
  refine aa (F := f499) rfl rfl (ag 300 _ _ _ _ ?_)
  repeat' (first | refine ae ?_ | (refine ab ?_ ?_ <;> intro h))
  refine ah ?_; rfl
 ·rw [if_neg c]
  refine aa (F := f499) rfl rfl (ag 300 _ _ _ _ ?_)
  repeat' (first | refine ae ?_ | (refine ab ?_ ?_ <;> intro h))
  refine aA [13, 14, 15, 3] [] ?_
  rw [hll]
  exact qi l hs hl _ rfl l [] [] true _ _ _ 0 rfl rfl rfl
end Go.AM.IR
namespace Go.AM.IR
theorem qg (s : List UInt8) (hs : s.length < 2 ^ 40) : ∀ (rest done : List UInt8) (T : List (Nat × AV)) (H : ay) (c : Nat) (n : Int) (e : s = done ++ rest) (hn : n = done.length),
  Ev G ⟨JS, ⟨(7, .int .i64 n) :: (0, .str s) :: (6, .int .i64 s.length) :: T, H, c⟩, [.t 2], 0⟩ ⟨.bool (rest.all nmC && (decide (1 ≤ s.length) && decide ((s.length : Int) ≤ 32))), []⟩
 | [], done, T, H, c, n, e, hn => by
  have hd : s.length = done.length := by simp [e]
  by_cases h1 : 1 ≤ s.length
  ·rw [decide_eq_true h1]
   refine evl ?_
   repeat' (first | refine ae ?_ | (refine ab ?_ ?_ <;> intro h))
   refine ah ?_; rfl
  ·rw [decide_eq_false h1]
   refine evl ?_
   repeat' (first | refine ae ?_ | (refine ab ?_ ?_ <;> intro h))
   refine ah ?_; rfl
 | x :: rest, done, T, H, c, n, e, hn => by
  have hd : s.length = done.length + (rest.length + 1) := by simp [e]
  have hb := idx_at e hn
  have ih := fun T H c => qg s hs rest (done ++ [x]) T H c (n + 1) (by simp [e]) (by simp [hn])
  rw [List.all_cons]
  by_cases hc : nmC x = true
  ·rw [hc, Bool.true_and]
   have h := hc
   unfold nmC at h
   simp only [Bool.or_eq_true, Bool.and_eq_true, beq_iff_eq, decide_eq_true_eq] at h
   refine evl ?_
   repeat' (first | refine du ?_ | (refine ab ?_ ?_ <;> intro h))
   all_goals try (exfalso; omega)
   all_goals (refine aA [7, 0, 6] [] ?_
              exact ih _ _ _)
  ·have h := hc
   rw [Bool.not_eq_true] at hc
   rw [hc, Bool.false_and, Bool.false_and]
   unfold nmC at h
   simp only [Bool.or_eq_true, Bool.and_eq_true, beq_iff_eq, decide_eq_true_eq] at h
   refine evl ?_
   repeat' (first | refine du ?_ | (refine ab ?_ ?_ <;> intro h))
   all_goals try (exfalso; omega)
   all_goals (refine ah ?_; rfl)
theorem nZ (s : List UInt8) (hs : s.length < 2 ^ 40) : am G 623 [.str s] [] ⟨.bool (nmB s), []⟩ := by
 refine aa (F := f623) rfl rfl (ag 300 _ _ _ _ ?_)
 repeat' (first | refine ae ?_ | (refine ab ?_ ?_ <;> intro h))
 refine aA [7, 0, 6] [] ?_
 exact qg s hs s [] _ _ _ 0 rfl rfl
theorem e7 (n l h : Int) : am G 581 [.int .i64 n, .int .i64 l, .int .i64 h] [] ⟨.bool (decide (l ≤ n) && decide (n ≤ h)), []⟩ := by
 by_cases a : l ≤ n
 ·rw [decide_eq_true a]
  refine aa (F := f581) rfl rfl (ag 300 _ _ _ _ ?_)
  repeat' (first | refine ae ?_ | (refine ab ?_ ?_ <;> intro h))
  refine ah ?_; rfl
 ·rw [decide_eq_false a]
  refine aa (F := f581) rfl rfl (ag 300 _ _ _ _ ?_)
  repeat' (first | refine ae ?_ | (refine ab ?_ ?_ <;> intro h))
  refine ah ?_; rfl
theorem xl (r : ComR) : am G 520 [.agg r.enc] [] ⟨.int .i64 (cW r), []⟩ := by
 have h1 := e7 r.high (-1) 65535
 have h2 := e7 r.low (-1) 65535
 unfold cW
 generalize hx : (decide (-1 ≤ r.high) && decide (r.high ≤ 65535)) = x at *
 generalize hy : (decide (-1 ≤ r.low) && decide (r.low ≤ 65535)) = y at *
 cases x
 ·simp only [Bool.and_eq_false_iff, decide_eq_false_iff_not] at hx
  refine aa (F := f520) rfl rfl (ag 300 _ _ _ _ ?_)
  repeat' (first | refine ae ?_ | (refine ab ?_ ?_ <;> intro h))
  refine ah ?_
  (repeat' split) <;> first | rfl | (exfalso; omega)
 ·simp only [Bool.and_eq_true, decide_eq_true_eq] at hx
  rw [if_neg (by omega), if_neg (by omega)]
  cases y
  ·simp only [Bool.and_eq_false_iff, decide_eq_false_iff_not] at hy
   refine aa (F := f520) rfl rfl (ag 300 _ _ _ _ ?_)
   repeat' (first | refine ae ?_ | (refine ab ?_ ?_ <;> intro h))
   refine ah ?_
   (repeat' split) <;> first | rfl | (exfalso; omega)
  ·simp only [Bool.and_eq_true, decide_eq_true_eq] at hy
   rw [if_neg (by omega), if_neg (by omega)]
   refine aa (F := f520) rfl rfl (ag 300 _ _ _ _ ?_)
   repeat' (first | refine ae ?_ | (refine ab ?_ ?_ <;> intro h))
   refine ah ?_; rfl
def aX (s : List UInt8) : List AV := [.str s]
@[simp] theorem nQ : ∀ l : List (List UInt8), az (l.map aX) = true
 | [] => rfl
 | x :: r => by simp only [List.map_cons, az, nQ r]; simp [aX, aM, AV.pure]
def fa (before : List (List UInt8)) (name : List UInt8) : Int := if nmB name = false then 1 else match before.getLast? with
 | none => 0
 | some b => if (Op.bytesLess name b || name == b) = true then 16 else 0
theorem gh (before : List (List UInt8)) (name : List UInt8) (hn : name.length < 2 ^ 40) (hb : before.length < 2 ^ 40) : am G 577 [.sl 1 (before.map aX), .str name] [] ⟨.int .i64 (fa before name), []⟩ := by
 have h1 := nZ name hn
 have m1 : (before.map aX).length = before.length := by simp
 unfold fa
 cases hq : nmB name
 ·rw [hq] at h1
  rw [if_pos rfl]
  refine aa (F := f577) rfl rfl (ag 300 _ _ _ _ ?_)
  repeat' (first | refine ae ?_ | (refine ab ?_ ?_ <;> intro h))
  refine ah ?_; rfl
 rw [hq] at h1
 rw [if_neg (by simp)]
 cases hl : before.getLast? with
 | none =>
  have h0 : before = [] := by simpa using hl
  subst h0
  refine aa (F := f577) rfl rfl (ag 300 _ _ _ _ ?_)
  repeat' (first | refine ae ?_ | (refine ab ?_ ?_ <;> intro h))
  refine ah ?_; rfl
 | some b =>
  have hne : 0 < before.length := by
   cases before with
   | nil => simp at hl
   | cons x r => simp
  have hx : (before.map aX)[((before.length : Int) - 1).toNat]? = some [.str b] := by
   rw [List.getLast?_eq_getElem?] at hl
   have : ((before.length : Int) - 1).toNat = before.length - 1 := by omega
   rw [this, List.getElem?_map, hl]; rfl
  rw [← m1] at hx
  dsimp only
  rcases hv : (Op.bytesLess name b || name == b) with _ | _
  ·refine aa (F := f577) rfl rfl (ag 300 _ _ _ _ ?_)
   repeat' ((conv => whnf); first | refine uT hv ?_ | refine a7 ?_ | (refine ab ?_ ?_ <;> intro h))
   refine ah ?_; rfl
  ·refine aa (F := f577) rfl rfl (ag 300 _ _ _ _ ?_)
   repeat' ((conv => whnf); first | refine uT hv ?_ | refine a7 ?_ | (refine ab ?_ ?_ <;> intro h))
   refine ah ?_; rfl
end Go.AM.IR
