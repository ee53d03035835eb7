/- What the functions of this program give, on the abstract machine. -/
import Derived.Test.YtcieamgbfameoaaGreatDoorDataB
import Derived.Test.YtcieamgbfameoaaGreatDoorDataA
import Derived.KernelRfl
set_option linter.unusedVariables false
set_option linter.unusedSimpArgs false
set_option maxHeartbeats 4000000
set_option maxRecDepth 20000
namespace Go.AM.IR
attribute [local simp] bJ
def cx (c : Cap) : Bool := decide ((c.code = 2 ∧ ¬ (c.value.length : Int) = 0) ∨ (c.code = 64 ∧ ¬ (c.value.length : Int) = 2) ∨ (c.code = 65 ∧ ¬ (c.value.length : Int) = 4))
def bq (as : Int) : Option Int → Int → Bool → List Cap → Int
 | _, n, w, [] => if n > 253 then 4 else if as > 65535 ∧ w = false then 22 else 0
 | p, n, w, c :: r =>
  if c.code < 1 ∨ c.code > 255 then 5
  else if p.any (fun q => decide (c.code ≤ q)) then 16
  else if cx c then 1
  else if c.code = 65 ∧ c.value ≠ be 4 (u64 as) then 14
  else bq as (some c.code) (n + (2 + c.value.length)) (if c.code = 65 then true else w) r
def capT : List Cap → Int
 | [] => 0
 | c :: r => (2 + c.value.length) + capT r
theorem kf : ∀ l, 0 ≤ capT l
 | [] => by simp [capT]
 | c :: r => by have := kf r; simp only [capT]; omega
theorem ix (l : List Cap) (m : PMsg) (hl1 : m.caps = l) (hl : l.length < 2 ^ 40) (ln : Int) (hln : ln = l.length) : ∀ (rest done : List Cap) (p : Option Int) (k : Int) (w : Bool) (T : List (Nat × AV)) (H : aq) (c : Nat) (n : Int) (e : l = done ++ rest) (hn : n = done.length) (hp : p = done.getLast?.map Cap.code) (hk : 0 ≤ k) (hk2 : k + capT rest < 2 ^ 50), Ev G ⟨Ng, ⟨(9, .sl 2 (l.map Cap.enc)) :: (10, .int .i64 ln) :: (11, .int .i64 n) :: (3, .int .i64 k) :: (1, .ref 65 1 0) :: (4, .bool w) :: T, (65, some (1, .cells m.enc)) :: H, c⟩, [.t 2], 0⟩ (⟨.int .i64 (bq m.as p k w rest), []⟩)
 | [], done, p, k, w, T, H, c, n, e, hn, hp, hk, hk2 => by
  have hd : l.length = done.length := by simp [e]
  have hll : (l.map Cap.enc).length = l.length := by simp
  refine evl ?_
  repeat' (first | refine ab ?_ | (refine aa ?_ ?_ <;> intro h))
  all_goals try (refine ax ?_; first | rfl | (simp [bq, Bool.cond_eq_ite, *]; done) | (simp [bq, Bool.cond_eq_ite, *]; omega) | (unfold bq; repeat' split; all_goals first | rfl | (exfalso; omega) | (simp_all; done) | (simp_all; omega)))
 | x :: r, done, p, k, w, T, H, c, n, e, hn, hp, hk, hk2 => by
  have hd : l.length = done.length + (r.length + 1) := by simp [e]
  have hll : (l.map Cap.enc).length = l.length := by simp
  have hx : (l.map Cap.enc)[n.toNat]? = some (Cap.enc x) := by simp [e, hn]
  have hbl := au x.value
  have hct : capT (x :: r) = (2 + x.value.length) + capT r := rfl
  have hcr := kf r
  rcases List.eq_nil_or_concat done with hd0 | ⟨d, q, hd1⟩
  ·have hn' : n = 0 := by rw [hn, hd0]; rfl
   obtain rfl : p = none := by rw [hp, hd0]; rfl
   clear hp
   refine evl ?_
   repeat' ((conv => whnf); first | refine zCU ?_ | refine dz ?_ | refine kN (fw 4 (u64 m.as) (by omega)) ?_ | (refine aa ?_ ?_ <;> intro h))
   clear hd hd0
   all_goals (try simp only [hbl] at *)
   all_goals try (refine ax ?_; first | rfl | (simp [bq, cx, Bool.cond_eq_ite, *]; done) | (simp [bq, cx, Bool.cond_eq_ite, *]; omega) | (unfold bq cx; repeat' split; all_goals first | rfl | (exfalso; omega) | (simp_all; done) | (simp_all; omega)))
   all_goals first
    | (rw [show bq m.as none k w (x :: r) = bq m.as (some x.code) (k + (2 + x.value.length)) w r from by first | (simp [bq, cx, *]; done) | (simp [bq, cx, *]; omega)]
       refine ag [9, 10, 11, 3, 1, 4] [65] ?_; exact ix l m hl1 hl ln hln r (done ++ [x]) (some x.code) (k + (2 + x.value.length)) w _ _ _ (n + 1) (by simp [e]) (by simp [hn] <;> omega) (by simp) (by omega) (by omega)
       )
    | (rw [show bq m.as none k w (x :: r) = bq m.as (some x.code) (k + (2 + x.value.length)) true r from by first | (simp [bq, cx, *]; done) | (simp [bq, cx, *]; omega)]
       refine ag [9, 10, 11, 3, 1, 4] [65] ?_; exact ix l m hl1 hl ln hln r (done ++ [x]) (some x.code) (k + (2 + x.value.length)) true _ _ _ (n + 1) (by simp [e]) (by simp [hn] <;> omega) (by simp) (by omega) (by omega)
       )
  ·have hn' : n - 1 = d.length := by rw [hn, hd1]; simp
   have hn2 : n > 0 := by omega
   obtain rfl : p = some q.code := by rw [hp, hd1]; simp
   clear hp
   have hml : (m.caps.map Cap.enc).length = l.length := by rw [hl1]; simp
   have hy : (m.caps.map Cap.enc)[(n - 1).toNat]? = some (Cap.enc q) := by rw [hl1, e, hd1, hn']; simp
   have hb : (n - 1).toNat < (m.caps.map Cap.enc).length := by rw [hml, hd, hd1]; simp; omega
   refine evl ?_
   repeat' ((conv => whnf); first | refine zCU ?_ | refine dz ?_ | refine kN (fw 4 (u64 m.as) (by omega)) ?_ | (refine aa ?_ ?_ <;> intro h))
   clear hd hd1
   all_goals (try simp only [hbl] at *)
   all_goals try (refine ax ?_; first | rfl | (simp [bq, cx, Bool.cond_eq_ite, *]; done) | (simp [bq, cx, Bool.cond_eq_ite, *]; omega) | (unfold bq cx; repeat' split; all_goals first | rfl | (exfalso; omega) | (simp_all; done) | (simp_all; omega)))
   all_goals first
    | (rw [show bq m.as (some q.code) k w (x :: r) = bq m.as (some x.code) (k + (2 + x.value.length)) w r from by first | (simp [bq, cx, *]; done) | (simp [bq, cx, *]; omega)]
       refine ag [9, 10, 11, 3, 1, 4] [65] ?_; exact ix l m hl1 hl ln hln r (done ++ [x]) (some x.code) (k + (2 + x.value.length)) w _ _ _ (n + 1) (by simp [e]) (by simp [hn] <;> omega) (by simp) (by omega) (by omega)
       )
    | (rw [show bq m.as (some q.code) k w (x :: r) = bq m.as (some x.code) (k + (2 + x.value.length)) true r from by first | (simp [bq, cx, *]; done) | (simp [bq, cx, *]; omega)]
       refine ag [9, 10, 11, 3, 1, 4] [65] ?_; exact ix l m hl1 hl ln hln r (done ++ [x]) (some x.code) (k + (2 + x.value.length)) true _ _ _ (n + 1) (by simp [e]) (by simp [hn] <;> omega) (by simp) (by omega) (by omega)
       )
end Go.AM.IR
namespace Go.AM.IR
end Go.AM.IR
namespace Go.AM.IR
theorem dY {a : Attrs} (h : AB a) : LenB a where
 path := h.path
 segs s hs := by
  have h1 := h.flat
  have h2 : s.as.length ≤ (bC a.path).length := by
   unfold bC
   obtain ⟨p, q, e⟩ := List.append_of_mem hs
   rw [e]; simp; omega
  omega
 comms := h.comms
 clusters := h.clusters
 unknown := h.unknown
 vals := h.vals
end Go.AM.IR
namespace Go.AM.IR
set_option maxHeartbeats 2000000
theorem gV {α : Type} (f : α → List AV) (g : α → Nat) (h : ∀ x, g x ≤ bkL (f x)) : ∀ l : List α, (l.map g).sum ≤ cy (l.map f)
 | [] => by simp
 | x :: r => by
  have := gV f g h r
  have := h x
  simp only [List.map_cons, List.sum_cons, cy]
  omega
theorem CL {α : Type} : ∀ l : List α, (l.map fun _ => 1).sum = l.length
 | [] => rfl
 | x :: r => by simp only [List.map_cons, List.sum_cons, List.length_cons, CL r]; omega
theorem im {α : Type} (f : α → List AV) (h : ∀ x, 1 ≤ bkL (f x)) (l : List α) : l.length ≤ cy (l.map f) := by
 have := gV f (fun _ => 1) h l
 rwa [CL] at this
theorem sY (l : List UInt8) : l.length ≤ cy (byteCells l) := im (f := fun b : UInt8 => [AV.int .u8 (b.toNat : Int)]) (fun _ => by simp [bkL, AV.bk]) l
end Go.AM.IR
namespace Go.AM.IR
attribute [local simp] bJ
structure LenO (m : PMsg) : Prop where
 len : LenM m
 capT : capT m.caps < 2 ^ 50
structure AM (m : PMsg) : Prop where
 attrs : AB m.attrs
 caps : m.caps.length < 2 ^ 40
 withdrawn : m.withdrawn.length < 2 ^ 40
 reach : m.reach.length < 2 ^ 40
 data : m.data.length < 2 ^ 40
 capT : capT m.caps < 2 ^ 50
theorem AM.lenO {m : PMsg} (h : AM m) : LenO m := by
 have := dY h.attrs
 exact ⟨⟨h.caps, h.withdrawn, h.reach, ⟨this.path, this.segs, this.comms, this.clusters, this.unknown⟩⟩, h.capT⟩
end Go.AM.IR
namespace Go.AM.IR
attribute [local simp] bJ
def lzA : AV := .agg [.int .i64 0, nilV, .int .u32 0, .bool false, .int .i64 0, .bool false, .int .i64 0, .bool false, .bool false, .int .i64 0, .int .u32 0, nilV, .bool false, .int .u32 0, nilV, nilV]
theorem io : LenC zeroA := KW.attrs
theorem oc (a : Attrs) (ha : LenC a) : ah G 70 [.agg a.enc, lzA] [] ⟨.bool (decide (a = zeroA)), []⟩ :=
 iq rfl (oC a zeroA ha io) ⟨.refl _, LeP.agg leA, trivial⟩
end Go.AM.IR
namespace Go.AM.IR
attribute [local simp] bJ
theorem Bq : ∀ (N : Nat) (a : List Pfx), e9 N a [] = false
 | 0, _ => rfl
 | _ + 1, [] => rfl
 | _ + 1, _ :: _ => rfl
def gm (m : PMsg) : Int := if m.reach.length > 0 then bW m.attrs else if m.attrs = zeroA then 0 else 1
theorem xa (a : Attrs) (ha : LenC a) : ah G 72 [.agg a.enc, lzA] [] ⟨.bool (decide (a = zeroA)), []⟩ :=
 iq rfl (oB a zeroA ha io) ⟨.refl _, LeP.agg leA, trivial⟩
def Kd (m : PMsg) (N : Nat) : Prop := ∀ (p : Pfx) (rw dw rs ds : List Pfx) (g : Nat) (T : List (Nat × AV)) (H : aq) (c : Nat) (i k : Int) (e1 : m.withdrawn = dw ++ p :: rw) (e2 : m.reach = ds ++ rs) (hi : i = dw.length) (hk : k = ds.length) (hN : (p :: rw).length + rs.length < N),
  Ev G ⟨Ni, ⟨(5, .int .i64 k) :: (1, .ref 65 1 0) :: (21, .sl 2 (m.withdrawn.map Pfx.enc)) :: (22, .int .i64 m.withdrawn.length) :: (23, .int .i64 i) :: (7, .ref 71 g 0) :: T, (65, some (1, .cells m.enc)) :: (71, some (g, .cells p.enc)) :: H, c⟩, [.t 2], 0⟩ (⟨.int .i64 (if e9 N (p :: rw) rs = true then 7 else gm m), []⟩)
def SK (m : PMsg) (N : Nat) : Prop := ∀ (rw dw rs ds : List Pfx) (T : List (Nat × AV)) (H : aq) (c : Nat) (i k : Int) (e1 : m.withdrawn = dw ++ rw) (e2 : m.reach = ds ++ rs) (hi : i = dw.length) (hk : k = ds.length) (hN : rw.length + rs.length < N),
  Ev G ⟨Nh, ⟨(5, .int .i64 k) :: (23, .int .i64 i) :: (1, .ref 65 1 0) :: (21, .sl 2 (m.withdrawn.map Pfx.enc)) :: (22, .int .i64 m.withdrawn.length) :: T, (65, some (1, .cells m.enc)) :: H, c⟩, [.t 2], 0⟩ (⟨.int .i64 (if e9 N rw rs = true then 7 else gm m), []⟩)
theorem Qc (m : PMsg) (hm : LenM m) (N : Nat) (ih1 : Kd m N) (ih2 : SK m N) : Kd m (N + 1) := by
 intro p rw dw rs ds g T H c i k e1 e2 hi hk hN
 have hw := hm.withdrawn; have hr := hm.reach
 have hl1 : (m.withdrawn.map Pfx.enc).length = m.withdrawn.length := by simp
 have hl2 : (m.reach.map Pfx.enc).length = m.reach.length := by simp
 have hd1 : m.withdrawn.length = dw.length + (rw.length + 1) := by simp [e1]
 simp only [List.length_cons] at hN
 cases rs with
 | nil =>
  have hd2 : m.reach.length = ds.length := by simp [e2]
  rw [Bq]
  refine evl ?_
  repeat' (first | refine ab ?_ | (refine aa ?_ ?_ <;> intro h))
  refine ag [5, 23, 1, 21, 22] [65] ?_
  have := ih2 rw (dw ++ [p]) [] ds
  rw [Bq] at this
  exact this _ _ _ (i + 1) k (by simp [e1]) e2 (by simp [hi]) hk (by simp only [List.length_nil] at hN ⊢; omega)
 | cons y rs =>
  have hd2 : m.reach.length = ds.length + (rs.length + 1) := by simp [e2]
  have hy : (m.reach.map Pfx.enc)[k.toNat]? = some y.enc := by simp [e2, hk]
  have hc := qd y p
  have hz := Ou p y
  have hsw := wO p y
  have hee : (y = p) ↔ (y.addr = p.addr ∧ y.len = p.len) := by cases p; cases y; simp
  simp only [List.length_cons] at hN
  by_cases h0 : bT p y = 0
  ·rw [show e9 (N + 1) (p :: rw) (y :: rs) = true from by simp [e9, h0]]
   have hyp : y = p := (hz.1 h0).symm
   obtain ⟨q1, q2⟩ := hee.1 hyp
   generalize bT p y = cv at *
   generalize bT y p = cw at *
   refine evl ?_
   repeat' (first | refine ab ?_ | (refine aa ?_ ?_ <;> intro h))
   refine ax ?_; rfl
  ·by_cases h1 : bT p y < 0
   ·rw [show e9 (N + 1) (p :: rw) (y :: rs) = e9 N rw (y :: rs) from by simp [e9, h0, h1]]
    have hne : ¬ (y.addr = p.addr ∧ y.len = p.len) := fun h => h0 (hz.2 (hee.2 h).symm)
    generalize bT p y = cv at *
    generalize bT y p = cw at *
    refine evl ?_
    repeat' (first | refine ab ?_ | (refine aa ?_ ?_ <;> intro h))
    all_goals first
     | (exfalso; exact hne ⟨by assumption, by assumption⟩)
     | (refine ag [5, 23, 1, 21, 22] [65] ?_; exact ih2 rw (dw ++ [p]) (y :: rs) ds _ _ _ (i + 1) k (by simp [e1]) e2 (by simp [hi]) hk (by simp only [List.length_cons]; omega))
   ·rw [show e9 (N + 1) (p :: rw) (y :: rs) = e9 N (p :: rw) rs from by simp [e9, h0, h1]]
    generalize bT p y = cv at *
    generalize bT y p = cw at *
    refine evl ?_
    repeat' (first | refine ab ?_ | (refine aa ?_ ?_ <;> intro h))
    refine ag [5, 1, 21, 22, 23, 7] [65, 71] ?_
    exact ih1 p rw dw rs (ds ++ [y]) g _ _ _ i (k + 1) e1 (by simp [e2]) hi (by simp [hk]) (by simp only [List.length_cons]; omega)
theorem Pw (m : PMsg) (hm : LenM m) (hb : LenB m.attrs) (N : Nat) (ih : Kd m (N + 1)) : SK m (N + 1) := by
 intro rw dw rs ds T H c i k e1 e2 hi hk hN
 have hw := hm.withdrawn; have hr := hm.reach
 have hl1 : (m.withdrawn.map Pfx.enc).length = m.withdrawn.length := by simp
 have hl2 : (m.reach.map Pfx.enc).length = m.reach.length := by simp
 cases rw with
 | nil =>
  have hd1 : m.withdrawn.length = dw.length := by simp [e1]
  rw [show e9 (N + 1) [] rs = false from rfl]
  have ck := i6 m.attrs hb
  have sz := xa m.attrs hm.attrs
  unfold lzA nilV at sz
  by_cases h0 : m.reach.length > 0
  ·have h1 : ((m.reach.map Pfx.enc).length : Int) > 0 := by rw [hl2]; omega
   refine evl ?_
   repeat' (first | refine ab ?_ | (refine aa ?_ ?_ <;> intro h))
   refine ax ?_; simp [gm, h0]
  ·have h1 : ¬ ((m.reach.map Pfx.enc).length : Int) > 0 := by rw [hl2]; omega
   by_cases h2 : m.attrs = zeroA
   ·rw [show decide (m.attrs = zeroA) = true from by simp [h2]] at sz
    refine evl ?_
    repeat' (first | refine ab ?_ | (refine aa ?_ ?_ <;> intro h))
    refine ax ?_; simp [gm, h0, h2]
   ·rw [show decide (m.attrs = zeroA) = false from by simp [h2]] at sz
    refine evl ?_
    repeat' (first | refine ab ?_ | (refine aa ?_ ?_ <;> intro h))
    refine ax ?_; simp [gm, h0, h2]
 | cons p rw =>
  have hd1 : m.withdrawn.length = dw.length + (rw.length + 1) := by simp [e1]
  have hx : (m.withdrawn.map Pfx.enc)[i.toNat]? = some p.enc := by simp [e1, hi]
  refine evl ?_
  repeat' (first | refine ab ?_ | (refine aa ?_ ?_ <;> intro h))
  refine ag [5, 1, 21, 22, 23, 7] [65, 71] ?_
  exact ih p rw dw rs ds _ _ _ _ i k e1 e2 hi hk hN
theorem v8 (m : PMsg) (hm : LenM m) (hb : LenB m.attrs) : ∀ N, Kd m N ∧ SK m N
 | 0 => ⟨fun p rw dw rs ds g T H c i k e1 e2 hi hk hN => by omega, fun rw dw rs ds T H c i k e1 e2 hi hk hN => by omega⟩
 | N + 1 => by
  obtain ⟨h1, h2⟩ := v8 m hm hb N
  have h3 := Qc m hm N h1 h2
  exact ⟨h3, Pw m hm hb N h3⟩
structure PMsg.okP (m : PMsg) : Prop where
 withdrawn : ∀ p ∈ m.withdrawn, p.ok
 reach : ∀ p ∈ m.reach, p.ok
def fu (m : PMsg) : Int :=
 if br none m.withdrawn ≠ 0 then br none m.withdrawn else if br none m.reach ≠ 0 then br none m.reach else if nT m.withdrawn m.reach = true then 7 else gm m
theorem yd (m : PMsg) (hm : LenM m) (hb : LenB m.attrs) (ho : m.okP) : ah G 159 [.agg m.enc] [] ⟨.int .i64 (fu m), []⟩ := by
 have p1 := oU m.withdrawn hm.withdrawn ho.withdrawn
 have p2 := oU m.reach hm.reach ho.reach
 have hl1 : (m.withdrawn.map Pfx.enc).length = m.withdrawn.length := by simp
 by_cases h1 : br none m.withdrawn = 0
 ·by_cases h2 : br none m.reach = 0
  ·rw [h1] at p1; rw [h2] at p2
   have hl := (v8 m hm hb (m.withdrawn.length + m.reach.length + 1)).2 m.withdrawn [] m.reach []
   rw [show fu m = (if e9 (m.withdrawn.length + m.reach.length + 1) m.withdrawn m.reach = true then 7 else gm m) from by unfold fu nT; rw [if_neg (by simp [h1]), if_neg (by simp [h2])]]
   refine ae (F := zX) rfl rfl (az 300 _ _ _ _ ?_)
   repeat' (first | refine ab ?_ | (refine aa ?_ ?_ <;> intro h))
   refine ag [5, 23, 1, 21, 22] [65] ?_
   rw [hl1]
   exact hl _ _ _ 0 0 rfl rfl rfl rfl (by omega)
  ·rw [h1] at p1
   rw [show fu m = br none m.reach from by simp [fu, h1, h2]]
   generalize br none m.reach = v at *
   refine ae (F := zX) rfl rfl (az 300 _ _ _ _ ?_)
   repeat' (first | refine ab ?_ | (refine aa ?_ ?_ <;> intro h))
   refine ax ?_; rfl
 ·rw [show fu m = br none m.withdrawn from by simp [fu, h1]]
  generalize br none m.withdrawn = v at *
  refine ae (F := zX) rfl rfl (az 300 _ _ _ _ ?_)
  repeat' (first | refine ab ?_ | (refine aa ?_ ?_ <;> intro h))
  refine ax ?_; rfl
end Go.AM.IR
namespace Go.AM.IR
attribute [local simp] bJ
def sfy : Nat → ACode → ACode
 | 0, c => c
 | n + 1, .seq _ b => sfy n b
 | _, c => c
def unO (m : PMsg) : Bool := decide (m.version = 0 ∧ m.as = 0 ∧ m.hold = 0 ∧ m.router = 0 ∧ (m.caps.length : Int) = 0)
def unU (m : PMsg) : Bool := decide ((m.withdrawn.length : Int) = 0 ∧ (m.reach.length : Int) = 0 ∧ m.attrs = zeroA)
def unN (m : PMsg) : Bool := decide (m.code = 0 ∧ m.sub = 0 ∧ (m.data.length : Int) = 0)
def eE (m : PMsg) : Bool := (unO m || decide (m.kind = 1)) && (unU m || decide (m.kind = 2)) && (unN m || decide (m.kind = 3))
theorem I5 (m : PMsg) (o u n : Bool) (T : List (Nat × AV)) (H : aq) (c : Nat) : Ev G ⟨[.code (sfy 4 jA.body)], ⟨(1, .ref 65 1 0) :: (3, .bool o) :: (4, .bool u) :: (5, .bool n) :: T, (65, some (1, .cells m.enc)) :: H, c⟩, jA.results, 0⟩ ⟨.bool ((o || decide (m.kind = 1)) && (u || decide (m.kind = 2)) && (n || decide (m.kind = 3))), []⟩ := by
 cases o <;> cases u <;> cases n
 all_goals (refine wk3 ?_)
 repeat' (first | refine ab ?_ | (refine aa ?_ ?_ <;> intro h))
 all_goals (refine ax ?_; refine rBl ?_; first | rfl | (simp [*]; done) | (simp only [*]; decide) | (simp; omega))
theorem I6 (m : PMsg) (o u : Bool) (T : List (Nat × AV)) (H : aq) (c : Nat) : Ev G ⟨[.code (sfy 3 jA.body)], ⟨(1, .ref 65 1 0) :: (3, .bool o) :: (4, .bool u) :: T, (65, some (1, .cells m.enc)) :: H, c⟩, jA.results, 0⟩ ⟨.bool ((o || decide (m.kind = 1)) && (u || decide (m.kind = 2)) && (unN m || decide (m.kind = 3))), []⟩ := by
 have hb := au m.data
 refine aG (b := sfy 4 jA.body) ?_
 refine wd1 ?_
 repeat' (first | refine ab ?_ | (refine aa ?_ ?_ <;> intro h))
 all_goals (try simp only [hb] at *)
 all_goals (refine ag [1, 3, 4, 5] [65] ?_)
 all_goals first
  | (rw [show unN m = ((m.data.length : Int) == 0) from by rw [unN, Bool.eq_iff_iff, decide_eq_true_eq, beq_iff_eq]; omega]; exact I5 m o u _ _ _ _)
  | (rw [show unN m = true from by rw [unN, decide_eq_true_eq]; omega]; exact I5 m o u true _ _ _)
  | (rw [show unN m = false from by rw [unN, decide_eq_false_iff_not]; omega]; exact I5 m o u false _ _ _)
theorem I7 (m : PMsg) (hm : LenM m) (o : Bool) (T : List (Nat × AV)) (H : aq) (c : Nat) : Ev G ⟨[.code (sfy 2 jA.body)], ⟨(1, .ref 65 1 0) :: (3, .bool o) :: T, (65, some (1, .cells m.enc)) :: H, c⟩, jA.results, 0⟩ ⟨.bool ((o || decide (m.kind = 1)) && (unU m || decide (m.kind = 2)) && (unN m || decide (m.kind = 3))), []⟩ := by
 have hl1 : (m.withdrawn.map Pfx.enc).length = m.withdrawn.length := by simp
 have hl2 : (m.reach.map Pfx.enc).length = m.reach.length := by simp
 have h1 := oc m.attrs hm.attrs
 unfold lzA nilV at h1
 by_cases hz : m.attrs = zeroA
 ·rw [show decide (m.attrs = zeroA) = true from by simp [hz]] at h1
  refine aG (b := sfy 3 jA.body) ?_
  refine wd1 ?_
  repeat' (first | refine ab ?_ | (refine aa ?_ ?_ <;> intro h))
  all_goals (try simp only [hl1, hl2] at *)
  all_goals (refine ag [1, 3, 4] [65] ?_)
  all_goals first
   | (rw [show unU m = true from by rw [unU, decide_eq_true_eq]; exact ⟨by omega, by omega, hz⟩]; exact I6 m o true _ _ _)
   | (rw [show unU m = false from by rw [unU, decide_eq_false_iff_not]; rintro ⟨_, _, _⟩; omega]; exact I6 m o false _ _ _)
 ·rw [show decide (m.attrs = zeroA) = false from by simp [hz]] at h1
  rw [show unU m = false from by rw [unU, decide_eq_false_iff_not]; exact fun h => hz h.2.2]
  refine aG (b := sfy 3 jA.body) ?_
  refine wd1 ?_
  repeat' (first | refine ab ?_ | (refine aa ?_ ?_ <;> intro h))
  all_goals (refine ag [1, 3, 4] [65] ?_)
  all_goals exact I6 m o false _ _ _
theorem tj (m : PMsg) (hm : LenM m) : ah G 160 [.agg m.enc] [] ⟨.bool (eE m), []⟩ := by
 have hl3 : (m.caps.map Cap.enc).length = m.caps.length := by simp
 refine ae (F := jA) rfl rfl ?_
 refine aG (b := sfy 1 jA.body) ?_
 refine wd1 ?_
 repeat' (first | refine ab ?_ | (refine aa ?_ ?_ <;> intro h))
 refine aG (b := sfy 2 jA.body) ?_
 refine wd1 ?_
 repeat' (first | refine ab ?_ | (refine aa ?_ ?_ <;> intro h))
 all_goals (try simp only [hl3] at *)
 all_goals (refine ag [1, 3] [65] ?_)
 all_goals first
  | (rw [eE, show unO m = ((m.caps.length : Int) == 0) from by rw [unO, Bool.eq_iff_iff, decide_eq_true_eq, beq_iff_eq]; omega]; exact I7 m hm _ _ _ _)
  | (rw [eE, show unO m = true from by rw [unO, decide_eq_true_eq]; omega]; exact I7 m hm true _ _ _)
  | (rw [eE, show unO m = false from by rw [unO, decide_eq_false_iff_not]; omega]; exact I7 m hm false _ _ _)
end Go.AM.IR
namespace Go.AM.IR
attribute [local simp] bJ
theorem xA (m : PMsg) (hm : m.caps.length < 2 ^ 40) (ht : capT m.caps < 2 ^ 50) : ah G 170 [.agg m.enc] [] ⟨.int .i64 (bq m.as none 0 false m.caps), []⟩ := by
 have l1 : (m.caps.map Cap.enc).length = m.caps.length := by simp
 refine ae (F := Ri) rfl rfl (az 300 _ _ _ _ ?_)
 repeat' (first | refine ab ?_ | (refine aa ?_ ?_ <;> intro h))
 refine ag [9, 10, 11, 3, 1, 4] [65] ?_
 rw [l1]
 exact ix m.caps m rfl hm _ rfl m.caps [] none 0 false _ _ _ 0 rfl rfl rfl (by omega) (by omega)
theorem alp {v : List UInt8} {as : Int} (hv : v.length = 4) (h1 : 0 ≤ as) (h2 : as ≤ 4294967295) : ((rd v : Nat) : Int) = as ↔ v = be 4 (u64 as) := by
 have hu : ((u64 as : Nat) : Int) = as := by unfold u64; omega
 constructor
 ·intro h
  have : rd v = u64 as := by omega
  rw [← this, OA hv]
 ·intro h
  rw [h, g5 4 _ (by omega), hu]
theorem zCR {k : Eff → Prop} {y : Opd} {g key : Nat} {hg : Nat → Option (Nat × Blk)} {x : List UInt8} (hx : x.length ≤ 4) (h : k { res := .int .i64 ((rd x : Nat) : Int) }) : ∃ e, aQ (.conv .i64 y) g key [.int .u64 ((rd x : Nat) : Int)] hg = some e ∧ k e := by
 have h1 := cn hx
 exact zC h (by omega) (by omega)
theorem oh (v : List UInt8) (hv : v.length = 4) : ah G 113 [.sl 1 (byteCells v), .int .i64 0, .int .i64 4] [] ⟨.tup [.int .u64 (rd v : Nat), .bool true], []⟩ := by
 have h := y5 v (by omega) 0 4 (by omega) (by omega) (by omega) (by omega)
 rw [show (v.drop (0 : Int).toNat).take (4 : Int).toNat = v from by rw [show (0 : Int).toNat = 0 from rfl, List.drop_zero, List.take_of_length_le (by rw [hv]; decide)]] at h
 exact h
theorem iw (l : List Cap) (m : PMsg) (hl1 : m.caps = l) (ha1 : 0 ≤ m.as) (ha2 : m.as ≤ 4294967295) (hl : l.length < 2 ^ 40) (ln : Int) (hln : ln = l.length) : ∀ (rest done : List Cap) (p : Option Int) (k : Int) (w : Bool) (T : List (Nat × AV)) (H : aq) (c : Nat) (n : Int) (e : l = done ++ rest) (hn : n = done.length) (hp : p = done.getLast?.map Cap.code) (hk : 0 ≤ k) (hk2 : k + capT rest < 2 ^ 50), Ev G ⟨Nf, ⟨(10, .sl 2 (l.map Cap.enc)) :: (11, .int .i64 ln) :: (12, .int .i64 n) :: (3, .int .i64 k) :: (1, .ref 65 1 0) :: (4, .bool w) :: T, (65, some (1, .cells m.enc)) :: H, c⟩, [.t 2], 0⟩ (⟨.int .i64 (bq m.as p k w rest), []⟩)
 | [], done, p, k, w, T, H, c, n, e, hn, hp, hk, hk2 => by
  have hd : l.length = done.length := by simp [e]
  have hll : (l.map Cap.enc).length = l.length := by simp
  refine evl ?_
  repeat' (first | refine ab ?_ | (refine aa ?_ ?_ <;> intro h))
  all_goals try (refine ax ?_; first | rfl | (simp [bq, Bool.cond_eq_ite, *]; done) | (simp [bq, Bool.cond_eq_ite, *]; omega) | (unfold bq; repeat' split; all_goals first | rfl | (exfalso; omega) | (simp_all; done) | (simp_all; omega)))
 | x :: r, done, p, k, w, T, H, c, n, e, hn, hp, hk, hk2 => by
  have hd : l.length = done.length + (r.length + 1) := by simp [e]
  have hll : (l.map Cap.enc).length = l.length := by simp
  have hx : (l.map Cap.enc)[n.toNat]? = some (Cap.enc x) := by simp [e, hn]
  have hbl := au x.value
  have hct : capT (x :: r) = (2 + x.value.length) + capT r := rfl
  have hcr := kf r
  have hbr : (x.value.length : Int) = 4 → ((x.value = be 4 (u64 m.as)) = (((rd x.value : Nat) : Int) = m.as)) := fun hv => propext (alp (by omega) ha1 ha2).symm
  have hrd := Jl x.value
  rcases List.eq_nil_or_concat done with hd0 | ⟨d, q, hd1⟩
  ·have hn' : n = 0 := by rw [hn, hd0]; rfl
   obtain rfl : p = none := by rw [hp, hd0]; rfl
   clear hp
   refine evl ?_
   repeat' ((conv => whnf); first | refine kV (oh x.value (by omega)) ?_ | refine zCR (x := x.value) (by omega) ?_ | refine dz ?_ | (refine aa ?_ ?_ <;> intro h))
   all_goals (try simp only [hbl] at *)
   all_goals try (refine ax ?_; first | rfl | (simp [bq, cx, Bool.cond_eq_ite, *]; done) | (simp [bq, cx, Bool.cond_eq_ite, *]; omega) | (unfold bq cx; repeat' split; all_goals first | rfl | (exfalso; omega) | (simp_all; done) | (simp_all; omega)))
   all_goals first
    | (rw [show bq m.as none k w (x :: r) = bq m.as (some x.code) (k + (2 + x.value.length)) w r from by first | (simp [bq, cx, *]; done) | (simp [bq, cx, *]; omega)]
       refine ag [10, 11, 12, 3, 1, 4] [65] ?_; exact iw l m hl1 ha1 ha2 hl ln hln r (done ++ [x]) (some x.code) (k + (2 + x.value.length)) w _ _ _ (n + 1) (by simp [e]) (by simp [hn] <;> omega) (by simp) (by omega) (by omega)
       )
    | (rw [show bq m.as none k w (x :: r) = bq m.as (some x.code) (k + (2 + x.value.length)) true r from by first | (simp [bq, cx, *]; done) | (simp [bq, cx, *]; omega)]
       refine ag [10, 11, 12, 3, 1, 4] [65] ?_; exact iw l m hl1 ha1 ha2 hl ln hln r (done ++ [x]) (some x.code) (k + (2 + x.value.length)) true _ _ _ (n + 1) (by simp [e]) (by simp [hn] <;> omega) (by simp) (by omega) (by omega)
       )
  ·have hn' : n - 1 = d.length := by rw [hn, hd1]; simp
   have hn2 : n > 0 := by omega
   obtain rfl : p = some q.code := by rw [hp, hd1]; simp
   clear hp
   have hml : (m.caps.map Cap.enc).length = l.length := by rw [hl1]; simp
   have hy : (m.caps.map Cap.enc)[(n - 1).toNat]? = some (Cap.enc q) := by rw [hl1, e, hd1, hn']; simp
   have hb : (n - 1).toNat < (m.caps.map Cap.enc).length := by rw [hml, hd, hd1]; simp; omega
   refine evl ?_
   repeat' ((conv => whnf); first | refine kV (oh x.value (by omega)) ?_ | refine zCR (x := x.value) (by omega) ?_ | refine dz ?_ | (refine aa ?_ ?_ <;> intro h))
   all_goals (try simp only [hbl] at *)
   all_goals try (refine ax ?_; first | rfl | (simp [bq, cx, Bool.cond_eq_ite, *]; done) | (simp [bq, cx, Bool.cond_eq_ite, *]; omega) | (unfold bq cx; repeat' split; all_goals first | rfl | (exfalso; omega) | (simp_all; done) | (simp_all; omega)))
   all_goals first
    | (rw [show bq m.as (some q.code) k w (x :: r) = bq m.as (some x.code) (k + (2 + x.value.length)) w r from by first | (simp [bq, cx, *]; done) | (simp [bq, cx, *]; omega)]
       refine ag [10, 11, 12, 3, 1, 4] [65] ?_; exact iw l m hl1 ha1 ha2 hl ln hln r (done ++ [x]) (some x.code) (k + (2 + x.value.length)) w _ _ _ (n + 1) (by simp [e]) (by simp [hn] <;> omega) (by simp) (by omega) (by omega)
       )
    | (rw [show bq m.as (some q.code) k w (x :: r) = bq m.as (some x.code) (k + (2 + x.value.length)) true r from by first | (simp [bq, cx, *]; done) | (simp [bq, cx, *]; omega)]
       refine ag [10, 11, 12, 3, 1, 4] [65] ?_; exact iw l m hl1 ha1 ha2 hl ln hln r (done ++ [x]) (some x.code) (k + (2 + x.value.length)) true _ _ _ (n + 1) (by simp [e]) (by simp [hn] <;> omega) (by simp) (by omega) (by omega)
       )
theorem xz (m : PMsg) (hm : m.caps.length < 2 ^ 40) (ht : capT m.caps < 2 ^ 50) (ha1 : 0 ≤ m.as) (ha2 : m.as ≤ 4294967295) : ah G 173 [.agg m.enc] [] ⟨.int .i64 (bq m.as none 0 false m.caps), []⟩ := by
 have l1 : (m.caps.map Cap.enc).length = m.caps.length := by simp
 refine ae (F := Re) rfl rfl (az 300 _ _ _ _ ?_)
 repeat' (first | refine ab ?_ | (refine aa ?_ ?_ <;> intro h))
 refine ag [10, 11, 12, 3, 1, 4] [65] ?_
 rw [l1]
 exact iw m.caps m rfl ha1 ha2 hm _ rfl m.caps [] none 0 false _ _ _ 0 rfl rfl rfl (by omega) (by omega)
end Go.AM.IR
namespace Go.AM.IR
theorem nr (l : List TLV) (a : Attrs) (ha : a.unknown = l) (hv : ∀ t ∈ l, t.value.length < 2 ^ 40) (hl : l.length < 2 ^ 40) (ln : Int) (hln : ln = l.length) : ∀ (rest done : List TLV) (p : Option Int) (T : List (Nat × AV)) (H : aq) (c : Nat) (n : Int) (e : l = done ++ rest) (hn : n = done.length) (hp : p = done.getLast?.map (·.kind)), Ev G ⟨Qv, ⟨(121, .sl 2 (l.map TLV.enc)) :: (122, .int .i64 ln) :: (123, .int .i64 n) :: (1, .ref 65 1 0) :: T, (65, some (1, .cells a.enc)) :: H, c⟩, [.t 2], 0⟩ ⟨.int .i64 (cp p rest), []⟩
 | [], done, p, T, H, c, n, e, hn, hp => by
  have hd : l.length = done.length := by simp [e]
  have hll : (l.map TLV.enc).length = l.length := by simp
  refine evl ?_
  repeat' (first | refine ab ?_ | (refine aa ?_ ?_ <;> intro h))
  all_goals try (refine ax ?_; first | rfl | (simp [cp, Bool.cond_eq_ite, *]; done) | (simp [cp, Bool.cond_eq_ite, *]; omega) | (unfold cp; repeat' split; all_goals first | rfl | (exfalso; omega) | (simp_all; done) | (simp_all; omega)))
 | x :: r, done, p, T, H, c, n, e, hn, hp => by
  have hd : l.length = done.length + (r.length + 1) := by simp [e]
  have hll : (l.map TLV.enc).length = l.length := by simp
  have hx : (l.map TLV.enc)[n.toNat]? = some (TLV.enc x) := by simp [e, hn]
  subst ha
  have hxv : x.value.length < 2 ^ 40 := hv x (by simp [e])
  have hbl : (byteCells x.value).length = x.value.length := by simp [byteCells]
  rcases List.eq_nil_or_concat done with rfl | ⟨d, q, rfl⟩
  ·obtain rfl : p = none := by simp [hp]
   simp only [List.length_nil] at hn hd
   refine evl ?_
   repeat' (first | refine ab ?_ | (refine aa ?_ ?_ <;> intro h))
   all_goals try (refine ax ?_; first | rfl | (simp [cp, Bool.cond_eq_ite, *]; done) | (simp [cp, Bool.cond_eq_ite, *]; omega) | (unfold cp; repeat' split; all_goals first | rfl | (exfalso; omega) | (simp_all; done) | (simp_all; omega)))
   rw [show cp none (x :: r) = cp (some x.kind) r from by simp [cp]; omega]
   refine ag [121, 122, 123, 1] [65] ?_; exact nr a.unknown a rfl hv hl ln hln r [x] (some x.kind) _ _ _ (n + 1) (by simp [e]) (by simp [hn]) (by simp)
  ·obtain rfl : p = some q.kind := by simp [hp]
   simp only [List.concat_eq_append, List.length_append, List.length_singleton] at hn hd
   have hn1 : (n - 1).toNat = d.length := by omega
   have hy : (a.unknown.map TLV.enc)[(n - 1).toNat]? = some (TLV.enc q) := by rw [hn1, e]; simp
   refine evl ?_
   repeat' (first | refine ab ?_ | (refine aa ?_ ?_ <;> intro h))
   all_goals try (refine ax ?_; first | rfl | (simp [cp, Bool.cond_eq_ite, *]; done) | (simp [cp, Bool.cond_eq_ite, *]; omega) | (unfold cp; repeat' split; all_goals first | rfl | (exfalso; omega) | (simp_all; done) | (simp_all; omega)))
   rw [show cp (some q.kind) (x :: r) = cp (some x.kind) r from by simp [cp]; omega]
   refine ag [121, 122, 123, 1] [65] ?_; exact nr a.unknown a rfl hv hl ln hln r (d ++ [q] ++ [x]) (some x.kind) _ _ _ (n + 1) (by simp [e]) (by simp [hn] <;> omega) (by simp)
theorem wQ (l : List Int) (a : Attrs) (ha : a.clusters = l) (hu : a.unknown.length < 2 ^ 40) (hv : ∀ t ∈ a.unknown, t.value.length < 2 ^ 40) (hl : l.length < 2 ^ 40) (ln : Int) (hln : ln = l.length) : ∀ (rest done : List Int)  (T : List (Nat × AV)) (H : aq) (c : Nat) (n : Int) (e : l = done ++ rest) (hn : n = done.length) , Ev G ⟨Qw, ⟨(107, .sl 1 (l.map bf)) :: (108, .int .i64 ln) :: (109, .int .i64 n) :: (1, .ref 65 1 0) :: T, (65, some (1, .cells a.enc)) :: H, c⟩, [.t 2], 0⟩ ⟨.int .i64 (if clS rest = 0 then cO a.unknown else 1), []⟩
 | [], done,  T, H, c, n, e, hn => by
  have hd : l.length = done.length := by simp [e]
  have hll : (l.map bf).length = l.length := by simp
  have hul : (a.unknown.map TLV.enc).length = a.unknown.length := by simp
  rw [show (if clS [] = 0 then cO a.unknown else 1) = cO a.unknown from by simp [clS]]
  refine evl ?_
  repeat' (first | refine ab ?_ | (refine aa ?_ ?_ <;> intro h))
  all_goals try (refine ax ?_; first | rfl | (simp [cO, Bool.cond_eq_ite, *]; done) | (simp [cO, Bool.cond_eq_ite, *]; omega) | (unfold cO; repeat' split; all_goals first | rfl | (exfalso; omega) | (simp_all; done) | (simp_all; omega)))
  refine ag [121, 122, 123, 1] [65] ?_
  rw [show cO a.unknown = cp none a.unknown from by simp [cO]; omega]
  exact nr a.unknown a rfl hv hu _ (by simp) a.unknown [] _ _ _ _ 0 rfl rfl rfl
 | x :: r, done,  T, H, c, n, e, hn => by
  have hd : l.length = done.length + (r.length + 1) := by simp [e]
  have hll : (l.map bf).length = l.length := by simp
  have hx : (l.map bf)[n.toNat]? = some (bf x) := by simp [e, hn]
  refine evl ?_
  repeat' (first | refine ab ?_ | (refine aa ?_ ?_ <;> intro h))
  all_goals try (refine ax ?_; first | rfl | (simp [clS, Bool.cond_eq_ite, *]; done) | (simp [clS, Bool.cond_eq_ite, *]; omega) | (unfold clS; repeat' split; all_goals first | rfl | (exfalso; omega) | (simp_all; done) | (simp_all; omega)))
  rw [show clS (x :: r) = clS r from by simp [clS, *]]
  refine ag [107, 108, 109, 1] [65] ?_; exact wQ l a ha hu hv hl ln hln r (done ++ [x])  _ _ _ (n + 1) (by simp [e]) (by simp [hn] <;> omega)
theorem Tj : ∀ l, clS l = 0 ∨ clS l = 1
 | [] => .inl rfl
 | x :: r => by
  rw [clS]
  split
  ·exact .inr rfl
  ·exact Tj r
theorem Uo (x : Int) : cR [x] = x := by
 simp only [cR]; split <;> simp_all
theorem Dm (l : List Int) : cR (0 :: l) = cR l := by simp [cR]
theorem Cj (a : Attrs) (h : (gy a).take 9 = [0, 0, 0, 0, 0, 0, 0, 0, 0]) (hc : ¬ (((a.clusters.map bf).length : Int) > 64)) : bW a = if clS a.clusters = 0 then cO a.unknown else 1 := by
 have e : gy a = (gy a).take 9 ++ [dI a.clusters, cO a.unknown] := rfl
 have hce : dI a.clusters = clS a.clusters := by unfold dI; rw [if_neg (by simp at hc; omega)]
 unfold bW
 rw [e, h]
 simp only [List.cons_append, List.nil_append, Dm, hce]
 rcases Tj a.clusters with h | h
 ·rw [h, Dm, Uo, if_pos rfl]
 ·rw [h, if_neg (by omega)]; simp [cR]
theorem alR {h : Bool} {x : Int} (q : h = (x != 0)) : mo h x = 0 := by
 subst q
 by_cases h : x = 0
 ·simp [mo, h]
 ·have e1 : (x != 0) = true := by simpa using h
  have e2 : (x == 0) = false := by simpa using h
  rw [mo, e1, e2]; rfl
theorem alQ {h : Bool} {x : Int} (q : ¬ h = (x != 0)) : mo h x = 1 := by
 by_cases e : x = 0 <;> cases h <;> simp_all [mo]
theorem kM (a : Attrs) (h : LenB a) : ah G 66 [.agg a.enc] [] ⟨.int .i64 (bW a), []⟩ := by
 obtain ⟨h1, h2, h3, h4, h5, h6⟩ := h
 have hcl : (a.clusters.map bf).length = a.clusters.length := by simp
 refine ae (F := f66) rfl rfl (az 300 _ _ _ _ ?_)
 repeat' (first | refine ab ?_ | refine kV (xZ _) ?_ | refine kV (xw a.path h1 h2) ?_ | refine kV (Bm a.comms h3) ?_ | (refine aa ?_ ?_ <;> intro h))
 all_goals try (have hN : a.clusters.length > 64 := by omega)
 all_goals try (rename (a.hasOrig = (a.orig != 0)) => hq; replace hq := alR hq)
 all_goals try (rename (¬ a.hasOrig = (a.orig != 0)) => hq; replace hq := alQ hq)
 all_goals try (refine ax ?_; first | rfl | (simp [bW, gy, cR, jM, dI, Bool.cond_eq_ite, *]; done) | (simp [bW, gy, cR, jM, dI, Bool.cond_eq_ite, *]; omega) | (unfold bW gy cR jM dI; repeat' split; all_goals first | rfl | (exfalso; omega) | (simp_all; done) | (simp_all; omega)))
 all_goals (rw [Cj a (by simp [gy, jM, *]) (by assumption)]; refine ag [107, 108, 109, 1] [65] ?_; exact wQ a.clusters a rfl h5 h6 h4 _ (by simp) a.clusters [] _ _ _ 0 rfl rfl)
end Go.AM.IR
