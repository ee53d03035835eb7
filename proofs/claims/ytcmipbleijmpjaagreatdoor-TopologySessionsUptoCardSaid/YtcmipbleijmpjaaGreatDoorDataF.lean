/- What the functions of this program give, on the abstract machine. -/
import Derived.Test.YtcmipbleijmpjaaGreatDoorDataE
import Derived.Test.YtcmipbleijmpjaaGreatDoorDataA
set_option linter.unusedVariables false
set_option linter.unusedSimpArgs false
set_option maxHeartbeats 4000000
set_option maxRecDepth 20000
namespace Go.AM.IR
def dJ (t : Topo) (e : LEnd) : Ifc := (fH t e).getD ifcZ
theorem gV (t : Topo) (e : LEnd) (ht : t.routers.length < 2 ^ 40) (hf : ∀ c ∈ t.routers, c.ls.ifs.length < 2 ^ 40) : ax G 429 [.agg t.enc, .agg e.enc] [] ⟨.tup [.agg (dJ t e).enc, .bool (fH t e).isSome], []⟩ := by
 have h := kL t e ht hf
 unfold dJ
 cases ho : fH t e <;> rw [ho] at h <;> exact h
def xL (t : Topo) (a : Ifc) : List LEnd → Int
 | [] => 0
 | x :: r => if a.kind ≠ (dJ t x).kind then 14 else if ¬ (a.pfx.addr = (dJ t x).pfx.addr ∧ a.pfx.len = (dJ t x).pfx.len) then 14 else if a.area ≠ (dJ t x).area then 14 else if a.hello ≠ (dJ t x).hello then 14 else if a.dead ≠ (dJ t x).dead then 14 else xL t a r
def og (t : Topo) (y : Lnk) (a : Ifc) : List LEnd → Int
 | [] => xL t a y.ends
 | x :: r => if (dJ t x).kind ≠ 2 ∧ 2 < y.ends.length then 15 else og t y a r
def oh (t : Topo) (i : Nat) (y : Lnk) : Int :=
 if y.ends.length < 2 then 1 else if y.delay < 1 then 5 else if 60 < y.delay then 5 else if kg t (t.links.take i) [] y.ends ≠ 0 then kg t (t.links.take i) [] y.ends else
 match y.ends with
 | [] => 0
 | x :: _ => og t y (dJ t x) y.ends
theorem lk25 (l : List LEnd) (t : Topo) (hrl : t.routers.length < 2 ^ 40) (hif : ∀ c ∈ t.routers, c.ls.ifs.length < 2 ^ 40) (y : Lnk) (hy : y.ends = l) (a : Ifc) (g5 g7 : Nat) (hl : l.length < 2 ^ 40) (ln : Int) (hln : ln = l.length) : ∀ (rest done : List LEnd)  (T : List (Nat × AV)) (H : aq) (c : Nat) (n : Int) (e : l = done ++ rest) (hn : n = done.length) , Ev G ⟨NA, ⟨(74, .sl 2 (l.map LEnd.enc)) :: (75, .int .i64 ln) :: (76, .int .i64 n) :: (5, .ref 69 g5 0) :: (2, .ref 66 1 0) :: (7, .ref 71 g7 0) :: T, (66, some (1, .cells t.enc)) :: (69, some (g5, .cells y.enc)) :: (71, some (g7, .cells a.enc)) :: H, c⟩, [.t 4], 0⟩ (⟨.int .i64 (xL t a rest), []⟩)
 | [], done,  T, H, c, n, e, hn => by
  have hd : l.length = done.length := by simp [e]
  have hll : (l.map LEnd.enc).length = l.length := by simp
  refine evl ?_
  repeat' (first | refine ae ?_ | (refine ab ?_ ?_ <;> intro h))
  refine ag ?_; rfl
 | x :: r, done,  T, H, c, n, e, hn => by
  have hd : l.length = done.length + (r.length + 1) := by simp [e]
  have hll : (l.map LEnd.enc).length = l.length := by simp
  have hx : (l.map LEnd.enc)[n.toNat]? = some (LEnd.enc x) := by simp [e, hn]
  have h1 := gV t x hrl hif
  have hz1 : (y.ends.map LEnd.enc)[n.toNat]? = some x.enc := by rw [hy]; exact hx
  have hz2 : (y.ends.map LEnd.enc).length = l.length := by simp [hy]
  rw [xL]
  generalize dJ t x = b at *
  generalize (fH t x).isSome = s at *
  by_cases c1 : a.kind = b.kind
  ·by_cases c2 : a.pfx.addr = b.pfx.addr
   ·by_cases c3 : a.pfx.len = b.pfx.len
    ·by_cases c4 : a.area = b.area
     ·by_cases c5 : a.hello = b.hello
      ·by_cases c6 : a.dead = b.dead
       ·rw [if_neg (by simp [c1]), if_neg (by simp [c2, c3]), if_neg (by simp [c4]), if_neg (by simp [c5]), if_neg (by simp [c6])]
        refine evl ?_
        repeat' (first | refine ae ?_ | (refine ab ?_ ?_ <;> intro h))
        refine am [74, 75, 76, 5, 2, 7] [66, 69, 71] ?_; exact lk25 l t hrl hif y hy a g5 g7 hl ln hln r (done ++ [x])  _ _ _ (n + 1) (by simp [e]) (by simp [hn] <;> omega)
       ·rw [if_neg (by simp [c1]), if_neg (by simp [c2, c3]), if_neg (by simp [c4]), if_neg (by simp [c5]), if_pos c6]
        refine evl ?_
        repeat' (first | refine ae ?_ | (refine ab ?_ ?_ <;> intro h))
        refine ag ?_; rfl
      ·rw [if_neg (by simp [c1]), if_neg (by simp [c2, c3]), if_neg (by simp [c4]), if_pos c5]
       refine evl ?_
       repeat' (first | refine ae ?_ | (refine ab ?_ ?_ <;> intro h))
       refine ag ?_; rfl
     ·rw [if_neg (by simp [c1]), if_neg (by simp [c2, c3]), if_pos c4]
      refine evl ?_
      repeat' (first | refine ae ?_ | (refine ab ?_ ?_ <;> intro h))
      refine ag ?_; rfl
    ·rw [if_neg (by simp [c1]), if_pos (by simp [c3])]
     refine evl ?_
     repeat' (first | refine ae ?_ | (refine ab ?_ ?_ <;> intro h))
     refine ag ?_; rfl
   ·rw [if_neg (by simp [c1]), if_pos (by simp [c2])]
    refine evl ?_
    repeat' (first | refine ae ?_ | (refine ab ?_ ?_ <;> intro h))
    refine ag ?_; rfl
  ·rw [if_pos c1]
   refine evl ?_
   repeat' (first | refine ae ?_ | (refine ab ?_ ?_ <;> intro h))
   refine ag ?_; rfl
theorem PT (l : List LEnd) (t : Topo) (hrl : t.routers.length < 2 ^ 40) (hif : ∀ c ∈ t.routers, c.ls.ifs.length < 2 ^ 40) (y : Lnk) (hy : y.ends = l) (a : Ifc) (g5 g7 : Nat) (hl : l.length < 2 ^ 40) (ln : Int) (hln : ln = l.length) : ∀ (rest done : List LEnd)  (T : List (Nat × AV)) (H : aq) (c : Nat) (n : Int) (e : l = done ++ rest) (hn : n = done.length) , Ev G ⟨NB, ⟨(48, .sl 2 (l.map LEnd.enc)) :: (49, .int .i64 ln) :: (50, .int .i64 n) :: (5, .ref 69 g5 0) :: (2, .ref 66 1 0) :: (7, .ref 71 g7 0) :: T, (66, some (1, .cells t.enc)) :: (69, some (g5, .cells y.enc)) :: (71, some (g7, .cells a.enc)) :: H, c⟩, [.t 4], 0⟩ (⟨.int .i64 (og t y a rest), []⟩)
 | [], done,  T, H, c, n, e, hn => by
  have hd : l.length = done.length := by simp [e]
  have hll : (l.map LEnd.enc).length = l.length := by simp
  have hz2 : (y.ends.map LEnd.enc).length = l.length := by simp [hy]
  have hy' : y.ends.map LEnd.enc = l.map LEnd.enc := by rw [hy]
  rw [og, hy]
  refine evl ?_
  repeat' (first | refine ae ?_ | (refine ab ?_ ?_ <;> intro h))
  refine am [74, 75, 76, 5, 2, 7] [66, 69, 71] ?_
  rw [hy']
  exact lk25 l t hrl hif y hy a g5 g7 hl _ (by simp) l [] _ _ _ 0 rfl rfl
 | x :: r, done,  T, H, c, n, e, hn => by
  have hd : l.length = done.length + (r.length + 1) := by simp [e]
  have hll : (l.map LEnd.enc).length = l.length := by simp
  have hx : (l.map LEnd.enc)[n.toNat]? = some (LEnd.enc x) := by simp [e, hn]
  have h1 := gV t x hrl hif
  have hz1 : (y.ends.map LEnd.enc)[n.toNat]? = some x.enc := by rw [hy]; exact hx
  have hz2 : (y.ends.map LEnd.enc).length = l.length := by simp [hy]
  have hz3 : y.ends.length = l.length := by simp [hy]
  rw [og]
  generalize dJ t x = b at *
  generalize (fH t x).isSome = s at *
  by_cases c1 : b.kind = 2
  ·rw [if_neg (by simp [c1])]
   refine evl ?_
   repeat' (first | refine ae ?_ | (refine ab ?_ ?_ <;> intro h))
   refine am [48, 49, 50, 5, 2, 7] [66, 69, 71] ?_; exact PT l t hrl hif y hy a g5 g7 hl ln hln r (done ++ [x])  _ _ _ (n + 1) (by simp [e]) (by simp [hn] <;> omega)
  ·by_cases c2 : 2 < y.ends.length
   ·rw [if_pos ⟨c1, c2⟩]
    refine evl ?_
    repeat' (first | refine ae ?_ | (refine ab ?_ ?_ <;> intro h))
    refine ag ?_; rfl
   ·rw [if_neg (fun h => c2 h.2)]
    refine evl ?_
    repeat' (first | refine ae ?_ | (refine ab ?_ ?_ <;> intro h))
    refine am [48, 49, 50, 5, 2, 7] [66, 69, 71] ?_; exact PT l t hrl hif y hy a g5 g7 hl ln hln r (done ++ [x])  _ _ _ (n + 1) (by simp [e]) (by simp [hn] <;> omega)
theorem w8 (t : Topo) (hrl : t.routers.length < 2 ^ 40) (hif : ∀ c ∈ t.routers, c.ls.ifs.length < 2 ^ 40) (htl : t.links.length < 2 ^ 40) (hel : ∀ y ∈ t.links, y.ends.length < 2 ^ 40) (i : Nat) (y : Lnk) (hy : t.links[i]? = some y) : ax G 401 [.agg t.enc, .int .i64 (i : Int)] [] ⟨.int .i64 (oh t i y), []⟩ := by
 have hi : i < t.links.length := (List.getElem?_eq_some_iff.1 hy).1
 have hy1 : (t.links.map Lnk.enc)[((i : Nat) : Int).toNat]? = some y.enc := by simp [hy]
 have hy2 : (t.links.map Lnk.enc).length = t.links.length := by simp
 have hy3 : (y.ends.map LEnd.enc).length = y.ends.length := by simp
 have h0 := xg t hrl hif htl hel i y hy
 have hye := hel y (List.mem_of_getElem? hy)
 rw [oh]
 generalize hE : kg t (t.links.take i) [] y.ends = E at *
 by_cases c1 : y.ends.length < 2
 ·rw [if_pos c1]
  refine aa (F := f401) rfl rfl (ah 300 _ _ _ _ ?_)
  repeat' (first | refine ae ?_ | (refine ab ?_ ?_ <;> intro h))
  refine ag ?_; rfl
 rw [if_neg c1]
 by_cases c2 : y.delay < 1
 ·rw [if_pos c2]
  refine aa (F := f401) rfl rfl (ah 300 _ _ _ _ ?_)
  repeat' (first | refine ae ?_ | (refine ab ?_ ?_ <;> intro h))
  refine ag ?_; rfl
 rw [if_neg c2]
 by_cases c3 : 60 < y.delay
 ·rw [if_pos c3]
  refine aa (F := f401) rfl rfl (ah 300 _ _ _ _ ?_)
  repeat' (first | refine ae ?_ | (refine ab ?_ ?_ <;> intro h))
  refine ag ?_; rfl
 rw [if_neg c3]
 by_cases c4 : E = 0
 ·rw [if_neg (by simp [c4])]
  rcases hq : y.ends with _ | ⟨x, q⟩
  ·rw [hq] at c1; simp at c1
  ·have h1 := gV t x hrl hif
   have hx0 : (y.ends.map LEnd.enc)[(0 : Int).toNat]? = some x.enc := by rw [hq]; rfl
   show ax G 401 [.agg t.enc, .int .i64 (i : Int)] [] ⟨.int .i64 (og t y (dJ t x) (x :: q)), []⟩
   rw [← hq]
   subst c4
   refine aa (F := f401) rfl rfl (ah 300 _ _ _ _ ?_)
   repeat' (first | refine ae ?_ | (refine ab ?_ ?_ <;> intro h))
   refine am [48, 49, 50, 5, 2, 7] [66, 69, 71] ?_
   rw [hy3]
   exact PT y.ends t hrl hif y rfl (dJ t x) _ _ hye _ rfl y.ends [] _ _ _ 0 rfl rfl
 ·rw [if_pos c4]
  refine aa (F := f401) rfl rfl (ah 300 _ _ _ _ ?_)
  repeat' (first | refine ae ?_ | (refine ab ?_ ?_ <;> intro h))
  refine ag ?_; rfl
end Go.AM.IR
namespace Go.AM.IR
def rtE (t : Topo) (d : List RConf) (q : RConf) : Int := if PM q.name = false then 1 else if dK t.routers q.name 0 < (d.length : Int) then 7 else if lsE q.ls = 0 then (if d.any (fun y => decide (y.ls.router = q.ls.router)) then 7 else PQ q) else lsE q.ls
theorem rx (t : Topo) (ht : t.routers.length < 2 ^ 40) (i : Nat) (q : RConf) (hq : t.routers[i]? = some q) (gd : q.good) : ax G 398 [.agg t.enc, .int .i64 (i : Int)] [] ⟨.int .i64 (rtE t (t.routers.take i) q), []⟩ := by
 have hi : i < t.routers.length := (List.getElem?_eq_some_iff.1 hq).1
 have m1 : (t.routers.map RConf.enc).length = t.routers.length := by simp
 have hx : (t.routers.map RConf.enc)[((i : Nat) : Int).toNat]? = some q.enc := by simp [hq]
 have hl : (t.routers.take i).length = i := by simp; omega
 have h1 := yW q.name gd.name
 have h2 := xd t ht q.name
 have h3 : ax G 443 [.agg [.int .u32 q.ls.router, .sl 9 (q.ls.ifs.map Ifc.enc), .sl 4 (q.ls.ranges.map ARange.enc)]] [] ⟨.int .i64 (lsE q.ls), []⟩ := Di q.ls gd.ifs gd.rgs gd.ifo gd.rgo
 rw [rtE, hl]
 cases hn : PM q.name with
 | false =>
  rw [hn] at h1
  rw [if_pos rfl]
  refine aa (F := f398) rfl rfl (ah 300 _ _ _ _ ?_)
  repeat' (first | refine ae ?_ | (refine ab ?_ ?_ <;> intro h))
  refine ag ?_; rfl
 | true =>
 rw [hn] at h1
 rw [if_neg (by simp)]
 by_cases a : dK t.routers q.name 0 < (i : Int)
 ·rw [if_pos a]
  generalize dK t.routers q.name 0 = F at *
  refine aa (F := f398) rfl rfl (ah 300 _ _ _ _ ?_)
  repeat' (first | refine ae ?_ | (refine ab ?_ ?_ <;> intro h))
  refine ag ?_; rfl
 rw [if_neg a]
 by_cases b : lsE q.ls = 0
 ·rw [if_pos b]
  rw [b] at h3
  have h4 := fun g9 T H c => u5 t ht i hi q gd g9 i 0 T H c (by omega)
  rw [List.drop_zero] at h4
  generalize dK t.routers q.name 0 = F at *
  refine aa (F := f398) rfl rfl (ah 300 _ _ _ _ ?_)
  repeat' (first | refine ae ?_ | (refine ab ?_ ?_ <;> intro h))
  refine am [39, 5, 2, 38] [66, 69] ?_
  exact h4 _ _ _ _
 ·rw [if_neg b]
  generalize lsE q.ls = E at *
  generalize dK t.routers q.name 0 = F at *
  refine aa (F := f398) rfl rfl (ah 300 _ _ _ _ ?_)
  repeat' (first | refine ae ?_ | (refine ab ?_ ?_ <;> intro h))
  refine ag ?_; rfl
def za (t : Topo) : Nat → List Lnk → Int
 | _, [] => 0
 | i, x :: r => if oh t i x = 0 then za t (i + 1) r else oh t i x
def yi (t : Topo) : List RConf → List RConf → Int
 | _, [] => if mz [] (bM t.routers) = true then 7 else za t 0 t.links
 | d, x :: r => if rtE t d x = 0 then yi t (d ++ [x]) r else rtE t d x
def Lc (t : Topo) : Int := if 32 < t.routers.length then 4 else if 64 < t.links.length then 4 else yi t [] t.routers
structure Topo.good (t : Topo) : Prop where
 rs : t.routers.length < 2 ^ 40
 ls : t.links.length < 2 ^ 40
 es : ∀ y ∈ t.links, y.ends.length < 2 ^ 40
 as : (bM t.routers).length < 2 ^ 30
 good : ∀ x ∈ t.routers, x.good
theorem rQ (t : Topo) (g : t.good) : ∀ (rest done : List Lnk) (T : List (Nat × AV)) (H : aq) (c : Nat) (n : Int) (e : t.links = done ++ rest) (hn : n = done.length),
  Ev G ⟨NT, ⟨(36, .int .i64 n) :: (1, .ref 65 1 0) :: (35, .int .i64 t.links.length) :: T, (65, some (1, .cells t.enc)) :: H, c⟩, [.t 2], 0⟩ ⟨.int .i64 (za t done.length rest), []⟩
 | [], done, T, H, c, n, e, hn => by
  have hd : t.links.length = done.length := by simp [e]
  have hg := g.ls
  rw [za]
  refine evl ?_
  repeat' (first | refine ae ?_ | (refine ab ?_ ?_ <;> intro h))
  refine ag ?_; rfl
 | x :: r, done, T, H, c, n, e, hn => by
  have hd : t.links.length = done.length + (r.length + 1) := by simp [e]
  have hg := g.ls
  have h1 := w8 t g.rs (fun c hc => (g.good c hc).ifs) g.ls g.es done.length x (by simp [e])
  rw [← hn] at h1
  rw [za]
  by_cases h0 : oh t done.length x = 0
  ·rw [if_pos h0]
   rw [h0] at h1
   have ih := rQ t g r (done ++ [x])
   rw [List.length_append, List.length_singleton] at ih
   refine evl ?_
   repeat' ((conv => whnf); first | refine bG rfl ?_ | refine aP ?_ | (refine ab ?_ ?_ <;> intro h))
   refine am [36, 1, 35] [65] ?_
   exact ih _ _ _ (n + 1) (by simp [e]) (by simp [hn])
  ·rw [if_neg h0]
   generalize oh t done.length x = E at *
   refine evl ?_
   repeat' ((conv => whnf); first | refine cm h0 ?_ | refine aP ?_ | (refine ab ?_ ?_ <;> intro h))
   refine ag ?_; rfl
theorem ru (t : Topo) (g : t.good) : ∀ (rest done : List RConf) (T : List (Nat × AV)) (H : aq) (c : Nat) (n : Int) (e : t.routers = done ++ rest) (hn : n = done.length),
  Ev G ⟨NU, ⟨(20, .int .i64 n) :: (1, .ref 65 1 0) :: (19, .int .i64 t.routers.length) :: T, (65, some (1, .cells t.enc)) :: H, c⟩, [.t 2], 0⟩ ⟨.int .i64 (yi t done rest), []⟩
 | [], done, T, H, c, n, e, hn => by
  have hd : t.routers.length = done.length := by simp [e]
  have hg := g.rs
  have h1 := uX t g.rs g.as
  have hg2 := g.as
  have h2 := CU (bM t.routers) (by omega)
  have m1 : (t.links.map Lnk.enc).length = t.links.length := by simp
  rw [yi]
  cases hb : mz [] (bM t.routers) with
  | true =>
   rw [hb] at h2
   rw [if_pos rfl]
   refine evl ?_
   repeat' (first | refine ae ?_ | refine kZ [(95, _, _)] ⟨rfl, pz trivial⟩ (h2) ?_ | (refine ab ?_ ?_ <;> intro h))
   refine ag ?_; rfl
  | false =>
   rw [hb] at h2
   rw [if_neg (by simp)]
   refine evl ?_
   repeat' (first | refine ae ?_ | refine kZ [(95, _, _)] ⟨rfl, pz trivial⟩ (h2) ?_ | (refine ab ?_ ?_ <;> intro h))
   refine am [36, 1, 35] [65] ?_
   rw [m1]
   exact rQ t g t.links [] _ _ _ 0 rfl rfl
 | x :: r, done, T, H, c, n, e, hn => by
  have hd : t.routers.length = done.length + (r.length + 1) := by simp [e]
  have hg := g.rs
  have h1 := rx t g.rs done.length x (by simp [e]) (g.good x (by simp [e]))
  rw [show t.routers.take done.length = done from by simp [e], ← hn] at h1
  rw [yi]
  by_cases h0 : rtE t done x = 0
  ·rw [if_pos h0]
   rw [h0] at h1
   refine evl ?_
   repeat' ((conv => whnf); first | refine bG rfl ?_ | refine aP ?_ | (refine ab ?_ ?_ <;> intro h))
   refine am [20, 1, 19] [65] ?_
   exact ru t g r (done ++ [x]) _ _ _ (n + 1) (by simp [e]) (by simp [hn])
  ·rw [if_neg h0]
   generalize rtE t done x = E at *
   refine evl ?_
   repeat' ((conv => whnf); first | refine cm h0 ?_ | refine aP ?_ | (refine ab ?_ ?_ <;> intro h))
   refine ag ?_; rfl
theorem nR (t : Topo) (g : t.good) : ax G 380 [.agg t.enc] [] ⟨.int .i64 (Lc t), []⟩ := by
 have m1 : (t.routers.map RConf.enc).length = t.routers.length := by simp
 have m2 : (t.links.map Lnk.enc).length = t.links.length := by simp
 have g1 := g.rs
 have g2 := g.ls
 rw [Lc]
 by_cases a : 32 < t.routers.length
 ·rw [if_pos a]
  have a' : (t.routers.length : Int) > 32 := by omega
  refine aa (F := f380) rfl rfl (ah 300 _ _ _ _ ?_)
  repeat' (first | refine ae ?_ | (refine ab ?_ ?_ <;> intro h))
  refine ag ?_; rfl
 rw [if_neg a]
 have a' : ¬ (t.routers.length : Int) > 32 := by omega
 by_cases b : 64 < t.links.length
 ·rw [if_pos b]
  have b' : (t.links.length : Int) > 64 := by omega
  refine aa (F := f380) rfl rfl (ah 300 _ _ _ _ ?_)
  repeat' (first | refine ae ?_ | (refine ab ?_ ?_ <;> intro h))
  refine ag ?_; rfl
 rw [if_neg b]
 have b' : ¬ (t.links.length : Int) > 64 := by omega
 refine aa (F := f380) rfl rfl (ah 300 _ _ _ _ ?_)
 repeat' (first | refine ae ?_ | (refine ab ?_ ?_ <;> intro h))
 refine am [20, 1, 19] [65] ?_
 rw [m1]
 exact ru t g t.routers [] _ _ _ 0 rfl rfl
end Go.AM.IR
namespace Go.AM.IR
theorem Ll (x : Pfx) : 1 ≤ bkL x.enc := by simp only [Pfx.enc, bkL, AV.bk]; omega
theorem sG (x : Ifc) : 1 ≤ bkL x.enc := by simp only [Ifc.enc, bkL, AV.bk]; omega
theorem xx (x : ARange) : 1 ≤ bkL x.enc := by simp only [ARange.enc, bkL, AV.bk]; omega
theorem DA (x : Stat) : 1 ≤ bkL x.enc := by simp only [Stat.enc, bkL, AV.bk]; omega
theorem DB (x : LEnd) : 1 ≤ bkL x.enc := by simp only [LEnd.enc, bkL, AV.bk]; omega
theorem QK (x : Int) : 1 ≤ bkL (gj x) := by simp only [gj, bkL, AV.bk]; omega
theorem Mo (s : PSet) (h : bkL s.enc ≤ 1048576) (ok : s.ok) : s.good := by
 have l1 := bw (enc := PList.enc) (fun x => by have := Cg x; omega) s.prefixes
 have l2 := bw (enc := PathL.enc) (fun x => by have := Ce x; omega) s.paths
 have l3 := bw (enc := ComL.enc) (fun x => by have := JU x; omega) s.comms
 have l4 := bw (enc := Pol.enc) (fun x => by have := Og x; omega) s.pols
 simp only [PSet.enc, bkL, AV.bk] at h
 obtain ⟨o1, o2, o3, o4⟩ := ok
 refine ⟨by omega, by omega, by omega, by omega, fun x hx => ?_, fun x hx => ?_, fun x hx => ?_, fun x hx => ?_⟩
 ·have m := fJ (enc := PList.enc) hx
  have n := bw BX x.rules
  simp only [PList.enc, bkL, AV.bk] at m
  exact ⟨by omega, by omega, o1 x hx⟩
 ·have m := fJ (enc := PathL.enc) hx
  have n := bw Cd x.rules
  simp only [PathL.enc, bkL, AV.bk] at m
  refine ⟨by omega, by omega, fun r hr => ?_⟩
  have k := fJ (enc := PathR.enc) hr
  simp only [PathR.enc, bkL, AV.bk] at k
  omega
 ·have m := fJ (enc := ComL.enc) hx
  have n := bw JT x.rules
  simp only [ComL.enc, bkL, AV.bk] at m
  exact ⟨by omega, by omega, trivial⟩
 ·have m := fJ (enc := Pol.enc) hx
  have n := bw (enc := Trm.enc) (fun x => by have := Od x; omega) x.terms
  simp only [Pol.enc, bkL, AV.bk] at m
  refine ⟨by omega, by omega, fun t ht => ?_⟩
  have k := fJ (enc := Trm.enc) ht
  have n1 := bw (enc := Mat.enc) (fun x => by have := Oh x; omega) t.mats
  have n2 := bw (enc := Actn.enc) (fun x => by have := JV x; omega) t.acts
  simp only [Trm.enc, bkL, AV.bk] at k
  exact ⟨by omega, by omega, by omega, fun m hm => (((o4 x hx).1 t ht).1 m hm).2.2⟩
theorem Pb (q : PVC) : bkL q.pols.enc ≤ bkL q.enc := by
 simp only [PVC.enc, PSet.enc, bkL, AV.bk]; omega
theorem Qc (q : PVC) (h : bkL q.enc ≤ 1048576) (ok : q.ok) : q.good := by
 have h1 := Pb q
 have l1 := bw BZ q.peers
 have l2 := bw Ll q.nets
 obtain ⟨_, _, _, _, _, o6, o7, _⟩ := ok
 have g := Mo q.pols (by omega) o7
 simp only [PVC.enc, bkL, AV.bk] at h
 exact ⟨g, by omega, by omega, o6⟩
theorem OY (q : RConf) : bkL q.pv.enc ≤ bkL q.enc := by
 simp only [RConf.enc, PVC.enc, bkL, AV.bk]; omega
theorem KP (q : RConf) (h : bkL q.enc ≤ 1048576) (ok : q.ok) : q.good := by
 have h1 := OY q
 have l1 := bw sG q.ls.ifs
 have l2 := bw xx q.ls.ranges
 have l3 := bw Oe q.redist
 have l4 := bw DA q.stat
 have l5 := bw QK q.dists
 obtain ⟨⟨_, o1, o2⟩, o3, _, o5, _⟩ := ok
 have g := Qc q.pv (by omega) o3
 simp only [RConf.enc, bkL, AV.bk] at h
 exact ⟨g, by omega, by omega, by omega, o1, fun x hx => (o2 x hx).2, by omega, by omega, o5, by omega⟩
theorem Cw : ∀ l : List RConf, (bM l).length ≤ cH (l.map RConf.enc)
 | [] => by simp [bM]
 | c :: r => by
  have h1 := Cw r
  have h2 := bw sG c.ls.ifs
  have h3 : cH (c.ls.ifs.map Ifc.enc) ≤ bkL c.enc := by simp only [RConf.enc, bkL, AV.bk]; omega
  rw [bM, List.map_cons, cH, List.length_append, List.length_map]; omega
theorem vN (t : Topo) (h : bkL t.enc ≤ 1048576) (ok : t.ok) : t.good := by
 have l1 := bw (enc := RConf.enc) (fun x => by have := qN x; omega) t.routers
 have l2 := bw Ol t.links
 have l3 := Cw t.routers
 simp only [Topo.enc, bkL, AV.bk] at h
 refine ⟨by omega, by omega, fun y hy => ?_, by omega, fun x hx => ?_⟩
 ·have m := fJ (enc := Lnk.enc) hy
  have n := bw DB y.ends
  simp only [Lnk.enc, bkL, AV.bk] at m
  omega
 ·have m := fJ (enc := RConf.enc) hx
  exact KP x (by omega) (ok.1 x hx)
theorem LY : ∀ l : List RConf, (∀ c ∈ l, c.pv.peers.length ≤ 24) → szR l ≤ 24 * l.length
 | [], _ => by simp [szR]
 | c :: r, h => by
  have h1 := LY r (fun x hx => h x (by simp [hx]))
  have h2 := h c (by simp)
  have h3 : szR (c :: r) = c.pv.peers.length + szR r := by simp [szR]
  rw [h3, List.length_cons]; omega
theorem ye : ∀ l : List RConf, l.length ≤ 40 → (∀ c ∈ l, c.pv.peers.length ≤ 24) → szT l ≤ l.length * 23040
 | [], _, _ => by simp [szT]
 | c :: r, hl, h => by
  rw [List.length_cons] at hl
  have h1 := ye r (by omega) (fun x hx => h x (by simp [hx]))
  have h0 := LY r (fun x hx => h x (by simp [hx]))
  have h2 := h c (by simp)
  have h3 : c.pv.peers.length * szR r ≤ 24 * 960 := Nat.mul_le_mul h2 (by omega)
  rw [szT, List.length_cons]; omega
end Go.AM.IR
namespace Go.AM.IR
def d9 (r p : Int) : AV := .agg [.int .i64 r, .int .i64 p]
theorem gw (ks : List LK) (h : ∀ a b c d : Int, eqL ks [.int .i64 a, .int .i64 b] [.int .i64 c, .int .i64 d] = some (decide (a = c ∧ b = d))) (a b c d : Int) : eqK true ks (d9 a b) (d9 c d) = some (decide (a = c ∧ b = d)) := h a b c d
def CO (es : List (AV × AV)) : Prop := ∀ e ∈ es, ∃ r p : Int, e.1 = d9 r p
section
variable {ks : List LK} (h : ∀ a b c d : Int, eqL ks [.int .i64 a, .int .i64 b] [.int .i64 c, .int .i64 d] = some (decide (a = c ∧ b = d)))
include h
theorem l8 (r p : Int) : ∀ es, CO es → io true ks (d9 r p) es = true
 | [], _ => by rw [io, gw ks h]; rfl
 | e :: es, he => by
  obtain ⟨u, v, q⟩ := he e (by simp)
  rw [io, q, gw ks h, l8 r p es (fun x hx => he x (by simp [hx]))]; rfl
theorem p7 (r p u v : Int) : ∀ es, CO es → dv true ks (.bool false) (d9 r p) (dw true ks (d9 u v) (.bool true) es) = if r = u ∧ p = v then .bool true else dv true ks (.bool false) (d9 r p) es
 | [], _ => by
  show (bif eqK true ks (d9 r p) (d9 u v) == some true then AV.bool true else AV.bool false) = _
  rw [gw ks h]
  by_cases w : r = u ∧ p = v
  ·rw [decide_eq_true w, if_pos w]; rfl
  ·rw [decide_eq_false w, if_neg w]; rfl
 | e :: es, he => by
  obtain ⟨a, b, q⟩ := he e (by simp)
  have ih := p7 r p u v es (fun x hx => he x (by simp [hx]))
  rw [dw, q, gw ks h]
  by_cases x : u = a ∧ v = b
  ·rw [decide_eq_true x]
   show dv true ks (.bool false) (d9 r p) ((d9 u v, .bool true) :: es) = _
   show (bif eqK true ks (d9 r p) (d9 u v) == some true then AV.bool true else dv true ks (.bool false) (d9 r p) es) = _
   rw [dv, q, gw ks h, gw ks h]
   by_cases w : r = u ∧ p = v
   ·rw [decide_eq_true w, if_pos w]; rfl
   ·rw [decide_eq_false w, if_neg w, decide_eq_false (by rw [← x.1, ← x.2]; exact w)]; rfl
  ·rw [decide_eq_false x]
   show dv true ks (.bool false) (d9 r p) (e :: dw true ks (d9 u v) (.bool true) es) = _
   rw [dv, dv, q, gw ks h, ih]
   by_cases w : r = u ∧ p = v
   ·rw [if_pos w, if_pos w, decide_eq_false (by rw [w.1, w.2]; exact x)]; rfl
   ·rw [if_neg w, if_neg w]
theorem jV (u v : Int) : ∀ es, CO es → CO (dw true ks (d9 u v) (.bool true) es)
 | [], _ => by intro e he; simp only [dw, List.mem_singleton] at he; exact ⟨u, v, by rw [he]⟩
 | e :: es, he => by
  obtain ⟨a, b, q⟩ := he e (by simp)
  have ih := jV u v es (fun x hx => he x (by simp [hx]))
  rw [dw, q, gw ks h]
  by_cases x : u = a ∧ v = b
  ·rw [decide_eq_true x]
   intro y hy
   rcases List.mem_cons.1 hy with w | w
   ·exact ⟨u, v, by rw [w]⟩
   ·exact he y (by simp [w])
  ·rw [decide_eq_false x]
   intro y hy
   rcases List.mem_cons.1 hy with w | w
   ·exact he y (by simp [w])
   ·exact ih y w
end
end Go.AM.IR
namespace Go.AM.IR
theorem eu (a b c d : Int) : eqL [.int, .int] [.int .i64 a, .int .i64 b] [.int .i64 c, .int .i64 d] = some (decide (a = c ∧ b = d)) := by
 show some ((a == c) && ((b == d) && true)) = _
 by_cases x : a = c <;> by_cases y : b = d <;> simp [x, y]
theorem OL (o : List Sess) (s : Sess) (u v : Int) : fw (o ++ [s]) u v = (fw o u v || ((decide (s.a = u) && decide (s.x = v)) || (decide (s.b = u) && decide (s.y = v)))) := by simp [fw, List.any_append]
structure EndsOf (es : List (AV × AV)) (o : List Sess) : Prop where
 e : CO es
 m : ∀ u v : Int, dv true [.int, .int] (.bool false) (d9 u v) es = .bool (fw o u v)
theorem EndsOf.put {es : List (AV × AV)} {o : List Sess} (h : EndsOf es o) (i j k n : Int) : EndsOf (dw true [.int, .int] (d9 j n) (.bool true) (dw true [.int, .int] (d9 i k) (.bool true) es)) (o ++ [⟨i, j, k, n, false⟩]) := by
 refine ⟨jV eu j n _ (jV eu i k _ h.e), fun u v => ?_⟩
 rw [p7 eu u v j n _ (jV eu i k _ h.e), p7 eu u v i k _ h.e, h.m u v, OL]
 by_cases x : u = j ∧ v = n
 ·rw [if_pos x, decide_eq_true x.1.symm, decide_eq_true x.2.symm]; simp
 ·rw [if_neg x]
  by_cases y : u = i ∧ v = k
  ·rw [if_pos y, decide_eq_true y.1.symm, decide_eq_true y.2.symm]; simp
  ·rw [if_neg y]
   have x' : (decide (j = u) && decide (n = v)) = false := by
    simp only [Bool.and_eq_false_iff, decide_eq_false_iff_not]
    rcases Decidable.em (j = u) with h1 | h1
    ·right; intro h2; exact x ⟨h1.symm, h2.symm⟩
    ·exact .inl h1
   have y' : (decide (i = u) && decide (k = v)) = false := by
    simp only [Bool.and_eq_false_iff, decide_eq_false_iff_not]
    rcases Decidable.em (i = u) with h1 | h1
    ·right; intro h2; exact y ⟨h1.symm, h2.symm⟩
    ·exact .inl h1
   simp only [x', y', Bool.or_false]
theorem vo (t : Topo) (i j k : Int) (hj0 : 0 ≤ j) (hj : j < 2 ^ 40) (q w : RConf) (p : PeerC) (hl : w.pv.peers.length < 2 ^ 40) (P24 P15 P16 P17 P25 P26 : AV) (g6 g8 g10 gm : Nat) (R : Ret) (O : List Sess)
  (go : ∀ (es : List (AV × AV)) (hE : EndsOf es O) (g : Nat) (T : List (Nat × AV)) (H : aq) (c : Nat), Ev G ⟨wm, ⟨(7, .int .i64 k) :: (9, .int .i64 (j + 1)) :: (5, .int .i64 i) :: (4, .vs 169 g O.length) :: (3, .mp 77 gm) :: (8, .ref 72 g8 0) :: (6, .ref 70 g6 0) :: (1, .ref 65 1 0) :: (24, P24) :: (15, P15) :: (16, P16) :: (17, P17) :: (25, P25) :: (26, P26) :: T, (169, some (g, .vec 5 (O.map Sess.enc))) :: (77, some (gm, .mp es)) :: (72, some (g8, .cells p.enc)) :: (70, some (g6, .cells q.enc)) :: (65, some (1, .cells t.enc)) :: H, c⟩, [.t 2], 0⟩ R) :
  ∀ (rest done : List PeerC) (out : List Sess) (es : List (AV × AV)) (g : Nat) (T : List (Nat × AV)) (H : aq) (c : Nat) (n : Int) (e : w.pv.peers = done ++ rest) (hn : n = done.length) (hE : EndsOf es out) (hb : out.length + rest.length < 2 ^ 30) (hO : eU q w p i j k n rest out = O),
  Ev G ⟨NN, ⟨(49, .int .i64 n) :: (7, .int .i64 k) :: (9, .int .i64 j) :: (5, .int .i64 i) :: (4, .vs 169 g out.length) :: (3, .mp 77 gm) :: (8, .ref 72 g8 0) :: (10, .ref 74 g10 0) :: (6, .ref 70 g6 0) :: (47, .sl 11 (w.pv.peers.map PeerC.enc)) :: (1, .ref 65 1 0) :: (24, P24) :: (15, P15) :: (16, P16) :: (17, P17) :: (25, P25) :: (26, P26) :: (48, .int .i64 w.pv.peers.length) :: T, (169, some (g, .vec 5 (out.map Sess.enc))) :: (77, some (gm, .mp es)) :: (72, some (g8, .cells p.enc)) :: (74, some (g10, .cells w.enc)) :: (70, some (g6, .cells q.enc)) :: (65, some (1, .cells t.enc)) :: H, c⟩, [.t 2], 0⟩ R
 | [], done, out, es, g, T, H, c, n, e, hn, hE, hb, hO => by
  have hd : w.pv.peers.length = done.length := by simp [e]
  rw [eU] at hO
  subst hO
  refine evl ?_
  repeat' (first | refine ae ?_ | (refine ab ?_ ?_ <;> intro h))
  refine am [7, 9, 5, 4, 3, 8, 6, 1, 24, 15, 16, 17, 25, 26] [169, 77, 72, 70, 65] ?_
  exact go es hE _ _ _ _
 | z :: r, done, out, es, g, T, H, c, n, e, hn, hE, hb, hO => by
  have hd : w.pv.peers.length = done.length + (r.length + 1) := by simp [e]
  have m2 : (w.pv.peers.map PeerC.enc).length = w.pv.peers.length := by simp
  have hz1 : (w.pv.peers.map PeerC.enc)[n.toNat]? = some z.enc := by simp [e, hn]
  have hb0 : (z :: r).length = r.length + 1 := rfl
  have ih := fun out' es' hE' hb' hO' g T H c => vo t i j k hj0 hj q w p hl P24 P15 P16 P17 P25 P26 g6 g8 g10 gm R O go r (done ++ [z]) out' es' g T H c (n + 1) (by simp [e]) (by simp [hn]) hE' hb' hO'
  rw [eU] at hO
  cases a : q.hasPV with
  | false =>
   rw [fc _ _ _ _ _ _ _ _ _ (by simp [fq, a])] at hO
   refine evl ?_
   repeat' (first | refine ae ?_ | (refine ab ?_ ?_ <;> intro h))
   all_goals try (exfalso; simp_all only [Bool.false_eq_true, Bool.true_eq_false]; done)
   refine am [49, 7, 9, 5, 4, 3, 8, 10, 6, 47, 1, 24, 15, 16, 17, 25, 26, 48] [169, 77, 72, 74, 70, 65] ?_
   exact ih out es hE (by omega) hO _ _ _ _
  | true =>
  cases b : w.hasPV with
  | false =>
   rw [fc _ _ _ _ _ _ _ _ _ (by simp [fq, b])] at hO
   refine evl ?_
   repeat' (first | refine ae ?_ | (refine ab ?_ ?_ <;> intro h))
   all_goals try (exfalso; simp_all only [Bool.false_eq_true, Bool.true_eq_false]; done)
   refine am [49, 7, 9, 5, 4, 3, 8, 10, 6, 47, 1, 24, 15, 16, 17, 25, 26, 48] [169, 77, 72, 74, 70, 65] ?_
   exact ih out es hE (by omega) hO _ _ _ _
  | true =>
  by_cases c1 : p.addr = z.loc
  case neg =>
   rw [fc _ _ _ _ _ _ _ _ _ (by simp [fq, c1])] at hO
   refine evl ?_
   repeat' ((conv => whnf); first | refine aQ c1 ?_ | refine aP ?_ | (refine ab ?_ ?_ <;> intro h))
   all_goals try (exfalso; simp_all only [Bool.false_eq_true, Bool.true_eq_false]; done)
   refine am [49, 7, 9, 5, 4, 3, 8, 10, 6, 47, 1, 24, 15, 16, 17, 25, 26, 48] [169, 77, 72, 74, 70, 65] ?_
   exact ih out es hE (by omega) hO _ _ _ _
  by_cases c2 : z.addr = p.loc
  case neg =>
   rw [fc _ _ _ _ _ _ _ _ _ (by simp [fq, c2])] at hO
   refine evl ?_
   repeat' ((conv => whnf); first | refine ba c1 ?_ | refine aQ c2 ?_ | refine aP ?_ | (refine ab ?_ ?_ <;> intro h))
   all_goals try (exfalso; simp_all only [Bool.false_eq_true, Bool.true_eq_false]; done)
   refine am [49, 7, 9, 5, 4, 3, 8, 10, 6, 47, 1, 24, 15, 16, 17, 25, 26, 48] [169, 77, 72, 74, 70, 65] ?_
   exact ih out es hE (by omega) hO _ _ _ _
  have k1 := l8 eu i k es hE.e
  have k2 := l8 eu j n es hE.e
  have k3 := l8 eu j n _ (jV eu i k es hE.e)
  have v1 := hE.m i k
  have v2 := hE.m j n
  cases d1 : fw out i k with
  | true =>
   rw [e7, if_neg (by simp [d1])] at hO
   rw [d1] at v1
   refine evl ?_
   repeat' ((conv => whnf); first | refine ba c1 ?_ | refine ba c2 ?_ | refine aP ?_ | (refine ab ?_ ?_ <;> intro h))
   all_goals try (exfalso; simp_all only [Bool.false_eq_true, Bool.true_eq_false]; done)
   dsimp only
   erw [v1]
   repeat' (first | refine ae ?_ | (refine ab ?_ ?_ <;> intro h))
   refine am [49, 7, 9, 5, 4, 3, 8, 10, 6, 47, 1, 24, 15, 16, 17, 25, 26, 48] [169, 77, 72, 74, 70, 65] ?_
   exact ih out es hE (by omega) hO _ _ _ _
  | false =>
  rw [d1] at v1
  cases d2 : fw out j n with
  | true =>
   rw [e7, if_neg (by simp [d2])] at hO
   rw [d2] at v2
   refine evl ?_
   repeat' ((conv => whnf); first | refine ba c1 ?_ | refine ba c2 ?_ | refine aP ?_ | (refine ab ?_ ?_ <;> intro h))
   all_goals try (exfalso; simp_all only [Bool.false_eq_true, Bool.true_eq_false]; done)
   dsimp only
   erw [v1]
   repeat' (first | refine ae ?_ | (refine ab ?_ ?_ <;> intro h))
   dsimp only
   erw [v2]
   repeat' (first | refine ae ?_ | (refine ab ?_ ?_ <;> intro h))
   refine am [49, 7, 9, 5, 4, 3, 8, 10, 6, 47, 1, 24, 15, 16, 17, 25, 26, 48] [169, 77, 72, 74, 70, 65] ?_
   exact ih out es hE (by omega) hO _ _ _ _
  | false =>
  rw [e7, if_pos ⟨by simp [fq, a, b, c1, c2], d1, d2⟩] at hO
  rw [d2] at v2
  refine evl ?_
  repeat' ((conv => whnf); first | refine ba c1 ?_ | refine ba c2 ?_ | refine aP ?_ | (refine ab ?_ ?_ <;> intro h))
  all_goals try (exfalso; simp_all only [Bool.false_eq_true, Bool.true_eq_false]; done)
  dsimp only
  erw [v1]
  repeat' (first | refine ae ?_ | (refine ab ?_ ?_ <;> intro h))
  dsimp only
  erw [v2]
  repeat' (first | refine ae ?_ | (refine ab ?_ ?_ <;> intro h))
  refine am [49, 7, 9, 5, 4, 3, 8, 10, 6, 47, 1, 24, 15, 16, 17, 25, 26, 48] [169, 77, 72, 74, 70, 65] ?_
  have hO2 := ih (out ++ [⟨i, j, k, n, false⟩]) _ (hE.put i j k n) (by simp; omega) hO
  rw [List.map_append, List.length_append] at hO2
  exact hO2 _ _ _ _
end Go.AM.IR
namespace Go.AM.IR
def auk (t : Topo) (s : Sess) : Prop := ∃ (i j k m : Nat) (q w : RConf) (p z : PeerC), s = ⟨i, j, k, m, false⟩ ∧ i < j ∧ t.routers[i]? = some q ∧ t.routers[j]? = some w ∧ q.pv.peers[k]? = some p ∧ w.pv.peers[m]? = some z ∧ p.addr = z.loc ∧ z.addr = p.loc
def Lx (r s : Sess) : Prop := ¬ (r.a = s.a ∧ r.x = s.x) ∧ ¬ (r.b = s.b ∧ r.y = s.y) ∧ ¬ (r.b = s.a ∧ r.y = s.x)
def dG (t : Topo) (o : List Sess) : Prop := (∀ s ∈ o, auk t s) ∧ o.Pairwise Lx
theorem DJ {o : List Sess} {u v : Int} (h : fw o u v = false) (s : Sess) (hs : s ∈ o) : ¬ (s.a = u ∧ s.x = v) ∧ ¬ (s.b = u ∧ s.y = v) := by
 simp only [fw, List.any_eq_false, Bool.or_eq_true, Bool.and_eq_true, decide_eq_true_eq, not_or] at h
 exact h s hs
section
variable {t : Topo}
theorem Mg {q w : RConf} {p z : PeerC} {i j k m : Nat} {o : List Sess} (ho : dG t o) (hij : i < j) (hq : t.routers[i]? = some q) (hw : t.routers[j]? = some w) (hp : q.pv.peers[k]? = some p) (hz : w.pv.peers[m]? = some z) : dG t (e7 q w p z i j k m o) := by
 rw [e7]
 split
 ·rename_i h
  obtain ⟨h1, h2, h3⟩ := h
  simp only [fq, Bool.and_eq_true, decide_eq_true_eq] at h1
  refine ⟨fun s hs => ?_, List.pairwise_append.2 ⟨ho.2, List.pairwise_singleton _ _, fun r hr s hs => ?_⟩⟩
  ·rcases List.mem_append.1 hs with hs | hs
   ·exact ho.1 s hs
   ·rw [List.mem_singleton.1 hs]
    exact ⟨i, j, k, m, q, w, p, z, rfl, hij, hq, hw, hp, hz, h1.1.2, h1.2⟩
  ·rw [List.mem_singleton.1 hs]
   have a1 := DJ h2 r hr
   have a2 := DJ h3 r hr
   exact ⟨a1.1, a2.2, a1.2⟩
 ·exact ho
theorem mB {α : Type} {l r : List α} {n : Nat} {x : α} (e : l.drop n = x :: r) : l[n]? = some x ∧ l.drop (n + 1) = r := by
 have h : n < l.length := by
  rcases Nat.lt_or_ge n l.length with h | h
  ·exact h
  ·rw [List.drop_eq_nil_iff.2 h] at e; cases e
 rw [List.drop_eq_getElem_cons h] at e
 obtain ⟨e1, e2⟩ := List.cons.inj e
 exact ⟨by rw [List.getElem?_eq_getElem h, e1], e2⟩
theorem yD {q w : RConf} {p : PeerC} {i j k : Nat} (hij : i < j) (hq : t.routers[i]? = some q) (hw : t.routers[j]? = some w) (hp : q.pv.peers[k]? = some p) : ∀ (r : List PeerC) (m : Nat) (o : List Sess), w.pv.peers.drop m = r → dG t o → dG t (eU q w p i j k m r o)
 | [], _, _, _, h => h
 | z :: r, m, o, e, h => by
  obtain ⟨hz, e2⟩ := mB e
  rw [eU]
  exact yD hij hq hw hp r (m + 1) _ e2 (Mg h hij hq hw hp hz)
theorem yC {q : RConf} {p : PeerC} {i k : Nat} (hq : t.routers[i]? = some q) (hp : q.pv.peers[k]? = some p) : ∀ (r : List RConf) (j : Nat) (o : List Sess), i < j → t.routers.drop j = r → dG t o → dG t (eO q p i k j r o)
 | [], _, _, _, _, h => h
 | w :: r, j, o, hij, e, h => by
  obtain ⟨hw, e2⟩ := mB e
  rw [eO]
  exact yC hq hp r (j + 1) _ (by omega) e2 (yD hij hq hw hp _ 0 _ rfl h)
theorem yB {q : RConf} {i : Nat} (hq : t.routers[i]? = some q) : ∀ (r : List PeerC) (k : Nat) (o : List Sess), q.pv.peers.drop k = r → dG t o → dG t (eN q i (t.routers.drop (i + 1)) k r o)
 | [], _, _, _, h => h
 | p :: r, k, o, e, h => by
  obtain ⟨hp, e2⟩ := mB e
  rw [eN]
  exact yB hq r (k + 1) _ e2 (yC hq hp _ (i + 1) _ (by omega) rfl h)
theorem yA : ∀ (r : List RConf) (i : Nat) (o : List Sess), t.routers.drop i = r → dG t o → dG t (gb i r o)
 | [], _, _, _, h => h
 | q :: r, i, o, e, h => by
  obtain ⟨hq, e2⟩ := mB e
  rw [gb]
  have h2 := yB hq q.pv.peers 0 o rfl h
  rw [e2] at h2
  exact yA r (i + 1) _ e2 h2
theorem KA (t : Topo) : dG t (d8 t) := yA t.routers 0 [] rfl ⟨(fun s h => by cases h), List.Pairwise.nil⟩
end
end Go.AM.IR
namespace Go.AM.IR
theorem vn (t : Topo) (ht : t.routers.length < 2 ^ 40) (i k : Nat) (hk : k < 2 ^ 40) (q : RConf) (p : PeerC) (hpl : ∀ c ∈ t.routers, c.pv.peers.length < 2 ^ 40) (P24 P15 P16 P17 P25 : AV) (g6 g8 gm : Nat) (R : Ret) (O : List Sess)
  (go : ∀ (es : List (AV × AV)) (hE : EndsOf es O) (g : Nat) (T : List (Nat × AV)) (H : aq) (c : Nat), Ev G ⟨wl, ⟨(5, .int .i64 (i : Int)) :: (4, .vs 169 g O.length) :: (3, .mp 77 gm) :: (6, .ref 70 g6 0) :: (1, .ref 65 1 0) :: (26, .int .i64 ((k : Int) + 1)) :: (24, P24) :: (15, P15) :: (16, P16) :: (17, P17) :: (25, P25) :: T, (169, some (g, .vec 5 (O.map Sess.enc))) :: (77, some (gm, .mp es)) :: (70, some (g6, .cells q.enc)) :: (65, some (1, .cells t.enc)) :: H, c⟩, [.t 2], 0⟩ R) :
  ∀ (rest : List RConf) (j : Nat) (out : List Sess) (es : List (AV × AV)) (g : Nat) (T : List (Nat × AV)) (H : aq) (c : Nat) (e : t.routers.drop j = rest) (hj : j ≤ t.routers.length) (hE : EndsOf es out) (hb : out.length + szR rest < 2 ^ 30) (hO : eO q p i k j rest out = O),
  Ev G ⟨wm, ⟨(7, .int .i64 (k : Int)) :: (9, .int .i64 (j : Int)) :: (5, .int .i64 (i : Int)) :: (4, .vs 169 g out.length) :: (3, .mp 77 gm) :: (8, .ref 72 g8 0) :: (6, .ref 70 g6 0) :: (1, .ref 65 1 0) :: (24, P24) :: (15, P15) :: (16, P16) :: (17, P17) :: (25, P25) :: (26, .int .i64 (k : Int)) :: T, (169, some (g, .vec 5 (out.map Sess.enc))) :: (77, some (gm, .mp es)) :: (72, some (g8, .cells p.enc)) :: (70, some (g6, .cells q.enc)) :: (65, some (1, .cells t.enc)) :: H, c⟩, [.t 2], 0⟩ R
 | [], j, out, es, g, T, H, c, e, hj, hE, hb, hO => by
  have hd : t.routers.length ≤ j := List.drop_eq_nil_iff.1 e
  have m1 : (t.routers.map RConf.enc).length = t.routers.length := by simp
  rw [eO] at hO
  subst hO
  refine evl ?_
  repeat' (first | refine ae ?_ | (refine ab ?_ ?_ <;> intro h))
  refine am [5, 4, 3, 6, 1, 26, 24, 15, 16, 17, 25] [169, 77, 70, 65] ?_
  exact go es hE _ _ _ _
 | w :: r, j, out, es, g, T, H, c, e, hj, hE, hb, hO => by
  have hjl : j < t.routers.length := by
   rcases Nat.lt_or_ge j t.routers.length with h | h
   ·exact h
   ·rw [List.drop_eq_nil_iff.2 h] at e; cases e
  obtain ⟨hw, e2⟩ := mB e
  have hw1 : (t.routers.map RConf.enc)[((j : Nat) : Int).toNat]? = some w.enc := by simp [hw]
  have m1 : (t.routers.map RConf.enc).length = t.routers.length := by simp
  have m2 : (w.pv.peers.map PeerC.enc).length = w.pv.peers.length := by simp
  have hwl := hpl w (List.mem_of_getElem? hw)
  have hs : szR (w :: r) = w.pv.peers.length + szR r := by simp [szR]
  rw [hs] at hb
  rw [eO] at hO
  have hln := lI q w p i j k w.pv.peers 0 out
  refine evl ?_
  repeat' (first | refine ae ?_ | (refine ab ?_ ?_ <;> intro h))
  refine am [49, 7, 9, 5, 4, 3, 8, 10, 6, 47, 1, 24, 15, 16, 17, 25, 26, 48] [169, 77, 72, 74, 70, 65] ?_
  rw [m2]
  refine vo t i j k (by omega) (by omega) q w p hwl P24 P15 P16 P17 P25 _ g6 g8 _ gm R (eU q w p i j k 0 w.pv.peers out) (fun es hE g T H c => ?_) w.pv.peers [] out es _ _ _ _ 0 rfl rfl hE (by omega) rfl
  have ih := vn t ht i k hk q p hpl P24 P15 P16 P17 P25 g6 g8 gm R O go r (j + 1) (eU q w p i j k 0 w.pv.peers out) es g T H c e2 (by omega) hE (by omega) (by rw [Int.natCast_add]; exact hO)
  rw [Int.natCast_add] at ih
  exact ih
theorem vm (t : Topo) (ht : t.routers.length < 2 ^ 40) (i : Nat) (q : RConf) (hi : i < t.routers.length) (hql : q.pv.peers.length < 2 ^ 40) (hpl : ∀ c ∈ t.routers, c.pv.peers.length < 2 ^ 40) (P15 P16 : AV) (g6 gm : Nat) (R : Ret) (O : List Sess)
  (go : ∀ (es : List (AV × AV)) (hE : EndsOf es O) (g : Nat) (T : List (Nat × AV)) (H : aq) (c : Nat), Ev G ⟨wh, ⟨(4, .vs 169 g O.length) :: (3, .mp 77 gm) :: (1, .ref 65 1 0) :: (17, .int .i64 ((i : Int) + 1)) :: (15, P15) :: (16, P16) :: T, (169, some (g, .vec 5 (O.map Sess.enc))) :: (77, some (gm, .mp es)) :: (65, some (1, .cells t.enc)) :: H, c⟩, [.t 2], 0⟩ R) :
  ∀ (rest : List PeerC) (k : Nat) (out : List Sess) (es : List (AV × AV)) (g : Nat) (T : List (Nat × AV)) (H : aq) (c : Nat) (e : q.pv.peers.drop k = rest) (hk : k ≤ q.pv.peers.length) (hE : EndsOf es out) (hb : out.length + rest.length * szR (t.routers.drop (i + 1)) < 2 ^ 30) (hO : eN q i (t.routers.drop (i + 1)) k rest out = O),
  Ev G ⟨wl, ⟨(5, .int .i64 (i : Int)) :: (4, .vs 169 g out.length) :: (3, .mp 77 gm) :: (6, .ref 70 g6 0) :: (1, .ref 65 1 0) :: (26, .int .i64 (k : Int)) :: (24, .sl 11 (q.pv.peers.map PeerC.enc)) :: (15, P15) :: (16, P16) :: (17, .int .i64 (i : Int)) :: (25, .int .i64 q.pv.peers.length) :: T, (169, some (g, .vec 5 (out.map Sess.enc))) :: (77, some (gm, .mp es)) :: (70, some (g6, .cells q.enc)) :: (65, some (1, .cells t.enc)) :: H, c⟩, [.t 2], 0⟩ R
 | [], k, out, es, g, T, H, c, e, hk, hE, hb, hO => by
  have hd : q.pv.peers.length ≤ k := List.drop_eq_nil_iff.1 e
  rw [eN] at hO
  subst hO
  refine evl ?_
  repeat' (first | refine ae ?_ | (refine ab ?_ ?_ <;> intro h))
  refine am [4, 3, 1, 17, 15, 16] [169, 77, 65] ?_
  exact go es hE _ _ _ _
 | p :: r, k, out, es, g, T, H, c, e, hk, hE, hb, hO => by
  have hkl : k < q.pv.peers.length := by
   rcases Nat.lt_or_ge k q.pv.peers.length with h | h
   ·exact h
   ·rw [List.drop_eq_nil_iff.2 h] at e; cases e
  obtain ⟨hp, e2⟩ := mB e
  have hp1 : (q.pv.peers.map PeerC.enc)[((k : Nat) : Int).toNat]? = some p.enc := by simp [hp]
  have m1 : (q.pv.peers.map PeerC.enc).length = q.pv.peers.length := by simp
  rw [eN] at hO
  rw [List.length_cons, Nat.succ_mul] at hb
  have hln := lG q p i k (t.routers.drop (i + 1)) (i + 1) out
  refine evl ?_
  repeat' (first | refine ae ?_ | (refine ab ?_ ?_ <;> intro h))
  refine am [7, 9, 5, 4, 3, 8, 6, 1, 24, 15, 16, 17, 25, 26] [169, 77, 72, 70, 65] ?_
  have hl := vn t ht i k (by omega) q p hpl (.sl 11 (q.pv.peers.map PeerC.enc)) P15 P16 (.int .i64 (i : Int)) (.int .i64 q.pv.peers.length) g6
  refine hl _ gm R (eO q p i k (i + 1) (t.routers.drop (i + 1)) out) (fun es hE g T H c => ?_) (t.routers.drop (i + 1)) (i + 1) out es _ _ _ _ rfl (by omega) hE (by omega) rfl
  have ih := vm t ht i q hi hql hpl P15 P16 g6 gm R O go r (k + 1) (eO q p i k (i + 1) (t.routers.drop (i + 1)) out) es g T H c e2 (by omega) hE (by omega) (by rw [Int.natCast_add]; exact hO)
  rw [Int.natCast_add] at ih
  exact ih
theorem vl (t : Topo) (ht : t.routers.length < 2 ^ 40) (hpl : ∀ c ∈ t.routers, c.pv.peers.length < 2 ^ 40) (gm : Nat) (O : List Sess) :
  ∀ (rest : List RConf) (i : Nat) (out : List Sess) (es : List (AV × AV)) (g : Nat) (T : List (Nat × AV)) (H : aq) (c : Nat) (e : t.routers.drop i = rest) (hi : i ≤ t.routers.length) (hE : EndsOf es out) (hb : out.length + szT rest < 2 ^ 30) (hO : gb i rest out = O),
  Ev G ⟨wh, ⟨(4, .vs 169 g out.length) :: (3, .mp 77 gm) :: (1, .ref 65 1 0) :: (17, .int .i64 (i : Int)) :: (15, .sl 25 (t.routers.map RConf.enc)) :: (16, .int .i64 t.routers.length) :: T, (169, some (g, .vec 5 (out.map Sess.enc))) :: (77, some (gm, .mp es)) :: (65, some (1, .cells t.enc)) :: H, c⟩, [.t 2], 0⟩ ⟨.vs 0 0 O.length, [(false, .vec 5 (O.map Sess.enc))]⟩
 | [], i, out, es, g, T, H, c, e, hi, hE, hb, hO => by
  have hd : t.routers.length ≤ i := List.drop_eq_nil_iff.1 e
  rw [gb] at hO
  subst hO
  refine evl ?_
  repeat' (first | refine ae ?_ | (refine ab ?_ ?_ <;> intro h))
  refine uF 169 _ _ _ rfl rfl puL ?_
  rfl
 | q :: r, i, out, es, g, T, H, c, e, hi, hE, hb, hO => by
  have hil : i < t.routers.length := by
   rcases Nat.lt_or_ge i t.routers.length with h | h
   ·exact h
   ·rw [List.drop_eq_nil_iff.2 h] at e; cases e
  obtain ⟨hq, e2⟩ := mB e
  have hq1 : (t.routers.map RConf.enc)[((i : Nat) : Int).toNat]? = some q.enc := by simp [hq]
  have m1 : (t.routers.map RConf.enc).length = t.routers.length := by simp
  have m2 : (q.pv.peers.map PeerC.enc).length = q.pv.peers.length := by simp
  have hql := hpl q (List.mem_of_getElem? hq)
  rw [gb] at hO
  rw [szT] at hb
  have hln := lD q i r q.pv.peers 0 out
  refine evl ?_
  repeat' (first | refine ae ?_ | (refine ab ?_ ?_ <;> intro h))
  refine am [5, 4, 3, 6, 1, 26, 24, 15, 16, 17, 25] [169, 77, 70, 65] ?_
  rw [m2]
  refine vm t ht i q hil hql hpl _ _ _ gm _ (eN q i r 0 q.pv.peers out) (fun es hE g T H c => ?_) q.pv.peers 0 out es _ _ _ _ rfl (by omega) hE (by rw [e2]; omega) (by rw [e2]; rfl)
  have ih := vl t ht hpl gm O r (i + 1) (eN q i r 0 q.pv.peers out) es g T H c e2 (by omega) hE (by omega) (by rw [Int.natCast_add]; exact hO)
  rw [Int.natCast_add] at ih
  exact ih
theorem kG (t : Topo) (ht : t.routers.length < 2 ^ 40) (hpl : ∀ c ∈ t.routers, c.pv.peers.length < 2 ^ 40) (hb : szT t.routers < 2 ^ 30) : ax G 389 [.agg t.enc] [] ⟨.vs 0 0 (d8 t).length, [(false, .vec 5 ((d8 t).map Sess.enc))]⟩ := by
 have m1 : (t.routers.map RConf.enc).length = t.routers.length := by simp
 refine aa (F := f389) rfl rfl (ah 300 _ _ _ _ ?_)
 repeat' (first | refine ae ?_ | (refine ab ?_ ?_ <;> intro h))
 refine lf 169 5 [(4, .vs 169 _ 0)] [] ⟨LeP.nilV _ _ _, trivial⟩ trivial ?_
 refine am [4, 3, 1, 17, 15, 16] [169, 77, 65] ?_
 rw [m1]
 exact vl t ht hpl _ (d8 t) t.routers 0 [] [] _ _ _ _ rfl (by omega) ⟨fun e h => (by cases h), fun u v => rfl⟩ (by simpa using hb) rfl
end Go.AM.IR
namespace Go.AM.IR
theorem vI (l : List Sess) (hl : l.length < 2 ^ 40) (g h : Nat) : ∀ (rest done : List Sess) (T : List (Nat × AV)) (H : aq) (c : Nat) (n : Int) (e : l = done ++ rest) (hn : n = done.length),
  Ev G ⟨NX, ⟨(26, .int .i64 n) :: (4, .vs 82 h l.length) :: (3, .vs 80 g l.length) :: (25, .int .i64 l.length) :: T, (82, some (h, .vec 5 (l.map Sess.enc))) :: (80, some (g, .vec 5 (l.map Sess.enc))) :: H, c⟩, [.t 2], 0⟩ ⟨.bool true, []⟩
 | [], done, T, H, c, n, e, hn => by
  have hd : l.length = done.length := by simp [e]
  refine evl ?_
  repeat' (first | refine ae ?_ | refine kV (dq) ?_ | (refine ab ?_ ?_ <;> intro h))
  refine ag ?_; rfl
 | x :: r, done, T, H, c, n, e, hn => by
  have hd : l.length = done.length + (r.length + 1) := by simp [e]
  have m1 : (l.map Sess.enc).length = l.length := by simp
  have hx : (l.map Sess.enc)[n.toNat]? = some x.enc := by simp [e, hn]
  have ih := fun T H c => vI l hl g h r (done ++ [x]) T H c (n + 1) (by simp [e]) (by simp [hn])
  refine evl ?_
  repeat' (first | refine ae ?_ | (refine ab ?_ ?_ <;> intro h))
  refine am [26, 4, 3, 25] [82, 80] ?_
  exact ih _ _ _
end Go.AM.IR
namespace Go.AM.IR
theorem vH (t : Topo) (l : List Sess) (hl : l.length < 2 ^ 40) (s : Sess) (n : Nat) (hs : l[n]? = some s) (g : Nat) (go : ∀ (T : List (Nat × AV)) (H : aq) (c : Nat), Ev G ⟨wn, ⟨(3, .vs 84 g l.length) :: (23, .int .i64 ((n : Int) + 1)) :: (1, .ref 65 1 0) :: (22, .int .i64 l.length) :: T, (84, some (g, .vec 5 (l.map Sess.enc))) :: (65, some (1, .cells t.enc)) :: H, c⟩, [.t 2], 0⟩ ⟨.bool true, []⟩) : ∀ (f k : Nat) (T : List (Nat × AV)) (H : aq) (c : Nat) (hk : k + f = n) (hr : ∀ i, k ≤ i → i < n → ∀ r, l[i]? = some r → Lx r s),
  Ev G ⟨NW, ⟨(146, .int .i64 (k : Int)) :: (4, .int .i64 (n : Int)) :: (3, .vs 84 g l.length) :: (5, .int .i64 s.a) :: (6, .int .i64 s.b) :: (1, .ref 65 1 0) :: (22, .int .i64 l.length) :: (23, .int .i64 (n : Int)) :: (145, .int .i64 (n : Int)) :: T, (84, some (g, .vec 5 (l.map Sess.enc))) :: (65, some (1, .cells t.enc)) :: H, c⟩, [.t 2], 0⟩ ⟨.bool true, []⟩
 | 0, k, T, H, c, hk, hr => by
  have hn : n < l.length := (List.getElem?_eq_some_iff.1 hs).1
  refine evl ?_
  repeat' (first | refine ae ?_ | (refine ab ?_ ?_ <;> intro h))
  refine am [3, 23, 1, 22] [84, 65] ?_
  exact go _ _ _
 | f + 1, k, T, H, c, hk, hr => by
  have hn : n < l.length := (List.getElem?_eq_some_iff.1 hs).1
  have m1 : (l.map Sess.enc).length = l.length := by simp
  have hs1 : (l.map Sess.enc)[((n : Nat) : Int).toNat]? = some s.enc := by simp [hs]
  have hrk : l[k]? = some l[k] := List.getElem?_eq_getElem (by omega)
  obtain ⟨d1, d2, d3⟩ := hr k (Nat.le_refl _) (by omega) _ hrk
  have hk1 : (l.map Sess.enc)[((k : Nat) : Int).toNat]? = some (l[k]).enc := by simp [hrk]
  have ih := fun T H c => vH t l hl s n hs g go f (k + 1) T H c (by omega) (fun i h1 h2 => hr i (by omega) h2)
  rw [Int.natCast_add] at ih
  generalize l[k] = r at *
  by_cases a1 : r.a = s.a
  ·have a2 : ¬ r.x = s.x := fun h => d1 ⟨a1, h⟩
   by_cases b1 : r.b = s.b
   ·have b2 : ¬ r.y = s.y := fun h => d2 ⟨b1, h⟩
    by_cases c1 : r.b = s.a
    ·have c2 : ¬ r.y = s.x := fun h => d3 ⟨c1, h⟩
     refine evl ?_
     repeat' ((conv => whnf); first | refine ba a1 ?_ | refine aQ a2 ?_ | refine ba b1 ?_ | refine aQ b2 ?_ | refine ba c1 ?_ | refine aQ c2 ?_ | refine aP ?_ | (refine ab ?_ ?_ <;> intro h))
     refine am [146, 4, 3, 5, 6, 1, 22, 23, 145] [84, 65] ?_
     exact ih _ _ _
    ·refine evl ?_
     repeat' ((conv => whnf); first | refine ba a1 ?_ | refine aQ a2 ?_ | refine ba b1 ?_ | refine aQ b2 ?_ | refine aQ c1 ?_ | refine aP ?_ | (refine ab ?_ ?_ <;> intro h))
     refine am [146, 4, 3, 5, 6, 1, 22, 23, 145] [84, 65] ?_
     exact ih _ _ _
   ·by_cases c1 : r.b = s.a
    ·have c2 : ¬ r.y = s.x := fun h => d3 ⟨c1, h⟩
     refine evl ?_
     repeat' ((conv => whnf); first | refine ba a1 ?_ | refine aQ a2 ?_ | refine aQ b1 ?_ | refine ba c1 ?_ | refine aQ c2 ?_ | refine aP ?_ | (refine ab ?_ ?_ <;> intro h))
     refine am [146, 4, 3, 5, 6, 1, 22, 23, 145] [84, 65] ?_
     exact ih _ _ _
    ·refine evl ?_
     repeat' ((conv => whnf); first | refine ba a1 ?_ | refine aQ a2 ?_ | refine aQ b1 ?_ | refine aQ c1 ?_ | refine aP ?_ | (refine ab ?_ ?_ <;> intro h))
     refine am [146, 4, 3, 5, 6, 1, 22, 23, 145] [84, 65] ?_
     exact ih _ _ _
  ·by_cases b1 : r.b = s.b
   ·have b2 : ¬ r.y = s.y := fun h => d2 ⟨b1, h⟩
    by_cases c1 : r.b = s.a
    ·have c2 : ¬ r.y = s.x := fun h => d3 ⟨c1, h⟩
     refine evl ?_
     repeat' ((conv => whnf); first | refine aQ a1 ?_ | refine ba b1 ?_ | refine aQ b2 ?_ | refine ba c1 ?_ | refine aQ c2 ?_ | refine aP ?_ | (refine ab ?_ ?_ <;> intro h))
     refine am [146, 4, 3, 5, 6, 1, 22, 23, 145] [84, 65] ?_
     exact ih _ _ _
    ·refine evl ?_
     repeat' ((conv => whnf); first | refine aQ a1 ?_ | refine ba b1 ?_ | refine aQ b2 ?_ | refine aQ c1 ?_ | refine aP ?_ | (refine ab ?_ ?_ <;> intro h))
     refine am [146, 4, 3, 5, 6, 1, 22, 23, 145] [84, 65] ?_
     exact ih _ _ _
   ·by_cases c1 : r.b = s.a
    ·have c2 : ¬ r.y = s.x := fun h => d3 ⟨c1, h⟩
     refine evl ?_
     repeat' ((conv => whnf); first | refine aQ a1 ?_ | refine aQ b1 ?_ | refine ba c1 ?_ | refine aQ c2 ?_ | refine aP ?_ | (refine ab ?_ ?_ <;> intro h))
     refine am [146, 4, 3, 5, 6, 1, 22, 23, 145] [84, 65] ?_
     exact ih _ _ _
    ·refine evl ?_
     repeat' ((conv => whnf); first | refine aQ a1 ?_ | refine aQ b1 ?_ | refine aQ c1 ?_ | refine aP ?_ | (refine ab ?_ ?_ <;> intro h))
     refine am [146, 4, 3, 5, 6, 1, 22, 23, 145] [84, 65] ?_
     exact ih _ _ _
end Go.AM.IR
namespace Go.AM.IR
theorem vG (t : Topo) (ht : t.routers.length < 2 ^ 40) (hpl : ∀ c ∈ t.routers, c.pv.peers.length < 2 ^ 40) (l : List Sess) (hl : l.length < 2 ^ 40) (hI : dG t l) (g : Nat) : ∀ (f n : Nat) (T : List (Nat × AV)) (H : aq) (c : Nat) (hf : n + f = l.length),
  Ev G ⟨wn, ⟨(3, .vs 84 g l.length) :: (23, .int .i64 (n : Int)) :: (1, .ref 65 1 0) :: (22, .int .i64 l.length) :: T, (84, some (g, .vec 5 (l.map Sess.enc))) :: (65, some (1, .cells t.enc)) :: H, c⟩, [.t 2], 0⟩ ⟨.bool true, []⟩
 | 0, n, T, H, c, hf => by
  refine evl ?_
  repeat' (first | refine ae ?_ | refine kV (dq) ?_ | (refine ab ?_ ?_ <;> intro h))
  refine ag ?_; rfl
 | f + 1, n, T, H, c, hf => by
  have hn : n < l.length := by omega
  have hs : l[n]? = some l[n] := List.getElem?_eq_getElem hn
  have hG := hI.1 l[n] (List.getElem_mem hn)
  have hR : ∀ i, 0 ≤ i → i < n → ∀ r, l[i]? = some r → Lx r l[n] := fun i _ hi r hr => by
   have := List.pairwise_iff_getElem.1 hI.2 i n (by omega) hn hi
   rw [List.getElem?_eq_getElem (by omega)] at hr
   rw [← Option.some.inj hr]; exact this
  have ih := fun T H c => vG t ht hpl l hl hI g f (n + 1) T H c (by omega)
  rw [Int.natCast_add] at ih
  generalize l[n] = s at *
  obtain ⟨i, j, k, m, q, w, p, z, hse, hij, hq, hw, hp, hz, e1, e2⟩ := hG
  have sa : s.a = (i : Int) := by rw [hse]
  have sb : s.b = (j : Int) := by rw [hse]
  have sx : s.x = (k : Int) := by rw [hse]
  have sy : s.y = (m : Int) := by rw [hse]
  have sz : s.z = false := by rw [hse]
  have m1 : (l.map Sess.enc).length = l.length := by simp
  have m2 : (t.routers.map RConf.enc).length = t.routers.length := by simp
  have m3 : (q.pv.peers.map PeerC.enc).length = q.pv.peers.length := by simp
  have m4 : (w.pv.peers.map PeerC.enc).length = w.pv.peers.length := by simp
  have hs1 : (l.map Sess.enc)[((n : Nat) : Int).toNat]? = some s.enc := by simp [hs]
  have hq1 : (t.routers.map RConf.enc)[s.a.toNat]? = some q.enc := by simp [hq, sa]
  have hw1 : (t.routers.map RConf.enc)[s.b.toNat]? = some w.enc := by simp [hw, sb]
  have hp1 : (q.pv.peers.map PeerC.enc)[s.x.toNat]? = some p.enc := by simp [hp, sx]
  have hz1 : (w.pv.peers.map PeerC.enc)[s.y.toNat]? = some z.enc := by simp [hz, sy]
  have hi : i < t.routers.length := (List.getElem?_eq_some_iff.1 hq).1
  have hj : j < t.routers.length := (List.getElem?_eq_some_iff.1 hw).1
  have hk : k < q.pv.peers.length := (List.getElem?_eq_some_iff.1 hp).1
  have hm : m < w.pv.peers.length := (List.getElem?_eq_some_iff.1 hz).1
  have hql := hpl q (List.mem_of_getElem? hq)
  have hwl := hpl w (List.mem_of_getElem? hw)
  have e1' : ¬ (¬ p.addr = z.loc) := fun h => h e1
  refine evl ?_
  repeat' ((conv => whnf); first | refine zNeQ e1 ?_ | refine zNeQ e2.symm ?_ | refine aP ?_ | (refine ab ?_ ?_ <;> intro h))
  all_goals try (exfalso; first | omega | (simp_all only [Bool.false_eq_true, Bool.true_eq_false]; done))
  refine am [146, 4, 3, 5, 6, 1, 22, 23, 145] [84, 65] ?_
  exact vH t l hl s n hs g ih n 0 _ _ _ (by omega) hR
end Go.AM.IR
namespace Go.AM.IR
theorem zf (t : Topo) (h : bkL t.enc ≤ 1048576) (ok : t.ok) : ax G 374 [.agg t.enc] [] ⟨.bool true, []⟩ := by
 obtain ⟨b, hb, hbt⟩ := pt t (zo t h)
 have gd := vN t h ok
 have h1 := nR t gd
 cases b
 ·refine aa (F := f374) rfl rfl (ah 300 _ _ _ _ ?_)
  repeat' (first | refine ae ?_ | refine kV (dq) ?_ | (refine ab ?_ ?_ <;> intro h))
  refine ag ?_; rfl
 obtain ⟨n1, n2⟩ := hbt rfl
 have n3 : ∀ c ∈ t.routers, c.pv.peers.length ≤ 24 := fun c hc => si (qe n2 c hc)
 have n4 := ye t.routers n1 n3
 have hz : szT t.routers < 2 ^ 30 := by omega
 have h2 := kG t gd.rs (fun c hc => by have := n3 c hc; omega) hz
 have h3 := tq t gd.rs (fun c hc => by have := n3 c hc; omega) hz
 have hl : (d8 t).length < 2 ^ 40 := by
  have := pM t.routers 0 []
  rw [← show d8 t = gb 0 t.routers [] from rfl] at this
  simp only [List.length_nil] at this
  omega
 generalize Lc t = E at *
 by_cases hE : E = 0
 ·subst hE
  generalize d8 t = l at *
  refine aa (F := f374) rfl rfl (ah 300 _ _ _ _ ?_)
  repeat' (first | refine ae ?_ | (refine ab ?_ ?_ <;> intro h))
  refine am [26, 4, 3, 25] [82, 80] ?_
  exact vI l hl _ _ l [] _ _ _ 0 rfl rfl
 ·refine aa (F := f374) rfl rfl (ah 300 _ _ _ _ ?_)
  repeat' (first | refine ae ?_ | refine kV (dq) ?_ | (refine ab ?_ ?_ <;> intro h))
  refine ag ?_; rfl
theorem ze (t : Topo) (h : bkL t.enc ≤ 1048576) (ok : t.ok) : ax G 375 [.agg t.enc] [] ⟨.bool true, []⟩ := by
 obtain ⟨b, hb, hbt⟩ := pt t (zo t h)
 have gd := vN t h ok
 have h1 := nR t gd
 cases b
 ·refine aa (F := f375) rfl rfl (ah 300 _ _ _ _ ?_)
  repeat' (first | refine ae ?_ | refine kV (dq) ?_ | (refine ab ?_ ?_ <;> intro h))
  refine ag ?_; rfl
 obtain ⟨n1, n2⟩ := hbt rfl
 have n3 : ∀ c ∈ t.routers, c.pv.peers.length ≤ 24 := fun c hc => si (qe n2 c hc)
 have n4 := ye t.routers n1 n3
 have hz : szT t.routers < 2 ^ 30 := by omega
 have h2 := kG t gd.rs (fun c hc => by have := n3 c hc; omega) hz
 have hl : (d8 t).length < 2 ^ 40 := by
  have := pM t.routers 0 []
  rw [← show d8 t = gb 0 t.routers [] from rfl] at this
  simp only [List.length_nil] at this
  omega
 have hI := KA t
 generalize Lc t = E at *
 by_cases hE : E = 0
 ·subst hE
  generalize d8 t = l at *
  refine aa (F := f375) rfl rfl (ah 300 _ _ _ _ ?_)
  repeat' (first | refine ae ?_ | (refine ab ?_ ?_ <;> intro h))
  refine am [3, 23, 1, 22] [84, 65] ?_
  exact vG t gd.rs (fun c hc => by have := n3 c hc; omega) l hl hI _ l.length 0 _ _ _ (by omega)
 ·refine aa (F := f375) rfl rfl (ah 300 _ _ _ _ ?_)
  repeat' (first | refine ae ?_ | refine kV (dq) ?_ | (refine ab ?_ ?_ <;> intro h))
  refine ag ?_; rfl
theorem law374_all (ass : List (List AV)) (h : km [kD] ass) (hb : cH ass ≤ 1048576) : ax G 374 (iO [kD] ass) [] ⟨.bool true, []⟩ := by
 obtain ⟨x0, s0, rfl, h0, h⟩ := sJ h
 obtain rfl := wE h
 obtain ⟨t, rfl, ht⟩ := Oy h0
 simp only [cH] at hb
 exact zf t (by omega) ht
theorem law375_all (ass : List (List AV)) (h : km [kD] ass) (hb : cH ass ≤ 1048576) : ax G 375 (iO [kD] ass) [] ⟨.bool true, []⟩ := by
 obtain ⟨x0, s0, rfl, h0, h⟩ := sJ h
 obtain rfl := wE h
 obtain ⟨t, rfl, ht⟩ := Oy h0
 simp only [cH] at hb
 exact ze t (by omega) ht
end Go.AM.IR
