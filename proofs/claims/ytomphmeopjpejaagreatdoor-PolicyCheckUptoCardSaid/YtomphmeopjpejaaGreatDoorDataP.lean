/- What the functions of this program give, on the abstract machine. -/
import Derived.Test.YtomphmeopjpejaaGreatDoorDataN
import Derived.Test.YtomphmeopjpejaaGreatDoorDataO
import Derived.Test.YtomphmeopjpejaaGreatDoorDataK
set_option linter.unusedVariables false
set_option linter.unusedSimpArgs false
set_option maxHeartbeats 4000000
set_option maxRecDepth 20000
namespace Go.AM.IR
@[simp] theorem ve : ∀ (n : Nat) (l : List (List AV)), az l = true → az (l.take n) = true
 | 0, l, _ => by simp [az]
 | n + 1, [], _ => by simp [az]
 | n + 1, x :: r, h => by
  simp only [az, Bool.and_eq_true] at h
  simp only [List.take_succ_cons, az, h.1, ve n r h.2, Bool.and_self]
@[simp] theorem vp : ∀ (n : Nat) (l : List (List AV)), az l = true → az (l.drop n) = true
 | 0, l, h => h
 | n + 1, [], _ => by simp [az]
 | n + 1, x :: r, h => by
  simp only [az, Bool.and_eq_true] at h
  exact vp n r h.2
def DC (k : Kn) (t : Trm) : Int := if 64 < t.mats.length then 4 else if aU (mtE k) t.mats = 0 then tE3 t else aU (mtE k) t.mats
def l9 (k : Kn) (before : List Trm) (t : Trm) : Int := if nmB t.name = false then 1 else if before.any (fun u => u.name == t.name) then 7 else DC k t
theorem y7 (l : List Actn) (t : Trm) (g5 : Nat) (hl : l.length < 2 ^ 40) (ln : Int) (hln : ln = l.length) : ∀ (rest done : List Actn)  (T : List (Nat × AV)) (H : ay) (c : Nat) (n : Int) (e : l = done ++ rest) (hn : n = done.length) , Ev G ⟨Gx, ⟨(54, .sl 5 (l.map Actn.enc)) :: (55, .int .i64 ln) :: (56, .int .i64 n) :: (5, .ref 69 g5 0) :: T, (69, some (g5, .cells t.enc)) :: H, c⟩, [.t 6], 0⟩ (⟨.int .i64 (if aU iJ rest = 0 then vdE t.verdict else aU iJ rest), []⟩)
 | [], done,  T, H, c, n, e, hn => by
  have hd : l.length = done.length := by simp [e]
  have hll : (l.map Actn.enc).length = l.length := by simp
  have h1 := e7 t.verdict 1 3
  rw [aU, if_pos rfl, vdE]
  generalize hq : (decide (1 ≤ t.verdict) && decide (t.verdict ≤ 3)) = B at *
  cases B
  ·simp only [Bool.and_eq_false_iff, decide_eq_false_iff_not] at hq
   rw [if_pos (by omega)]
   refine evl ?_
   repeat' (first | refine ae ?_ | (refine ab ?_ ?_ <;> intro h))
   refine ah ?_; rfl
  ·simp only [Bool.and_eq_true, decide_eq_true_eq] at hq
   rw [if_neg (by omega)]
   refine evl ?_
   repeat' (first | refine ae ?_ | (refine ab ?_ ?_ <;> intro h))
   refine ah ?_; rfl
 | x :: r, done,  T, H, c, n, e, hn => by
  have hd : l.length = done.length + (r.length + 1) := by simp [e]
  have hll : (l.map Actn.enc).length = l.length := by simp
  have hx : (l.map Actn.enc)[n.toNat]? = some (Actn.enc x) := by simp [e, hn]
  have h1 := yZ x
  rw [aU]
  generalize iJ x = E at *
  by_cases h0 : E = 0
  ·subst h0
   rw [if_pos rfl]
   refine evl ?_
   repeat' (first | refine ae ?_ | (refine ab ?_ ?_ <;> intro h))
   refine aA [54, 55, 56, 5] [69] ?_; exact y7 l t g5 hl ln hln r (done ++ [x])  _ _ _ (n + 1) (by simp [e]) (by simp [hn] <;> omega)
  ·rw [if_neg h0, if_neg h0]
   refine evl ?_
   repeat' (first | refine ae ?_ | (refine ab ?_ ?_ <;> intro h))
   refine ah ?_; rfl
theorem y6 (l : List Mat) (k : Kn) (hf : k.fit) (t : Trm) (g3 g5 : Nat) (hk : ∀ m ∈ l, m.pfx.ok) (ha : t.acts.length < 2 ^ 40) (hl : l.length < 2 ^ 40) (ln : Int) (hln : ln = l.length) : ∀ (rest done : List Mat)  (T : List (Nat × AV)) (H : ay) (c : Nat) (n : Int) (e : l = done ++ rest) (hn : n = done.length) , Ev G ⟨Gy, ⟨(36, .sl 6 (l.map Mat.enc)) :: (37, .int .i64 ln) :: (38, .int .i64 n) :: (3, .ref 67 g3 0) :: (5, .ref 69 g5 0) :: T, (67, some (g3, .cells k.enc)) :: (69, some (g5, .cells t.enc)) :: H, c⟩, [.t 6], 0⟩ (⟨.int .i64 (if aU (mtE k) rest = 0 then tE3 t else aU (mtE k) rest), []⟩)
 | [], done,  T, H, c, n, e, hn => by
  have hd : l.length = done.length := by simp [e]
  have hll : (l.map Mat.enc).length = l.length := by simp
  have m1 : (t.acts.map Actn.enc).length = t.acts.length := by simp
  rw [aU, if_pos rfl, tE3]
  by_cases c : 64 < t.acts.length
  ·rw [if_pos c]
   have c' : (t.acts.length : Int) > 64 := by omega
   refine evl ?_
   repeat' (first | refine ae ?_ | (refine ab ?_ ?_ <;> intro h))
   refine ah ?_; rfl
  ·rw [if_neg c]
   refine evl ?_
   repeat' (first | refine ae ?_ | (refine ab ?_ ?_ <;> intro h))
   refine aA [54, 55, 56, 5] [69] ?_
   rw [m1]
   exact y7 t.acts t _ ha _ rfl t.acts [] _ _ _ 0 rfl rfl
 | x :: r, done,  T, H, c, n, e, hn => by
  have hd : l.length = done.length + (r.length + 1) := by simp [e]
  have hll : (l.map Mat.enc).length = l.length := by simp
  have hx : (l.map Mat.enc)[n.toNat]? = some (Mat.enc x) := by simp [e, hn]
  have h1 := yv k hf x (hk x (by simp [e]))
  rw [aU]
  generalize mtE k x = E at *
  by_cases h0 : E = 0
  ·subst h0
   rw [if_pos rfl]
   refine evl ?_
   repeat' (first | refine ae ?_ | (refine ab ?_ ?_ <;> intro h))
   refine aA [36, 37, 38, 3, 5] [67, 69] ?_; exact y6 l k hf t g3 g5 hk ha hl ln hln r (done ++ [x])  _ _ _ (n + 1) (by simp [e]) (by simp [hn] <;> omega)
  ·rw [if_neg h0, if_neg h0]
   refine evl ?_
   repeat' (first | refine ae ?_ | (refine ab ?_ ?_ <;> intro h))
   refine ah ?_; rfl
theorem Fw (l : List Trm) (k : Kn) (hf : k.fit) (t : Trm) (g3 g5 : Nat) (hk : ∀ m ∈ t.mats, m.pfx.ok) (ha : t.acts.length < 2 ^ 40) (hm : t.mats.length < 2 ^ 40) (hl : l.length < 2 ^ 40) (ln : Int) (hln : ln = l.length) : ∀ (rest done : List Trm)  (T : List (Nat × AV)) (H : ay) (c : Nat) (n : Int) (e : l = done ++ rest) (hn : n = done.length) , Ev G ⟨JX, ⟨(19, .sl 4 (l.map Trm.enc)) :: (20, .int .i64 ln) :: (21, .int .i64 n) :: (3, .ref 67 g3 0) :: (5, .ref 69 g5 0) :: T, (67, some (g3, .cells k.enc)) :: (69, some (g5, .cells t.enc)) :: H, c⟩, [.t 6], 0⟩ (⟨.int .i64 (if rest.any (fun u => u.name == t.name) then 7 else DC k t), []⟩)
 | [], done,  T, H, c, n, e, hn => by
  have hd : l.length = done.length := by simp [e]
  have hll : (l.map Trm.enc).length = l.length := by simp
  have m1 : (t.mats.map Mat.enc).length = t.mats.length := by simp
  rw [List.any_nil, if_neg (by simp), DC]
  by_cases c : 64 < t.mats.length
  ·rw [if_pos c]
   have c' : (t.mats.length : Int) > 64 := by omega
   refine evl ?_
   repeat' (first | refine ae ?_ | (refine ab ?_ ?_ <;> intro h))
   refine ah ?_; rfl
  ·rw [if_neg c]
   refine evl ?_
   repeat' (first | refine ae ?_ | (refine ab ?_ ?_ <;> intro h))
   refine aA [36, 37, 38, 3, 5] [67, 69] ?_
   rw [m1]
   exact y6 t.mats k hf t _ _ hk ha hm _ rfl t.mats [] _ _ _ 0 rfl rfl
 | x :: r, done,  T, H, c, n, e, hn => by
  have hd : l.length = done.length + (r.length + 1) := by simp [e]
  have hll : (l.map Trm.enc).length = l.length := by simp
  have hx : (l.map Trm.enc)[n.toNat]? = some (Trm.enc x) := by simp [e, hn]
  rw [List.any_cons]
  by_cases hn : x.name = t.name
  ·rw [show (x.name == t.name) = true from by simp [hn], Bool.true_or, if_pos rfl]
   refine evl ?_
   repeat' ((conv => whnf); first | refine DP hn ?_ | refine a7 ?_ | (refine ab ?_ ?_ <;> intro h))
   refine ah ?_; rfl
  ·rw [show (x.name == t.name) = false from by simp [hn], Bool.false_or]
   refine evl ?_
   repeat' ((conv => whnf); first | refine DQ hn ?_ | refine a7 ?_ | (refine ab ?_ ?_ <;> intro h))
   refine aA [19, 20, 21, 3, 5] [67, 69] ?_; exact Fw l k hf t g3 g5 hk ha hm hl ln hln r (done ++ [x])  _ _ _ (n + 1) (by simp [e]) (by simp [hn] <;> omega)
theorem x8 (k : Kn) (hf : k.fit) (d : List Trm) (hd : d.length < 2 ^ 40) (t : Trm) (g : t.goodT) : am G 582 [.agg k.enc, .sl 4 (d.map Trm.enc), .agg t.enc] [] ⟨.int .i64 (l9 k d t), []⟩ := by
 have m1 : (d.map Trm.enc).length = d.length := by simp
 have h1 := nZ t.name g.nm
 rw [l9]
 cases hb : nmB t.name with
 | false =>
  rw [hb] at h1
  rw [if_pos rfl]
  refine aa (F := f582) rfl rfl (ag 300 _ _ _ _ ?_)
  repeat' (first | refine ae ?_ | (refine ab ?_ ?_ <;> intro h))
  refine ah ?_; rfl
 | true =>
  rw [hb] at h1
  rw [if_neg (by simp)]
  refine aa (F := f582) rfl rfl (ag 300 _ _ _ _ ?_)
  repeat' (first | refine ae ?_ | (refine ab ?_ ?_ <;> intro h))
  refine aA [19, 20, 21, 3, 5] [67, 69] ?_
  rw [m1]
  exact Fw d k hf t _ _ g.ok g.as g.ms hd _ rfl d [] _ _ _ 0 rfl rfl
def iK (k : Kn) : List Trm → List Trm → Int
 | _, [] => 0
 | d, t :: r => if l9 k d t = 0 then iK k (d ++ [t]) r else l9 k d t
def plE (k : Kn) (p : Pol) : Int := if iK k [] p.terms = 0 then dfE p.dflt else iK k [] p.terms
theorem pY (l : List Trm) (k : Kn) (hf : k.fit) (p : Pol) (g2 g3 : Nat) (hp : p.terms = l) (hk : ∀ t ∈ l, t.goodT) (hl : l.length < 2 ^ 40) (ln : Int) (hln : ln = l.length) : ∀ (rest done : List Trm)  (T : List (Nat × AV)) (H : ay) (c : Nat) (n : Int) (e : l = done ++ rest) (hn : n = done.length) , Ev G ⟨J3, ⟨(9, .sl 4 (l.map Trm.enc)) :: (10, .int .i64 ln) :: (11, .int .i64 n) :: (2, .ref 66 g2 0) :: (3, .ref 67 g3 0) :: T, (66, some (g2, .cells k.enc)) :: (67, some (g3, .cells p.enc)) :: H, c⟩, [.t 4], 0⟩ (⟨.int .i64 (if iK k done rest = 0 then dfE p.dflt else iK k done rest), []⟩)
 | [], done,  T, H, c, n, e, hn => by
  have hd : l.length = done.length := by simp [e]
  have hll : (l.map Trm.enc).length = l.length := by simp
  rw [iK, if_pos rfl, dfE]
  by_cases c1 : p.dflt = 1
  ·rw [if_neg (fun q => q.1 c1)]
   refine evl ?_
   repeat' (first | refine ae ?_ | (refine ab ?_ ?_ <;> intro h))
   refine ah ?_; rfl
  by_cases c2 : p.dflt = 2
  ·rw [if_neg (fun q => q.2 c2)]
   refine evl ?_
   repeat' (first | refine ae ?_ | (refine ab ?_ ?_ <;> intro h))
   refine ah ?_; rfl
  rw [if_pos ⟨c1, c2⟩]
  refine evl ?_
  repeat' (first | refine ae ?_ | (refine ab ?_ ?_ <;> intro h))
  refine ah ?_; rfl
 | x :: r, done,  T, H, c, n, e, hn => by
  have hd : l.length = done.length + (r.length + 1) := by simp [e]
  have hll : (l.map Trm.enc).length = l.length := by simp
  have hx : (l.map Trm.enc)[n.toNat]? = some (Trm.enc x) := by simp [e, hn]
  have m1 : (p.terms.map Trm.enc).length = p.terms.length := by simp
  have hlen : p.terms.length = l.length := by rw [hp]
  have h1 : am G 582 [.agg k.enc, .sl 4 ((List.take (n.toNat - 0) (List.drop 0 (p.terms.map Trm.enc)))), .agg x.enc] [] ⟨.int .i64 (l9 k done x), []⟩ := by
   have h := x8 k hf done (by omega) x (hk x (by simp [e]))
   have q : List.take (n.toNat - 0) (List.drop 0 (p.terms.map Trm.enc)) = done.map Trm.enc := by
    rw [hp, e, hn]; simp
   rw [q]; exact h
  rw [iK]
  generalize l9 k done x = E at *
  by_cases h0 : E = 0
  ·subst h0
   rw [if_pos rfl]
   refine evl ?_
   repeat' (first | refine ae ?_ | (refine ab ?_ ?_ <;> intro h))
   refine aA [9, 10, 11, 2, 3] [66, 67] ?_; exact pY l k hf p g2 g3 hp hk hl ln hln r (done ++ [x])  _ _ _ (n + 1) (by simp [e]) (by simp [hn] <;> omega)
  ·rw [if_neg h0, if_neg h0]
   refine evl ?_
   repeat' (first | refine ae ?_ | (refine ab ?_ ?_ <;> intro h))
   refine ah ?_; rfl
theorem yn (k : Kn) (hf : k.fit) (p : Pol) (hl : p.terms.length < 2 ^ 40) (hk : ∀ t ∈ p.terms, t.goodT) : am G 523 [.agg k.enc, .agg p.enc] [] ⟨.int .i64 (plE k p), []⟩ := by
 have m1 : (p.terms.map Trm.enc).length = p.terms.length := by simp
 unfold plE
 refine aa (F := f523) rfl rfl (ag 300 _ _ _ _ ?_)
 repeat' (first | refine ae ?_ | (refine ab ?_ ?_ <;> intro h))
 refine aA [9, 10, 11, 2, 3] [66, 67] ?_
 rw [m1]
 exact pY p.terms k hf p _ _ rfl hk hl _ rfl p.terms [] _ _ _ 0 rfl rfl
end Go.AM.IR
namespace Go.AM.IR
def ch : AV := .con (.slice none 0 0)
def cn (s : PSet) : Kn := ⟨s.prefixes.map PList.name, s.paths.map PathL.name, s.comms.map ComL.name, s.pols.map Pol.name⟩
theorem s6 (s : PSet) (g2 g3 a0 a1 a2 : Nat) (B0 B1 B2 : List NmL) (hl : s.pols.length < 2 ^ 40) (R : Ret) (O : List NmL)
  (go : R = ⟨.agg [.vs 0 0 B0.length, .vs 1 0 B1.length, .vs 2 0 B2.length, .vs 3 0 O.length], [(false, .vec 1 (B0.map aX)), (false, .vec 1 (B1.map aX)), (false, .vec 1 (B2.map aX)), (false, .vec 1 (O.map aX))]⟩) : ∀ (rest done : List Pol) (o : List NmL) (a3 : Nat) (T : List (Nat × AV)) (H : ay) (c : Nat) (n : Int) (e : s.pols = done ++ rest) (hn : n = done.length) (hb : o.length + rest.length < 2 ^ 30) (hO : o ++ rest.map Pol.name = O),
  Ev G ⟨tj, ⟨(60, .int .i64 n) :: (3, .ref 67 g3 0) :: (58, .sl 3 (s.pols.map Pol.enc)) :: (2, .ref 66 g2 0) :: (59, .int .i64 s.pols.length) :: T, (67, some (g3, .cells [.vs 88 a0 B0.length, .vs 103 a1 B1.length, .vs 118 a2 B2.length, .vs 133 a3 o.length])) :: (66, some (g2, .cells [ch, ch, ch, ch])) :: (88, some (a0, .vec 1 (B0.map aX))) :: (103, some (a1, .vec 1 (B1.map aX))) :: (118, some (a2, .vec 1 (B2.map aX))) :: (133, some (a3, .vec 1 (o.map aX))) :: H, c⟩, [.cell 2 (some 4)], 0⟩ R
 | [], done, o, a3, T, H, c, n, e, hn, hb, hO => by
  have hd : s.pols.length = done.length := by simp [e]
  rw [List.map_nil, List.append_nil] at hO
  subst hO
  rw [go]
  refine evl ?_
  repeat' (first | refine ae ?_ | (refine ab ?_ ?_ <;> intro h))
  refine VX [(88, _, .vec 1 (B0.map aX)), (103, _, .vec 1 (B1.map aX)), (118, _, .vec 1 (B2.map aX)), (133, _, .vec 1 (o.map aX))] ⟨rfl, ⟨rfl, puL, rfl, puL, rfl, puL, rfl, puL, trivial⟩, rfl, rfl, (by simp [cp]), ?_⟩
  simp [AV.ren, bN, φR]
  exact ⟨rfl, rfl, rfl⟩
 | x :: r, done, o, a3, T, H, c, n, e, hn, hb, hO => by
  have hd : s.pols.length = done.length + (r.length + 1) := by simp [e]
  have hll : (s.pols.map Pol.enc).length = s.pols.length := by simp
  have hx : (s.pols.map Pol.enc)[n.toNat]? = some x.enc := by simp [e, hn]
  have hb0 : (x :: r).length = r.length + 1 := rfl
  have ih := fun a3 T H c => s6 s g2 g3 a0 a1 a2 B0 B1 B2 hl R O go r (done ++ [x]) (o ++ [x.name]) a3 T H c (n + 1) (by simp [e]) (by simp [hn]) (by simp; omega) (by rw [← hO]; simp)
  rw [List.map_append, List.length_append] at ih
  refine evl ?_
  repeat' (first | refine ae ?_ | (refine ab ?_ ?_ <;> intro h))
  refine aA [60, 3, 58, 2, 59] [67, 66, 88, 103, 118, 133] ?_
  exact ih _ _ _ _
theorem s7 (s : PSet) (g2 g3 a0 a1 a3 : Nat) (B0 B1 B3 : List NmL) (hl : s.comms.length < 2 ^ 40) (R : Ret) (O : List NmL)
  (go : ∀ (a2 : Nat) (T : List (Nat × AV)) (H : ay) (c : Nat), Ev G ⟨tj, ⟨(60, .int .i64 0) :: (3, .ref 67 g3 0) :: (58, .sl 3 (s.pols.map Pol.enc)) :: (2, .ref 66 g2 0) :: (59, .int .i64 s.pols.length) :: T, (67, some (g3, .cells [.vs 88 a0 B0.length, .vs 103 a1 B1.length, .vs 118 a2 O.length, .vs 133 a3 B3.length])) :: (66, some (g2, .cells [ch, ch, ch, ch])) :: (88, some (a0, .vec 1 (B0.map aX))) :: (103, some (a1, .vec 1 (B1.map aX))) :: (118, some (a2, .vec 1 (O.map aX))) :: (133, some (a3, .vec 1 (B3.map aX))) :: H, c⟩, [.cell 2 (some 4)], 0⟩ R) : ∀ (rest done : List ComL) (o : List NmL) (a2 : Nat) (T : List (Nat × AV)) (H : ay) (c : Nat) (n : Int) (e : s.comms = done ++ rest) (hn : n = done.length) (hb : o.length + rest.length < 2 ^ 30) (hO : o ++ rest.map ComL.name = O),
  Ev G ⟨tk, ⟨(45, .int .i64 n) :: (3, .ref 67 g3 0) :: (43, .sl 2 (s.comms.map ComL.enc)) :: (2, .ref 66 g2 0) :: (1, .ref 65 1 0) :: (44, .int .i64 s.comms.length) :: T, (67, some (g3, .cells [.vs 88 a0 B0.length, .vs 103 a1 B1.length, .vs 118 a2 o.length, .vs 133 a3 B3.length])) :: (65, some (1, .cells s.enc)) :: (66, some (g2, .cells [ch, ch, ch, ch])) :: (88, some (a0, .vec 1 (B0.map aX))) :: (103, some (a1, .vec 1 (B1.map aX))) :: (118, some (a2, .vec 1 (o.map aX))) :: (133, some (a3, .vec 1 (B3.map aX))) :: H, c⟩, [.cell 2 (some 4)], 0⟩ R
 | [], done, o, a2, T, H, c, n, e, hn, hb, hO => by
  have hd : s.comms.length = done.length := by simp [e]
  rw [List.map_nil, List.append_nil] at hO
  subst hO
  have m1 : (s.pols.map Pol.enc).length = s.pols.length := by simp
  refine evl ?_
  repeat' (first | refine ae ?_ | (refine ab ?_ ?_ <;> intro h))
  refine aA [60, 3, 58, 2, 59] [67, 66, 88, 103, 118, 133] ?_
  rw [m1]
  exact go _ _ _ _
 | x :: r, done, o, a2, T, H, c, n, e, hn, hb, hO => by
  have hd : s.comms.length = done.length + (r.length + 1) := by simp [e]
  have hll : (s.comms.map ComL.enc).length = s.comms.length := by simp
  have hx : (s.comms.map ComL.enc)[n.toNat]? = some x.enc := by simp [e, hn]
  have hb0 : (x :: r).length = r.length + 1 := rfl
  have ih := fun a2 T H c => s7 s g2 g3 a0 a1 a3 B0 B1 B3 hl R O go r (done ++ [x]) (o ++ [x.name]) a2 T H c (n + 1) (by simp [e]) (by simp [hn]) (by simp; omega) (by rw [← hO]; simp)
  rw [List.map_append, List.length_append] at ih
  refine evl ?_
  repeat' (first | refine ae ?_ | (refine ab ?_ ?_ <;> intro h))
  refine aA [45, 3, 43, 2, 1, 44] [67, 65, 66, 88, 103, 118, 133] ?_
  exact ih _ _ _ _
theorem s8 (s : PSet) (g2 g3 a0 a2 a3 : Nat) (B0 B2 B3 : List NmL) (hl : s.paths.length < 2 ^ 40) (R : Ret) (O : List NmL)
  (go : ∀ (a1 : Nat) (T : List (Nat × AV)) (H : ay) (c : Nat), Ev G ⟨tk, ⟨(45, .int .i64 0) :: (3, .ref 67 g3 0) :: (43, .sl 2 (s.comms.map ComL.enc)) :: (2, .ref 66 g2 0) :: (1, .ref 65 1 0) :: (44, .int .i64 s.comms.length) :: T, (67, some (g3, .cells [.vs 88 a0 B0.length, .vs 103 a1 O.length, .vs 118 a2 B2.length, .vs 133 a3 B3.length])) :: (65, some (1, .cells s.enc)) :: (66, some (g2, .cells [ch, ch, ch, ch])) :: (88, some (a0, .vec 1 (B0.map aX))) :: (103, some (a1, .vec 1 (O.map aX))) :: (118, some (a2, .vec 1 (B2.map aX))) :: (133, some (a3, .vec 1 (B3.map aX))) :: H, c⟩, [.cell 2 (some 4)], 0⟩ R) : ∀ (rest done : List PathL) (o : List NmL) (a1 : Nat) (T : List (Nat × AV)) (H : ay) (c : Nat) (n : Int) (e : s.paths = done ++ rest) (hn : n = done.length) (hb : o.length + rest.length < 2 ^ 30) (hO : o ++ rest.map PathL.name = O),
  Ev G ⟨tl, ⟨(30, .int .i64 n) :: (3, .ref 67 g3 0) :: (28, .sl 2 (s.paths.map PathL.enc)) :: (2, .ref 66 g2 0) :: (1, .ref 65 1 0) :: (29, .int .i64 s.paths.length) :: T, (67, some (g3, .cells [.vs 88 a0 B0.length, .vs 103 a1 o.length, .vs 118 a2 B2.length, .vs 133 a3 B3.length])) :: (65, some (1, .cells s.enc)) :: (66, some (g2, .cells [ch, ch, ch, ch])) :: (88, some (a0, .vec 1 (B0.map aX))) :: (103, some (a1, .vec 1 (o.map aX))) :: (118, some (a2, .vec 1 (B2.map aX))) :: (133, some (a3, .vec 1 (B3.map aX))) :: H, c⟩, [.cell 2 (some 4)], 0⟩ R
 | [], done, o, a1, T, H, c, n, e, hn, hb, hO => by
  have hd : s.paths.length = done.length := by simp [e]
  rw [List.map_nil, List.append_nil] at hO
  subst hO
  have m1 : (s.comms.map ComL.enc).length = s.comms.length := by simp
  refine evl ?_
  repeat' (first | refine ae ?_ | (refine ab ?_ ?_ <;> intro h))
  refine aA [45, 3, 43, 2, 1, 44] [67, 65, 66, 88, 103, 118, 133] ?_
  rw [m1]
  exact go _ _ _ _
 | x :: r, done, o, a1, T, H, c, n, e, hn, hb, hO => by
  have hd : s.paths.length = done.length + (r.length + 1) := by simp [e]
  have hll : (s.paths.map PathL.enc).length = s.paths.length := by simp
  have hx : (s.paths.map PathL.enc)[n.toNat]? = some x.enc := by simp [e, hn]
  have hb0 : (x :: r).length = r.length + 1 := rfl
  have ih := fun a1 T H c => s8 s g2 g3 a0 a2 a3 B0 B2 B3 hl R O go r (done ++ [x]) (o ++ [x.name]) a1 T H c (n + 1) (by simp [e]) (by simp [hn]) (by simp; omega) (by rw [← hO]; simp)
  rw [List.map_append, List.length_append] at ih
  refine evl ?_
  repeat' (first | refine ae ?_ | (refine ab ?_ ?_ <;> intro h))
  refine aA [30, 3, 28, 2, 1, 29] [67, 65, 66, 88, 103, 118, 133] ?_
  exact ih _ _ _ _
theorem vM (s : PSet) (g2 g3 a1 a2 a3 : Nat) (B1 B2 B3 : List NmL) (hl : s.prefixes.length < 2 ^ 40) (R : Ret) (O : List NmL)
  (go : ∀ (a0 : Nat) (T : List (Nat × AV)) (H : ay) (c : Nat), Ev G ⟨tl, ⟨(30, .int .i64 0) :: (3, .ref 67 g3 0) :: (28, .sl 2 (s.paths.map PathL.enc)) :: (2, .ref 66 g2 0) :: (1, .ref 65 1 0) :: (29, .int .i64 s.paths.length) :: T, (67, some (g3, .cells [.vs 88 a0 O.length, .vs 103 a1 B1.length, .vs 118 a2 B2.length, .vs 133 a3 B3.length])) :: (65, some (1, .cells s.enc)) :: (66, some (g2, .cells [ch, ch, ch, ch])) :: (88, some (a0, .vec 1 (O.map aX))) :: (103, some (a1, .vec 1 (B1.map aX))) :: (118, some (a2, .vec 1 (B2.map aX))) :: (133, some (a3, .vec 1 (B3.map aX))) :: H, c⟩, [.cell 2 (some 4)], 0⟩ R) : ∀ (rest done : List PList) (o : List NmL) (a0 : Nat) (T : List (Nat × AV)) (H : ay) (c : Nat) (n : Int) (e : s.prefixes = done ++ rest) (hn : n = done.length) (hb : o.length + rest.length < 2 ^ 30) (hO : o ++ rest.map PList.name = O),
  Ev G ⟨J4, ⟨(15, .int .i64 n) :: (3, .ref 67 g3 0) :: (13, .sl 2 (s.prefixes.map PList.enc)) :: (2, .ref 66 g2 0) :: (1, .ref 65 1 0) :: (14, .int .i64 s.prefixes.length) :: T, (67, some (g3, .cells [.vs 88 a0 o.length, .vs 103 a1 B1.length, .vs 118 a2 B2.length, .vs 133 a3 B3.length])) :: (65, some (1, .cells s.enc)) :: (66, some (g2, .cells [ch, ch, ch, ch])) :: (88, some (a0, .vec 1 (o.map aX))) :: (103, some (a1, .vec 1 (B1.map aX))) :: (118, some (a2, .vec 1 (B2.map aX))) :: (133, some (a3, .vec 1 (B3.map aX))) :: H, c⟩, [.cell 2 (some 4)], 0⟩ R
 | [], done, o, a0, T, H, c, n, e, hn, hb, hO => by
  have hd : s.prefixes.length = done.length := by simp [e]
  rw [List.map_nil, List.append_nil] at hO
  subst hO
  have m1 : (s.paths.map PathL.enc).length = s.paths.length := by simp
  refine evl ?_
  repeat' (first | refine ae ?_ | (refine ab ?_ ?_ <;> intro h))
  refine aA [30, 3, 28, 2, 1, 29] [67, 65, 66, 88, 103, 118, 133] ?_
  rw [m1]
  exact go _ _ _ _
 | x :: r, done, o, a0, T, H, c, n, e, hn, hb, hO => by
  have hd : s.prefixes.length = done.length + (r.length + 1) := by simp [e]
  have hll : (s.prefixes.map PList.enc).length = s.prefixes.length := by simp
  have hx : (s.prefixes.map PList.enc)[n.toNat]? = some x.enc := by simp [e, hn]
  have hb0 : (x :: r).length = r.length + 1 := rfl
  have ih := fun a0 T H c => vM s g2 g3 a1 a2 a3 B1 B2 B3 hl R O go r (done ++ [x]) (o ++ [x.name]) a0 T H c (n + 1) (by simp [e]) (by simp [hn]) (by simp; omega) (by rw [← hO]; simp)
  rw [List.map_append, List.length_append] at ih
  refine evl ?_
  repeat' (first | refine ae ?_ | (refine ab ?_ ?_ <;> intro h))
  refine aA [15, 3, 13, 2, 1, 14] [67, 65, 66, 88, 103, 118, 133] ?_
  exact ih _ _ _ _
theorem vK (s : PSet) (g : s.good) (h0 : s.prefixes.length < 2 ^ 30) (h1 : s.paths.length < 2 ^ 30) (h2 : s.comms.length < 2 ^ 30) (h3 : s.pols.length < 2 ^ 30) : am G 507 [.agg s.enc] [] ⟨.agg [.vs 0 0 (cn s).a.length, .vs 1 0 (cn s).b.length, .vs 2 0 (cn s).c.length, .vs 3 0 (cn s).d.length], [(false, .vec 1 ((cn s).a.map aX)), (false, .vec 1 ((cn s).b.map aX)), (false, .vec 1 ((cn s).c.map aX)), (false, .vec 1 ((cn s).d.map aX))]⟩ := by
 have m1 : (s.prefixes.map PList.enc).length = s.prefixes.length := by simp
 refine aa (F := f507) rfl rfl (ag 300 _ _ _ _ ?_)
 repeat' (first | refine ae ?_ | (refine ab ?_ ?_ <;> intro h))
 refine jE 88 1 [] [(67, some (_, .cells [.vs 88 _ 0, ch, ch, ch]))] trivial ⟨⟨rfl, ⟨LeP.nilV _ _ _, .refl _, .refl _, .refl _, trivial⟩⟩, trivial⟩ ?_
 refine jE 103 1 [] [(67, some (_, .cells [.vs 88 _ 0, .vs 103 _ 0, ch, ch]))] trivial ⟨⟨rfl, ⟨.refl _, LeP.nilV _ _ _, .refl _, .refl _, trivial⟩⟩, trivial⟩ ?_
 refine jE 118 1 [] [(67, some (_, .cells [.vs 88 _ 0, .vs 103 _ 0, .vs 118 _ 0, ch]))] trivial ⟨⟨rfl, ⟨.refl _, .refl _, LeP.nilV _ _ _, .refl _, trivial⟩⟩, trivial⟩ ?_
 refine jE 133 1 [] [(67, some (_, .cells [.vs 88 _ 0, .vs 103 _ 0, .vs 118 _ 0, .vs 133 _ 0]))] trivial ⟨⟨rfl, ⟨.refl _, .refl _, .refl _, LeP.nilV _ _ _, trivial⟩⟩, trivial⟩ ?_
 refine aA [15, 3, 13, 2, 1, 14] [67, 65, 66, 88, 103, 118, 133] ?_
 rw [m1]
 refine vM s _ _ _ _ _ [] [] [] g.a _ (cn s).a (fun a0 T H c => ?_) s.prefixes [] [] _ _ _ _ 0 rfl rfl (by simpa using h0) (by simp [cn])
 refine s8 s _ _ _ _ _ (cn s).a [] [] g.b _ (cn s).b (fun a1 T H c => ?_) s.paths [] [] _ _ _ _ 0 rfl rfl (by simpa using h1) (by simp [cn])
 refine s7 s _ _ _ _ _ (cn s).a (cn s).b [] g.c _ (cn s).c (fun a2 T H c => ?_) s.comms [] [] _ _ _ _ 0 rfl rfl (by simpa using h2) (by simp [cn])
 exact s6 s _ _ _ _ _ (cn s).a (cn s).b (cn s).c g.d _ (cn s).d rfl s.pols [] [] _ _ _ _ 0 rfl rfl (by simpa using h3) (by simp [cn])
end Go.AM.IR
namespace Go.AM.IR
@[simp] theorem WC {α : Type} (g : α → List UInt8) (l : List α) : az (l.map (aX ∘ g)) = true := by rw [← List.map_map]; exact nQ _
theorem yl (r : RuleP) (h : r.ok) : am G 325 [.agg r.enc] [] ⟨.int .i64 (ruE r), []⟩ := by
 have hv : am G 178 [.agg [.int .u32 r.pfx.addr, .int .i64 r.pfx.len]] [] ⟨.bool (bb r.pfx), []⟩ := ku r.pfx h.1
 unfold ruE
 cases hvp : bb r.pfx
 ·rw [hvp] at hv
  rw [if_neg (by simp)]
  refine aa (F := f325) rfl rfl (ag 300 _ _ _ _ ?_)
  repeat' (first | refine ae ?_ | (refine ab ?_ ?_ <;> intro h))
  refine ah ?_; rfl
 ·rw [hvp] at hv
  rw [if_pos rfl]
  by_cases h1 : r.min < r.pfx.len ∨ r.max < r.min ∨ r.max > 32
  ·rw [if_pos h1]
   refine aa (F := f325) rfl rfl (ag 300 _ _ _ _ ?_)
   repeat' (first | refine ae ?_ | (refine ab ?_ ?_ <;> intro h))
   all_goals try (exfalso; omega)
   all_goals (refine ah ?_; rfl)
  ·rw [if_neg h1]
   refine aa (F := f325) rfl rfl (ag 300 _ _ _ _ ?_)
   repeat' (first | refine ae ?_ | (refine ab ?_ ?_ <;> intro h))
   all_goals try (exfalso; omega)
   all_goals (refine ah ?_; rfl)
theorem yj (s : List UInt8) (h : s.length < 2 ^ 32) : am G 516 [.str s] [] (na (iL s)) := by
 rw [← Lc]
 show (if s.length < 2 ^ 32 then some (na (kw s)) else none) = _
 rw [if_pos h]
theorem Wz (s : List UInt8) (h : s.length < 2 ^ 32) : ∃ (k lo hi : Int) (l : List Rx), am G 516 [.str s] [] ⟨.tup [.agg [.int .i64 k, .int .i64 lo, .int .i64 hi, .sl 4 (l.map Rx.enc)], .int .i64 (if (iL s).isSome then 0 else 2)], []⟩ := by
 have h1 := yj s h
 cases hq : iL s with
 | none =>
  rw [hq] at h1
  refine ⟨0, 0, 0, [], ?_⟩
  have e := aW 0 0 0 []
  have h2 : am G 516 [.str s] [] ⟨.tup [.agg rx0.enc, .int .i64 2], []⟩ := h1
  unfold rx0 at h2
  rw [e] at h2
  exact h2
 | some x =>
  rw [hq] at h1
  obtain ⟨k, lo, hi, l⟩ := x
  refine ⟨k, lo, hi, l, ?_⟩
  have h2 : am G 516 [.str s] [] ⟨.tup [.agg (Rx.mk k lo hi l).enc, .int .i64 0], []⟩ := h1
  rw [aW] at h2
  exact h2
def eaE {α : Type} (nm : α → List UInt8) (sz : α → Nat) (chk : α → Int) : List α → List α → Int
 | _, [] => 0
 | d, x :: r => if fa (d.map nm) (nm x) = 0 then (if 64 < sz x then 4 else if chk x = 0 then eaE nm sz chk (d ++ [x]) r else chk x) else fa (d.map nm) (nm x)
theorem yC (l : List RuleP) (h : ∀ r ∈ l, r.ok) (hl : l.length < 2 ^ 40) (i : Nat) (x : RuleP) (hx : l[i]? = some x) : am G 512 [.int .i64 (i : Int), .ref 0 0 0] [.cells [.sl 5 (l.map RuleP.enc)]] ⟨.int .i64 (ruE x), [(true, .cells [.sl 5 (l.map RuleP.enc)])]⟩ := by
 have m1 : (l.map RuleP.enc).length = l.length := by simp
 have hx1 : (l.map RuleP.enc)[((i : Nat) : Int).toNat]? = some x.enc := by simp [hx]
 have hi : i < l.length := (List.getElem?_eq_some_iff.1 hx).1
 have h1 := yl x (h x (List.mem_of_getElem? hx))
 generalize ruE x = E at *
 refine aa (F := f512) rfl rfl (ag 300 _ _ _ _ ?_)
 repeat' (first | refine ae ?_ | (refine ab ?_ ?_ <;> intro h))
 (conv => whnf); first | refine aP [(0, _, _)] [] [true] ?_ | refine aQ [(0, _, _)] [] [true] ?_
 rfl
theorem qD (l : List RuleP) (h : ∀ r ∈ l, r.ok) (hl : l.length < 2 ^ 40) : ∀ (rest done : List RuleP) (T : List (Nat × AV)) (H : ay) (c : Nat) (n : Int) (e : l = done ++ rest) (hn : n = done.length),
  Ev G ⟨oD, ⟨(8, .int .i64 n) :: (1, .fn 512 [.ref 0 0 0]) :: (7, .int .i64 l.length) :: T, (0, some (0, .cells [.sl 5 (l.map RuleP.enc)])) :: H, c⟩, [.t 4], 1⟩ ⟨.int .i64 (aU ruE rest), [(true, .cells [.sl 5 (l.map RuleP.enc)])]⟩
 | [], done, T, H, c, n, e, hn => by
  have hd : l.length = done.length := by simp [e]
  refine evl ?_
  repeat' (first | refine ae ?_ | (refine ab ?_ ?_ <;> intro h))
  (conv => whnf); first | refine aP [(0, _, _)] [] [true] ?_ | refine aQ [(0, _, _)] [] [true] ?_
  rfl
 | x :: r, done, T, H, c, n, e, hn => by
  have hd : l.length = done.length + (r.length + 1) := by simp [e]
  have h1 := yC l h hl done.length x (by simp [e])
  rw [← hn] at h1
  have ih := fun T H c => qD l h hl r (done ++ [x]) T H c (n + 1) (by simp [e]) (by simp [hn])
  rw [aU]
  generalize ruE x = E at *
  by_cases h0 : E = 0
  ·subst h0
   rw [if_pos rfl]
   refine evl ?_
   repeat' (first | refine ae ?_ | refine kX [(0, _, _)] [] ⟨rfl, trivial⟩ trivial (h1) ?_ | (refine ab ?_ ?_ <;> intro h))
   refine aA [8, 1, 7] [0] ?_
   exact ih _ _ _
  ·rw [if_neg h0]
   refine evl ?_
   repeat' (first | refine ae ?_ | refine kX [(0, _, _)] [] ⟨rfl, trivial⟩ trivial (h1) ?_ | (refine ab ?_ ?_ <;> intro h))
   (conv => whnf); first | refine aP [(0, _, _)] [] [true] ?_ | refine aQ [(0, _, _)] [] [true] ?_
   rfl
theorem yG (l : List RuleP) (h : ∀ r ∈ l, r.ok) (hl : l.length < 2 ^ 40) : am G 511 [.int .i64 l.length, .fn 512 [.ref 0 0 0]] [.cells [.sl 5 (l.map RuleP.enc)]] ⟨.int .i64 (aU ruE l), [(true, .cells [.sl 5 (l.map RuleP.enc)])]⟩ := by
 refine aa (F := f511) rfl rfl (ag 300 _ _ _ _ ?_)
 repeat' (first | refine ae ?_ | (refine ab ?_ ?_ <;> intro h))
 refine aA [8, 1, 7] [0] ?_
 exact qD l h hl l [] _ _ _ 0 rfl rfl
theorem ye (s : PSet) (g : s.good) (i : Nat) (x : PList) (hx : s.prefixes[i]? = some x) : am G 509 [.int .i64 (i : Int), .ref 0 0 0] [.cells s.enc] ⟨.int .i64 x.rules.length, [(true, .cells s.enc)]⟩ := by
 have m1 : (s.prefixes.map PList.enc).length = s.prefixes.length := by simp
 have m2 : (x.rules.map RuleP.enc).length = x.rules.length := by simp
 have hx1 : (s.prefixes.map PList.enc)[((i : Nat) : Int).toNat]? = some x.enc := by simp [hx]
 have hi : i < s.prefixes.length := (List.getElem?_eq_some_iff.1 hx).1
 have gl := g.a
 refine aa (F := f509) rfl rfl (ag 300 _ _ _ _ ?_)
 repeat' (first | refine ae ?_ | (refine ab ?_ ?_ <;> intro h))
 (conv => whnf); first | refine aP [(0, _, _)] [] [true] ?_ | refine aQ [(0, _, _)] [] [true] ?_
 rw [m2]; rfl
theorem yT (s : PSet) (g : s.good) (i : Nat) (x : PList) (hx : s.prefixes[i]? = some x) : am G 510 [.int .i64 (i : Int), .ref 0 0 0] [.cells s.enc] ⟨.int .i64 (aU ruE x.rules), [(true, .cells s.enc)]⟩ := by
 have m1 : (s.prefixes.map PList.enc).length = s.prefixes.length := by simp
 have m2 : (x.rules.map RuleP.enc).length = x.rules.length := by simp
 have hx1 : (s.prefixes.map PList.enc)[((i : Nat) : Int).toNat]? = some x.enc := by simp [hx]
 have hi : i < s.prefixes.length := (List.getElem?_eq_some_iff.1 hx).1
 have gl := g.a
 obtain ⟨q1, q2, q3⟩ := g.pre x (List.mem_of_getElem? hx)
 have h1 := yG x.rules q3 q2
 rw [← m2] at h1
 generalize aU ruE x.rules = E at *
 refine aa (F := f510) rfl rfl (ag 300 _ _ _ _ ?_)
 repeat' (first | refine ae ?_ | refine kX [(68, _, _)] [] ⟨rfl, trivial⟩ trivial (h1) ?_ | (refine ab ?_ ?_ <;> intro h))
 (conv => whnf); first | refine aP [(0, _, _)] [] [true] ?_ | refine aQ [(0, _, _)] [] [true] ?_
 rfl
theorem yB (l : List PathR) (h : ∀ r ∈ l, r.pattern.length < 2 ^ 32) (hl : l.length < 2 ^ 40) (i : Nat) (x : PathR) (hx : l[i]? = some x) : am G 515 [.int .i64 (i : Int), .ref 0 0 0] [.cells [.sl 2 (l.map PathR.enc)]] ⟨.int .i64 (paE x), [(true, .cells [.sl 2 (l.map PathR.enc)])]⟩ := by
 have m1 : (l.map PathR.enc).length = l.length := by simp
 have hx1 : (l.map PathR.enc)[((i : Nat) : Int).toNat]? = some x.enc := by simp [hx]
 have hi : i < l.length := (List.getElem?_eq_some_iff.1 hx).1
 obtain ⟨k0, lo0, hi0, l0, h1⟩ := Wz x.pattern (h x (List.mem_of_getElem? hx))
 change am G 516 [.str x.pattern] [] ⟨.tup [_, .int .i64 (paE x)], []⟩ at h1
 generalize paE x = E at *
 refine aa (F := f515) rfl rfl (ag 300 _ _ _ _ ?_)
 repeat' (first | refine ae ?_ | (refine ab ?_ ?_ <;> intro h))
 (conv => whnf); first | refine aP [(0, _, _)] [] [true] ?_ | refine aQ [(0, _, _)] [] [true] ?_
 rfl
theorem qC (l : List PathR) (h : ∀ r ∈ l, r.pattern.length < 2 ^ 32) (hl : l.length < 2 ^ 40) : ∀ (rest done : List PathR) (T : List (Nat × AV)) (H : ay) (c : Nat) (n : Int) (e : l = done ++ rest) (hn : n = done.length),
  Ev G ⟨oD, ⟨(8, .int .i64 n) :: (1, .fn 515 [.ref 0 0 0]) :: (7, .int .i64 l.length) :: T, (0, some (0, .cells [.sl 2 (l.map PathR.enc)])) :: H, c⟩, [.t 4], 1⟩ ⟨.int .i64 (aU paE rest), [(true, .cells [.sl 2 (l.map PathR.enc)])]⟩
 | [], done, T, H, c, n, e, hn => by
  have hd : l.length = done.length := by simp [e]
  refine evl ?_
  repeat' (first | refine ae ?_ | (refine ab ?_ ?_ <;> intro h))
  (conv => whnf); first | refine aP [(0, _, _)] [] [true] ?_ | refine aQ [(0, _, _)] [] [true] ?_
  rfl
 | x :: r, done, T, H, c, n, e, hn => by
  have hd : l.length = done.length + (r.length + 1) := by simp [e]
  have h1 := yB l h hl done.length x (by simp [e])
  rw [← hn] at h1
  have ih := fun T H c => qC l h hl r (done ++ [x]) T H c (n + 1) (by simp [e]) (by simp [hn])
  rw [aU]
  generalize paE x = E at *
  by_cases h0 : E = 0
  ·subst h0
   rw [if_pos rfl]
   refine evl ?_
   repeat' (first | refine ae ?_ | refine kX [(0, _, _)] [] ⟨rfl, trivial⟩ trivial (h1) ?_ | (refine ab ?_ ?_ <;> intro h))
   refine aA [8, 1, 7] [0] ?_
   exact ih _ _ _
  ·rw [if_neg h0]
   refine evl ?_
   repeat' (first | refine ae ?_ | refine kX [(0, _, _)] [] ⟨rfl, trivial⟩ trivial (h1) ?_ | (refine ab ?_ ?_ <;> intro h))
   (conv => whnf); first | refine aP [(0, _, _)] [] [true] ?_ | refine aQ [(0, _, _)] [] [true] ?_
   rfl
theorem yF (l : List PathR) (h : ∀ r ∈ l, r.pattern.length < 2 ^ 32) (hl : l.length < 2 ^ 40) : am G 511 [.int .i64 l.length, .fn 515 [.ref 0 0 0]] [.cells [.sl 2 (l.map PathR.enc)]] ⟨.int .i64 (aU paE l), [(true, .cells [.sl 2 (l.map PathR.enc)])]⟩ := by
 refine aa (F := f511) rfl rfl (ag 300 _ _ _ _ ?_)
 repeat' (first | refine ae ?_ | (refine ab ?_ ?_ <;> intro h))
 refine aA [8, 1, 7] [0] ?_
 exact qC l h hl l [] _ _ _ 0 rfl rfl
theorem yd (s : PSet) (g : s.good) (i : Nat) (x : PathL) (hx : s.paths[i]? = some x) : am G 513 [.int .i64 (i : Int), .ref 0 0 0] [.cells s.enc] ⟨.int .i64 x.rules.length, [(true, .cells s.enc)]⟩ := by
 have m1 : (s.paths.map PathL.enc).length = s.paths.length := by simp
 have m2 : (x.rules.map PathR.enc).length = x.rules.length := by simp
 have hx1 : (s.paths.map PathL.enc)[((i : Nat) : Int).toNat]? = some x.enc := by simp [hx]
 have hi : i < s.paths.length := (List.getElem?_eq_some_iff.1 hx).1
 have gl := g.b
 refine aa (F := f513) rfl rfl (ag 300 _ _ _ _ ?_)
 repeat' (first | refine ae ?_ | (refine ab ?_ ?_ <;> intro h))
 (conv => whnf); first | refine aP [(0, _, _)] [] [true] ?_ | refine aQ [(0, _, _)] [] [true] ?_
 rw [m2]; rfl
theorem yQ (s : PSet) (g : s.good) (i : Nat) (x : PathL) (hx : s.paths[i]? = some x) : am G 514 [.int .i64 (i : Int), .ref 0 0 0] [.cells s.enc] ⟨.int .i64 (aU paE x.rules), [(true, .cells s.enc)]⟩ := by
 have m1 : (s.paths.map PathL.enc).length = s.paths.length := by simp
 have m2 : (x.rules.map PathR.enc).length = x.rules.length := by simp
 have hx1 : (s.paths.map PathL.enc)[((i : Nat) : Int).toNat]? = some x.enc := by simp [hx]
 have hi : i < s.paths.length := (List.getElem?_eq_some_iff.1 hx).1
 have gl := g.b
 obtain ⟨q1, q2, q3⟩ := g.pat x (List.mem_of_getElem? hx)
 have h1 := yF x.rules q3 q2
 rw [← m2] at h1
 generalize aU paE x.rules = E at *
 refine aa (F := f514) rfl rfl (ag 300 _ _ _ _ ?_)
 repeat' (first | refine ae ?_ | refine kX [(68, _, _)] [] ⟨rfl, trivial⟩ trivial (h1) ?_ | (refine ab ?_ ?_ <;> intro h))
 (conv => whnf); first | refine aP [(0, _, _)] [] [true] ?_ | refine aQ [(0, _, _)] [] [true] ?_
 rfl
theorem yA (l : List ComR) (h : ∀ r ∈ l, True) (hl : l.length < 2 ^ 40) (i : Nat) (x : ComR) (hx : l[i]? = some x) : am G 519 [.int .i64 (i : Int), .ref 0 0 0] [.cells [.sl 3 (l.map ComR.enc)]] ⟨.int .i64 (cW x), [(true, .cells [.sl 3 (l.map ComR.enc)])]⟩ := by
 have m1 : (l.map ComR.enc).length = l.length := by simp
 have hx1 : (l.map ComR.enc)[((i : Nat) : Int).toNat]? = some x.enc := by simp [hx]
 have hi : i < l.length := (List.getElem?_eq_some_iff.1 hx).1
 have h1 := xl x
 generalize cW x = E at *
 refine aa (F := f519) rfl rfl (ag 300 _ _ _ _ ?_)
 repeat' (first | refine ae ?_ | (refine ab ?_ ?_ <;> intro h))
 (conv => whnf); first | refine aP [(0, _, _)] [] [true] ?_ | refine aQ [(0, _, _)] [] [true] ?_
 rfl
theorem qB (l : List ComR) (h : ∀ r ∈ l, True) (hl : l.length < 2 ^ 40) : ∀ (rest done : List ComR) (T : List (Nat × AV)) (H : ay) (c : Nat) (n : Int) (e : l = done ++ rest) (hn : n = done.length),
  Ev G ⟨oD, ⟨(8, .int .i64 n) :: (1, .fn 519 [.ref 0 0 0]) :: (7, .int .i64 l.length) :: T, (0, some (0, .cells [.sl 3 (l.map ComR.enc)])) :: H, c⟩, [.t 4], 1⟩ ⟨.int .i64 (aU cW rest), [(true, .cells [.sl 3 (l.map ComR.enc)])]⟩
 | [], done, T, H, c, n, e, hn => by
  have hd : l.length = done.length := by simp [e]
  refine evl ?_
  repeat' (first | refine ae ?_ | (refine ab ?_ ?_ <;> intro h))
  (conv => whnf); first | refine aP [(0, _, _)] [] [true] ?_ | refine aQ [(0, _, _)] [] [true] ?_
  rfl
 | x :: r, done, T, H, c, n, e, hn => by
  have hd : l.length = done.length + (r.length + 1) := by simp [e]
  have h1 := yA l h hl done.length x (by simp [e])
  rw [← hn] at h1
  have ih := fun T H c => qB l h hl r (done ++ [x]) T H c (n + 1) (by simp [e]) (by simp [hn])
  rw [aU]
  generalize cW x = E at *
  by_cases h0 : E = 0
  ·subst h0
   rw [if_pos rfl]
   refine evl ?_
   repeat' (first | refine ae ?_ | refine kX [(0, _, _)] [] ⟨rfl, trivial⟩ trivial (h1) ?_ | (refine ab ?_ ?_ <;> intro h))
   refine aA [8, 1, 7] [0] ?_
   exact ih _ _ _
  ·rw [if_neg h0]
   refine evl ?_
   repeat' (first | refine ae ?_ | refine kX [(0, _, _)] [] ⟨rfl, trivial⟩ trivial (h1) ?_ | (refine ab ?_ ?_ <;> intro h))
   (conv => whnf); first | refine aP [(0, _, _)] [] [true] ?_ | refine aQ [(0, _, _)] [] [true] ?_
   rfl
theorem yE (l : List ComR) (h : ∀ r ∈ l, True) (hl : l.length < 2 ^ 40) : am G 511 [.int .i64 l.length, .fn 519 [.ref 0 0 0]] [.cells [.sl 3 (l.map ComR.enc)]] ⟨.int .i64 (aU cW l), [(true, .cells [.sl 3 (l.map ComR.enc)])]⟩ := by
 refine aa (F := f511) rfl rfl (ag 300 _ _ _ _ ?_)
 repeat' (first | refine ae ?_ | (refine ab ?_ ?_ <;> intro h))
 refine aA [8, 1, 7] [0] ?_
 exact qB l h hl l [] _ _ _ 0 rfl rfl
theorem yc (s : PSet) (g : s.good) (i : Nat) (x : ComL) (hx : s.comms[i]? = some x) : am G 517 [.int .i64 (i : Int), .ref 0 0 0] [.cells s.enc] ⟨.int .i64 x.rules.length, [(true, .cells s.enc)]⟩ := by
 have m1 : (s.comms.map ComL.enc).length = s.comms.length := by simp
 have m2 : (x.rules.map ComR.enc).length = x.rules.length := by simp
 have hx1 : (s.comms.map ComL.enc)[((i : Nat) : Int).toNat]? = some x.enc := by simp [hx]
 have hi : i < s.comms.length := (List.getElem?_eq_some_iff.1 hx).1
 have gl := g.c
 refine aa (F := f517) rfl rfl (ag 300 _ _ _ _ ?_)
 repeat' (first | refine ae ?_ | (refine ab ?_ ?_ <;> intro h))
 (conv => whnf); first | refine aP [(0, _, _)] [] [true] ?_ | refine aQ [(0, _, _)] [] [true] ?_
 rw [m2]; rfl
theorem yP (s : PSet) (g : s.good) (i : Nat) (x : ComL) (hx : s.comms[i]? = some x) : am G 518 [.int .i64 (i : Int), .ref 0 0 0] [.cells s.enc] ⟨.int .i64 (aU cW x.rules), [(true, .cells s.enc)]⟩ := by
 have m1 : (s.comms.map ComL.enc).length = s.comms.length := by simp
 have m2 : (x.rules.map ComR.enc).length = x.rules.length := by simp
 have hx1 : (s.comms.map ComL.enc)[((i : Nat) : Int).toNat]? = some x.enc := by simp [hx]
 have hi : i < s.comms.length := (List.getElem?_eq_some_iff.1 hx).1
 have gl := g.c
 obtain ⟨q1, q2, q3⟩ := g.com x (List.mem_of_getElem? hx)
 have h1 := yE x.rules (fun _ _ => trivial) q2
 rw [← m2] at h1
 generalize aU cW x.rules = E at *
 refine aa (F := f518) rfl rfl (ag 300 _ _ _ _ ?_)
 repeat' (first | refine ae ?_ | refine kX [(68, _, _)] [] ⟨rfl, trivial⟩ trivial (h1) ?_ | (refine ab ?_ ?_ <;> intro h))
 (conv => whnf); first | refine aP [(0, _, _)] [] [true] ?_ | refine aQ [(0, _, _)] [] [true] ?_
 rfl
theorem qN (s : PSet) (g : s.good) : ∀ (rest done : List PList) (T : List (Nat × AV)) (H : ay) (c : Nat) (n : Int) (e : s.prefixes = done ++ rest) (hn : n = done.length),
  Ev G ⟨j3, ⟨(16, .int .i64 n) :: (2, .fn 510 [.ref 0 0 0]) :: (1, .fn 509 [.ref 0 0 0]) :: (0, .sl 1 ((s.prefixes.map PList.name).map aX)) :: (14, .sl 1 ((s.prefixes.map PList.name).map aX)) :: (15, .int .i64 s.prefixes.length) :: T, (0, some (0, .cells s.enc)) :: H, c⟩, [.t 6], 1⟩ ⟨.int .i64 (eaE PList.name (fun x : PList => x.rules.length) (fun x => aU ruE x.rules) done rest), [(true, .cells s.enc)]⟩
 | [], done, T, H, c, n, e, hn => by
  have hd : s.prefixes.length = done.length := by simp [e]
  refine evl ?_
  repeat' (first | refine ae ?_ | (refine ab ?_ ?_ <;> intro h))
  (conv => whnf); first | refine aP [(0, _, _)] [] [true] ?_ | refine aQ [(0, _, _)] [] [true] ?_
  rfl
 | x :: r, done, T, H, c, n, e, hn => by
  have hd : s.prefixes.length = done.length + (r.length + 1) := by simp [e]
  have gl := g.a
  have m1 : ((s.prefixes.map PList.name).map aX).length = s.prefixes.length := by simp
  have hx : ((s.prefixes.map PList.name).map aX)[n.toNat]? = some [.str x.name] := by simp [e, hn, aX]
  obtain ⟨q1, q2, q3⟩ := g.pre x (by simp [e])
  have h2 : am G 577 [.sl 1 (List.take (n.toNat - 0) (List.drop 0 ((s.prefixes.map PList.name).map aX))), .str x.name] [] ⟨.int .i64 (fa (done.map PList.name) x.name), []⟩ := by
   have h := gh (done.map PList.name) x.name q1 (by simp; omega)
   have q : List.take (n.toNat - 0) (List.drop 0 ((s.prefixes.map PList.name).map aX)) = (done.map PList.name).map aX := by
    rw [e, hn]; simp
   rw [q]; exact h
  have h3 := ye s g done.length x (by simp [e])
  have h4 := yT s g done.length x (by simp [e])
  rw [← hn] at h3 h4
  have ih := fun T H c => qN s g r (done ++ [x]) T H c (n + 1) (by simp [e]) (by simp [hn])
  rw [eaE]
  generalize fa (done.map PList.name) x.name = A at *
  by_cases a : A = 0
  ·subst a
   rw [if_pos rfl]
   by_cases b : 64 < x.rules.length
   ·rw [if_pos b]
    refine evl ?_
    repeat' (first | refine ae ?_ | refine kX [(0, _, _)] [] ⟨rfl, trivial⟩ trivial (h3) ?_ | (refine ab ?_ ?_ <;> intro h))
    (conv => whnf); first | refine aP [(0, _, _)] [] [true] ?_ | refine aQ [(0, _, _)] [] [true] ?_
    rfl
   ·rw [if_neg b]
    generalize aU ruE x.rules = E at *
    by_cases h0 : E = 0
    ·subst h0
     rw [if_pos rfl]
     refine evl ?_
     repeat' (first | refine ae ?_ | refine kX [(0, _, _)] [] ⟨rfl, trivial⟩ trivial (h3) ?_ | refine kX [(0, _, _)] [] ⟨rfl, trivial⟩ trivial (h4) ?_ | (refine ab ?_ ?_ <;> intro h))
     refine aA [16, 2, 1, 0, 14, 15] [0] ?_
     exact ih _ _ _
    ·rw [if_neg h0]
     refine evl ?_
     repeat' (first | refine ae ?_ | refine kX [(0, _, _)] [] ⟨rfl, trivial⟩ trivial (h3) ?_ | refine kX [(0, _, _)] [] ⟨rfl, trivial⟩ trivial (h4) ?_ | (refine ab ?_ ?_ <;> intro h))
     (conv => whnf); first | refine aP [(0, _, _)] [] [true] ?_ | refine aQ [(0, _, _)] [] [true] ?_
     rfl
  ·rw [if_neg a]
   refine evl ?_
   repeat' (first | refine ae ?_ | (refine ab ?_ ?_ <;> intro h))
   (conv => whnf); first | refine aP [(0, _, _)] [] [true] ?_ | refine aQ [(0, _, _)] [] [true] ?_
   rfl
theorem yM (s : PSet) (g : s.good) : am G 508 [.sl 1 ((s.prefixes.map PList.name).map aX), .fn 509 [.ref 0 0 0], .fn 510 [.ref 0 0 0]] [.cells s.enc] ⟨.int .i64 (if 64 < s.prefixes.length then 4 else eaE PList.name (fun x : PList => x.rules.length) (fun x => aU ruE x.rules) [] s.prefixes), [(true, .cells s.enc)]⟩ := by
 have gl := g.a
 have m1 : ((s.prefixes.map PList.name).map aX).length = s.prefixes.length := by simp
 by_cases c : 64 < s.prefixes.length
 ·rw [if_pos c]
  refine aa (F := f508) rfl rfl (ag 300 _ _ _ _ ?_)
  repeat' (first | refine ae ?_ | (refine ab ?_ ?_ <;> intro h))
  (conv => whnf); first | refine aP [(0, _, _)] [] [true] ?_ | refine aQ [(0, _, _)] [] [true] ?_
  rfl
 ·rw [if_neg c]
  refine aa (F := f508) rfl rfl (ag 300 _ _ _ _ ?_)
  repeat' (first | refine ae ?_ | (refine ab ?_ ?_ <;> intro h))
  refine aA [16, 2, 1, 0, 14, 15] [0] ?_
  rw [m1]
  exact qN s g s.prefixes [] _ _ _ 0 rfl rfl
theorem qM (s : PSet) (g : s.good) : ∀ (rest done : List PathL) (T : List (Nat × AV)) (H : ay) (c : Nat) (n : Int) (e : s.paths = done ++ rest) (hn : n = done.length),
  Ev G ⟨j3, ⟨(16, .int .i64 n) :: (2, .fn 514 [.ref 0 0 0]) :: (1, .fn 513 [.ref 0 0 0]) :: (0, .sl 1 ((s.paths.map PathL.name).map aX)) :: (14, .sl 1 ((s.paths.map PathL.name).map aX)) :: (15, .int .i64 s.paths.length) :: T, (0, some (0, .cells s.enc)) :: H, c⟩, [.t 6], 1⟩ ⟨.int .i64 (eaE PathL.name (fun x : PathL => x.rules.length) (fun x => aU paE x.rules) done rest), [(true, .cells s.enc)]⟩
 | [], done, T, H, c, n, e, hn => by
  have hd : s.paths.length = done.length := by simp [e]
  refine evl ?_
  repeat' (first | refine ae ?_ | (refine ab ?_ ?_ <;> intro h))
  (conv => whnf); first | refine aP [(0, _, _)] [] [true] ?_ | refine aQ [(0, _, _)] [] [true] ?_
  rfl
 | x :: r, done, T, H, c, n, e, hn => by
  have hd : s.paths.length = done.length + (r.length + 1) := by simp [e]
  have gl := g.b
  have m1 : ((s.paths.map PathL.name).map aX).length = s.paths.length := by simp
  have hx : ((s.paths.map PathL.name).map aX)[n.toNat]? = some [.str x.name] := by simp [e, hn, aX]
  obtain ⟨q1, q2, q3⟩ := g.pat x (by simp [e])
  have h2 : am G 577 [.sl 1 (List.take (n.toNat - 0) (List.drop 0 ((s.paths.map PathL.name).map aX))), .str x.name] [] ⟨.int .i64 (fa (done.map PathL.name) x.name), []⟩ := by
   have h := gh (done.map PathL.name) x.name q1 (by simp; omega)
   have q : List.take (n.toNat - 0) (List.drop 0 ((s.paths.map PathL.name).map aX)) = (done.map PathL.name).map aX := by
    rw [e, hn]; simp
   rw [q]; exact h
  have h3 := yd s g done.length x (by simp [e])
  have h4 := yQ s g done.length x (by simp [e])
  rw [← hn] at h3 h4
  have ih := fun T H c => qM s g r (done ++ [x]) T H c (n + 1) (by simp [e]) (by simp [hn])
  rw [eaE]
  generalize fa (done.map PathL.name) x.name = A at *
  by_cases a : A = 0
  ·subst a
   rw [if_pos rfl]
   by_cases b : 64 < x.rules.length
   ·rw [if_pos b]
    refine evl ?_
    repeat' (first | refine ae ?_ | refine kX [(0, _, _)] [] ⟨rfl, trivial⟩ trivial (h3) ?_ | (refine ab ?_ ?_ <;> intro h))
    (conv => whnf); first | refine aP [(0, _, _)] [] [true] ?_ | refine aQ [(0, _, _)] [] [true] ?_
    rfl
   ·rw [if_neg b]
    generalize aU paE x.rules = E at *
    by_cases h0 : E = 0
    ·subst h0
     rw [if_pos rfl]
     refine evl ?_
     repeat' (first | refine ae ?_ | refine kX [(0, _, _)] [] ⟨rfl, trivial⟩ trivial (h3) ?_ | refine kX [(0, _, _)] [] ⟨rfl, trivial⟩ trivial (h4) ?_ | (refine ab ?_ ?_ <;> intro h))
     refine aA [16, 2, 1, 0, 14, 15] [0] ?_
     exact ih _ _ _
    ·rw [if_neg h0]
     refine evl ?_
     repeat' (first | refine ae ?_ | refine kX [(0, _, _)] [] ⟨rfl, trivial⟩ trivial (h3) ?_ | refine kX [(0, _, _)] [] ⟨rfl, trivial⟩ trivial (h4) ?_ | (refine ab ?_ ?_ <;> intro h))
     (conv => whnf); first | refine aP [(0, _, _)] [] [true] ?_ | refine aQ [(0, _, _)] [] [true] ?_
     rfl
  ·rw [if_neg a]
   refine evl ?_
   repeat' (first | refine ae ?_ | (refine ab ?_ ?_ <;> intro h))
   (conv => whnf); first | refine aP [(0, _, _)] [] [true] ?_ | refine aQ [(0, _, _)] [] [true] ?_
   rfl
theorem yL (s : PSet) (g : s.good) : am G 508 [.sl 1 ((s.paths.map PathL.name).map aX), .fn 513 [.ref 0 0 0], .fn 514 [.ref 0 0 0]] [.cells s.enc] ⟨.int .i64 (if 64 < s.paths.length then 4 else eaE PathL.name (fun x : PathL => x.rules.length) (fun x => aU paE x.rules) [] s.paths), [(true, .cells s.enc)]⟩ := by
 have gl := g.b
 have m1 : ((s.paths.map PathL.name).map aX).length = s.paths.length := by simp
 by_cases c : 64 < s.paths.length
 ·rw [if_pos c]
  refine aa (F := f508) rfl rfl (ag 300 _ _ _ _ ?_)
  repeat' (first | refine ae ?_ | (refine ab ?_ ?_ <;> intro h))
  (conv => whnf); first | refine aP [(0, _, _)] [] [true] ?_ | refine aQ [(0, _, _)] [] [true] ?_
  rfl
 ·rw [if_neg c]
  refine aa (F := f508) rfl rfl (ag 300 _ _ _ _ ?_)
  repeat' (first | refine ae ?_ | (refine ab ?_ ?_ <;> intro h))
  refine aA [16, 2, 1, 0, 14, 15] [0] ?_
  rw [m1]
  exact qM s g s.paths [] _ _ _ 0 rfl rfl
theorem qL (s : PSet) (g : s.good) : ∀ (rest done : List ComL) (T : List (Nat × AV)) (H : ay) (c : Nat) (n : Int) (e : s.comms = done ++ rest) (hn : n = done.length),
  Ev G ⟨j3, ⟨(16, .int .i64 n) :: (2, .fn 518 [.ref 0 0 0]) :: (1, .fn 517 [.ref 0 0 0]) :: (0, .sl 1 ((s.comms.map ComL.name).map aX)) :: (14, .sl 1 ((s.comms.map ComL.name).map aX)) :: (15, .int .i64 s.comms.length) :: T, (0, some (0, .cells s.enc)) :: H, c⟩, [.t 6], 1⟩ ⟨.int .i64 (eaE ComL.name (fun x : ComL => x.rules.length) (fun x => aU cW x.rules) done rest), [(true, .cells s.enc)]⟩
 | [], done, T, H, c, n, e, hn => by
  have hd : s.comms.length = done.length := by simp [e]
  refine evl ?_
  repeat' (first | refine ae ?_ | (refine ab ?_ ?_ <;> intro h))
  (conv => whnf); first | refine aP [(0, _, _)] [] [true] ?_ | refine aQ [(0, _, _)] [] [true] ?_
  rfl
 | x :: r, done, T, H, c, n, e, hn => by
  have hd : s.comms.length = done.length + (r.length + 1) := by simp [e]
  have gl := g.c
  have m1 : ((s.comms.map ComL.name).map aX).length = s.comms.length := by simp
  have hx : ((s.comms.map ComL.name).map aX)[n.toNat]? = some [.str x.name] := by simp [e, hn, aX]
  obtain ⟨q1, q2, q3⟩ := g.com x (by simp [e])
  have h2 : am G 577 [.sl 1 (List.take (n.toNat - 0) (List.drop 0 ((s.comms.map ComL.name).map aX))), .str x.name] [] ⟨.int .i64 (fa (done.map ComL.name) x.name), []⟩ := by
   have h := gh (done.map ComL.name) x.name q1 (by simp; omega)
   have q : List.take (n.toNat - 0) (List.drop 0 ((s.comms.map ComL.name).map aX)) = (done.map ComL.name).map aX := by
    rw [e, hn]; simp
   rw [q]; exact h
  have h3 := yc s g done.length x (by simp [e])
  have h4 := yP s g done.length x (by simp [e])
  rw [← hn] at h3 h4
  have ih := fun T H c => qL s g r (done ++ [x]) T H c (n + 1) (by simp [e]) (by simp [hn])
  rw [eaE]
  generalize fa (done.map ComL.name) x.name = A at *
  by_cases a : A = 0
  ·subst a
   rw [if_pos rfl]
   by_cases b : 64 < x.rules.length
   ·rw [if_pos b]
    refine evl ?_
    repeat' (first | refine ae ?_ | refine kX [(0, _, _)] [] ⟨rfl, trivial⟩ trivial (h3) ?_ | (refine ab ?_ ?_ <;> intro h))
    (conv => whnf); first | refine aP [(0, _, _)] [] [true] ?_ | refine aQ [(0, _, _)] [] [true] ?_
    rfl
   ·rw [if_neg b]
    generalize aU cW x.rules = E at *
    by_cases h0 : E = 0
    ·subst h0
     rw [if_pos rfl]
     refine evl ?_
     repeat' (first | refine ae ?_ | refine kX [(0, _, _)] [] ⟨rfl, trivial⟩ trivial (h3) ?_ | refine kX [(0, _, _)] [] ⟨rfl, trivial⟩ trivial (h4) ?_ | (refine ab ?_ ?_ <;> intro h))
     refine aA [16, 2, 1, 0, 14, 15] [0] ?_
     exact ih _ _ _
    ·rw [if_neg h0]
     refine evl ?_
     repeat' (first | refine ae ?_ | refine kX [(0, _, _)] [] ⟨rfl, trivial⟩ trivial (h3) ?_ | refine kX [(0, _, _)] [] ⟨rfl, trivial⟩ trivial (h4) ?_ | (refine ab ?_ ?_ <;> intro h))
     (conv => whnf); first | refine aP [(0, _, _)] [] [true] ?_ | refine aQ [(0, _, _)] [] [true] ?_
     rfl
  ·rw [if_neg a]
   refine evl ?_
   repeat' (first | refine ae ?_ | (refine ab ?_ ?_ <;> intro h))
   (conv => whnf); first | refine aP [(0, _, _)] [] [true] ?_ | refine aQ [(0, _, _)] [] [true] ?_
   rfl
theorem yK (s : PSet) (g : s.good) : am G 508 [.sl 1 ((s.comms.map ComL.name).map aX), .fn 517 [.ref 0 0 0], .fn 518 [.ref 0 0 0]] [.cells s.enc] ⟨.int .i64 (if 64 < s.comms.length then 4 else eaE ComL.name (fun x : ComL => x.rules.length) (fun x => aU cW x.rules) [] s.comms), [(true, .cells s.enc)]⟩ := by
 have gl := g.c
 have m1 : ((s.comms.map ComL.name).map aX).length = s.comms.length := by simp
 by_cases c : 64 < s.comms.length
 ·rw [if_pos c]
  refine aa (F := f508) rfl rfl (ag 300 _ _ _ _ ?_)
  repeat' (first | refine ae ?_ | (refine ab ?_ ?_ <;> intro h))
  (conv => whnf); first | refine aP [(0, _, _)] [] [true] ?_ | refine aQ [(0, _, _)] [] [true] ?_
  rfl
 ·rw [if_neg c]
  refine aa (F := f508) rfl rfl (ag 300 _ _ _ _ ?_)
  repeat' (first | refine ae ?_ | (refine ab ?_ ?_ <;> intro h))
  refine aA [16, 2, 1, 0, 14, 15] [0] ?_
  rw [m1]
  exact qL s g s.comms [] _ _ _ 0 rfl rfl
end Go.AM.IR
namespace Go.AM.IR
theorem yb (s : PSet) (g : s.good) (i : Nat) (x : Pol) (hx : s.pols[i]? = some x) : am G 521 [.int .i64 (i : Int), .ref 0 0 0] [.cells s.enc] ⟨.int .i64 x.terms.length, [(true, .cells s.enc)]⟩ := by
 have m1 : (s.pols.map Pol.enc).length = s.pols.length := by simp
 have m2 : (x.terms.map Trm.enc).length = x.terms.length := by simp
 have hx1 : (s.pols.map Pol.enc)[((i : Nat) : Int).toNat]? = some x.enc := by simp [hx]
 have hi : i < s.pols.length := (List.getElem?_eq_some_iff.1 hx).1
 have gl := g.d
 refine aa (F := f521) rfl rfl (ag 300 _ _ _ _ ?_)
 repeat' (first | refine ae ?_ | (refine ab ?_ ?_ <;> intro h))
 (conv => whnf); first | refine aP [(0, _, _)] [] [true] ?_ | refine aQ [(0, _, _)] [] [true] ?_
 rw [m2]; rfl
theorem yO (k : Kn) (hf : k.fit) (s : PSet) (g : s.good) (i : Nat) (x : Pol) (hx : s.pols[i]? = some x) : am G 522 [.int .i64 (i : Int), .ref 0 0 0, .ref 1 0 0] [.cells k.enc, .cells s.enc] ⟨.int .i64 (plE k x), [(true, .cells k.enc), (true, .cells s.enc)]⟩ := by
 have m1 : (s.pols.map Pol.enc).length = s.pols.length := by simp
 have hx1 : (s.pols.map Pol.enc)[((i : Nat) : Int).toNat]? = some x.enc := by simp [hx]
 have hi : i < s.pols.length := (List.getElem?_eq_some_iff.1 hx).1
 have gl := g.d
 obtain ⟨q1, q2, q3⟩ := g.pol x (List.mem_of_getElem? hx)
 have h1 := yn k hf x q2 q3
 generalize plE k x = E at *
 refine aa (F := f522) rfl rfl (ag 300 _ _ _ _ ?_)
 repeat' (first | refine ae ?_ | (refine ab ?_ ?_ <;> intro h))
 (conv => whnf); first | refine aP [(0, _, _), (1, _, _)] [] [true, true] ?_ | refine aQ [(0, _, _), (1, _, _)] [] [true, true] ?_
 rfl
theorem qK (k : Kn) (hf : k.fit) (s : PSet) (g : s.good) : ∀ (rest done : List Pol) (T : List (Nat × AV)) (H : ay) (c : Nat) (n : Int) (e : s.pols = done ++ rest) (hn : n = done.length),
  Ev G ⟨j3, ⟨(16, .int .i64 n) :: (2, .fn 522 [.ref 0 0 0, .ref 1 0 0]) :: (1, .fn 521 [.ref 1 0 0]) :: (0, .sl 1 ((s.pols.map Pol.name).map aX)) :: (14, .sl 1 ((s.pols.map Pol.name).map aX)) :: (15, .int .i64 s.pols.length) :: T, (0, some (0, .cells k.enc)) :: (1, some (0, .cells s.enc)) :: H, c⟩, [.t 6], 2⟩ ⟨.int .i64 (eaE Pol.name (fun x : Pol => x.terms.length) (plE k) done rest), [(true, .cells k.enc), (true, .cells s.enc)]⟩
 | [], done, T, H, c, n, e, hn => by
  have hd : s.pols.length = done.length := by simp [e]
  refine evl ?_
  repeat' (first | refine ae ?_ | (refine ab ?_ ?_ <;> intro h))
  (conv => whnf); first | refine aP [(0, _, _), (1, _, _)] [] [true, true] ?_ | refine aQ [(0, _, _), (1, _, _)] [] [true, true] ?_
  rfl
 | x :: r, done, T, H, c, n, e, hn => by
  have hd : s.pols.length = done.length + (r.length + 1) := by simp [e]
  have gl := g.d
  have m1 : ((s.pols.map Pol.name).map aX).length = s.pols.length := by simp
  have hx : ((s.pols.map Pol.name).map aX)[n.toNat]? = some [.str x.name] := by simp [e, hn, aX]
  obtain ⟨q1, q2, q3⟩ := g.pol x (by simp [e])
  have h2 : am G 577 [.sl 1 (List.take (n.toNat - 0) (List.drop 0 ((s.pols.map Pol.name).map aX))), .str x.name] [] ⟨.int .i64 (fa (done.map Pol.name) x.name), []⟩ := by
   have h := gh (done.map Pol.name) x.name q1 (by simp; omega)
   have q : List.take (n.toNat - 0) (List.drop 0 ((s.pols.map Pol.name).map aX)) = (done.map Pol.name).map aX := by
    rw [e, hn]; simp
   rw [q]; exact h
  have h3 := yb s g done.length x (by simp [e])
  have h4 := yO k hf s g done.length x (by simp [e])
  rw [← hn] at h3 h4
  have ih := fun T H c => qK k hf s g r (done ++ [x]) T H c (n + 1) (by simp [e]) (by simp [hn])
  rw [eaE]
  generalize fa (done.map Pol.name) x.name = A at *
  by_cases a : A = 0
  ·subst a
   rw [if_pos rfl]
   by_cases b : 64 < x.terms.length
   ·rw [if_pos b]
    refine evl ?_
    repeat' (first | refine ae ?_ | refine kX [(1, _, _)] [] ⟨rfl, trivial⟩ trivial (h3) ?_ | (refine ab ?_ ?_ <;> intro h))
    (conv => whnf); first | refine aP [(0, _, _), (1, _, _)] [] [true, true] ?_ | refine aQ [(0, _, _), (1, _, _)] [] [true, true] ?_
    rfl
   ·rw [if_neg b]
    generalize plE k x = E at *
    by_cases h0 : E = 0
    ·subst h0
     rw [if_pos rfl]
     refine evl ?_
     repeat' (first | refine ae ?_ | refine kX [(1, _, _)] [] ⟨rfl, trivial⟩ trivial (h3) ?_ | refine kX [(0, _, _), (1, _, _)] [] ⟨rfl, rfl, trivial⟩ trivial (h4) ?_ | (refine ab ?_ ?_ <;> intro h))
     refine aA [16, 2, 1, 0, 14, 15] [0, 1] ?_
     exact ih _ _ _
    ·rw [if_neg h0]
     refine evl ?_
     repeat' (first | refine ae ?_ | refine kX [(1, _, _)] [] ⟨rfl, trivial⟩ trivial (h3) ?_ | refine kX [(0, _, _), (1, _, _)] [] ⟨rfl, rfl, trivial⟩ trivial (h4) ?_ | (refine ab ?_ ?_ <;> intro h))
     (conv => whnf); first | refine aP [(0, _, _), (1, _, _)] [] [true, true] ?_ | refine aQ [(0, _, _), (1, _, _)] [] [true, true] ?_
     rfl
  ·rw [if_neg a]
   refine evl ?_
   repeat' (first | refine ae ?_ | (refine ab ?_ ?_ <;> intro h))
   (conv => whnf); first | refine aP [(0, _, _), (1, _, _)] [] [true, true] ?_ | refine aQ [(0, _, _), (1, _, _)] [] [true, true] ?_
   rfl
theorem yJ (k : Kn) (hf : k.fit) (s : PSet) (g : s.good) : am G 508 [.sl 1 ((s.pols.map Pol.name).map aX), .fn 521 [.ref 1 0 0], .fn 522 [.ref 0 0 0, .ref 1 0 0]] [.cells k.enc, .cells s.enc] ⟨.int .i64 (if 64 < s.pols.length then 4 else eaE Pol.name (fun x : Pol => x.terms.length) (plE k) [] s.pols), [(true, .cells k.enc), (true, .cells s.enc)]⟩ := by
 have gl := g.d
 have m1 : ((s.pols.map Pol.name).map aX).length = s.pols.length := by simp
 by_cases c : 64 < s.pols.length
 ·rw [if_pos c]
  refine aa (F := f508) rfl rfl (ag 300 _ _ _ _ ?_)
  repeat' (first | refine ae ?_ | (refine ab ?_ ?_ <;> intro h))
  (conv => whnf); first | refine aP [(0, _, _), (1, _, _)] [] [true, true] ?_ | refine aQ [(0, _, _), (1, _, _)] [] [true, true] ?_
  rfl
 ·rw [if_neg c]
  refine aa (F := f508) rfl rfl (ag 300 _ _ _ _ ?_)
  repeat' (first | refine ae ?_ | (refine ab ?_ ?_ <;> intro h))
  refine aA [16, 2, 1, 0, 14, 15] [0, 1] ?_
  rw [m1]
  exact qK k hf s g s.pols [] _ _ _ 0 rfl rfl
end Go.AM.IR
namespace Go.AM.IR
theorem x6 : bb ⟨0, 0⟩ = true := by rfl
theorem sS : ∀ (l : List PList) (k : List UInt8), (iw l k = none ↔ dk (l.map PList.name) k = false)
 | [], k => by simp [iw, dk]
 | x :: r, k => by
  have ih := sS r k
  by_cases h : x.name = k
  ·simp [iw, dk, h]
  ·simp only [iw, if_neg h, ih]; simp [dk, h]
theorem sX : ∀ (l : List PathL) (k : List UInt8), (iy l k = none ↔ dk (l.map PathL.name) k = false)
 | [], k => by simp [iy, dk]
 | x :: r, k => by
  have ih := sX r k
  by_cases h : x.name = k
  ·simp [iy, dk, h]
  ·simp only [iy, if_neg h, ih]; simp [dk, h]
theorem tJ : ∀ (l : List ComL) (k : List UInt8), (iG l k = none ↔ dk (l.map ComL.name) k = false)
 | [], k => by simp [iG, dk]
 | x :: r, k => by
  have ih := tJ r k
  by_cases h : x.name = k
  ·simp [iG, dk, h]
  ·simp only [iG, if_neg h, ih]; simp [dk, h]
theorem LL (s : PSet) (m : Mat) : mtE (cn s) m = lm s m := by
 have p1 := sS s.prefixes m.name
 have p2 := sX s.paths m.name
 have p3 := tJ s.comms m.name
 obtain ⟨kind, name, n, ⟨pa, pl⟩, neg⟩ := m
 dsimp only at p1 p2 p3
 have hz := x6
 unfold mtE lm cn
 dsimp only
 by_cases k1 : kind = 1
 ·subst k1
  simp (decide := true) only [if_true, if_false, reduceIte]
  unfold mtN lr
  dsimp only
  by_cases c : n = 0 ∧ pa = 0 ∧ pl = 0
  ·obtain ⟨rfl, rfl, rfl⟩ := c
   simp only [p1]
   cases dk (s.prefixes.map PList.name) name <;> simp [hz]
  ·rw [if_neg c]
   (repeat' split) <;> first | rfl | (exfalso; (try simp only [ne_eq, Decidable.not_not] at *); omega)
 by_cases k2 : kind = 2
 ·subst k2
  simp (decide := true) only [if_true, if_false, reduceIte]
  unfold mtN lq
  dsimp only
  by_cases c : n = 0 ∧ pa = 0 ∧ pl = 0
  ·obtain ⟨rfl, rfl, rfl⟩ := c
   simp only [p2]
   cases dk (s.paths.map PathL.name) name <;> simp [hz]
  ·rw [if_neg c]
   (repeat' split) <;> first | rfl | (exfalso; (try simp only [ne_eq, Decidable.not_not] at *); omega)
 by_cases k3 : kind = 3
 ·subst k3
  simp (decide := true) only [if_true, if_false, reduceIte]
  unfold mtN lp
  dsimp only
  by_cases c : n = 0 ∧ pa = 0 ∧ pl = 0
  ·obtain ⟨rfl, rfl, rfl⟩ := c
   simp only [p3]
   cases dk (s.comms.map ComL.name) name <;> simp [hz]
  ·rw [if_neg c]
   (repeat' split) <;> first | rfl | (exfalso; (try simp only [ne_eq, Decidable.not_not] at *); omega)
 by_cases k7 : kind = 7
 ·subst k7
  simp (decide := true) only [if_true, if_false, reduceIte]
  unfold mtH oq
  dsimp only
  by_cases c : name = []
  ·by_cases d : n = 0
   ·simp only [c, d]
    cases bb ⟨pa, pl⟩ <;> simp
   ·simp [c, d]
  ·simp [c]
 by_cases k4 : kind = 4
 ·subst k4
  simp (decide := true) only [if_true, if_false, reduceIte]
  unfold mtR kg
  dsimp only
  by_cases c : name = [] ∧ pa = 0 ∧ pl = 0
  ·obtain ⟨rfl, rfl, rfl⟩ := c
   simp only [hz]
   (repeat' split) <;> first | rfl | (exfalso; simp_all; done) | (exfalso; simp_all; omega)
  ·rw [if_neg c]
   (repeat' split) <;> first | rfl | (exfalso; simp_all; done) | (exfalso; simp_all; omega)
 by_cases k6 : kind = 6
 ·subst k6
  simp (decide := true) only [if_true, if_false, reduceIte]
  unfold mtR kc
  dsimp only
  by_cases c : name = [] ∧ pa = 0 ∧ pl = 0
  ·obtain ⟨rfl, rfl, rfl⟩ := c
   simp only [hz]
   (repeat' split) <;> first | rfl | (exfalso; simp_all; done) | (exfalso; simp_all; omega)
  ·rw [if_neg c]
   (repeat' split) <;> first | rfl | (exfalso; simp_all; done) | (exfalso; simp_all; omega)
 by_cases k8 : kind = 8
 ·subst k8
  simp (decide := true) only [if_true, if_false, reduceIte]
  unfold mtR kb
  dsimp only
  by_cases c : name = [] ∧ pa = 0 ∧ pl = 0
  ·obtain ⟨rfl, rfl, rfl⟩ := c
   simp only [hz]
   (repeat' split) <;> first | rfl | (exfalso; simp_all; done) | (exfalso; simp_all; omega)
  ·rw [if_neg c]
   (repeat' split) <;> first | rfl | (exfalso; simp_all; done) | (exfalso; simp_all; omega)
 by_cases k5 : kind = 5
 ·subst k5
  simp (decide := true) only [if_true, if_false, reduceIte]
  unfold mtR kd
  dsimp only
  by_cases c : name = [] ∧ pa = 0 ∧ pl = 0
  ·obtain ⟨rfl, rfl, rfl⟩ := c
   simp only [hz]
   (repeat' split) <;> first | rfl | (exfalso; simp_all; done) | (exfalso; simp_all; omega)
  ·rw [if_neg c]
   (repeat' split) <;> first | rfl | (exfalso; simp_all; done) | (exfalso; simp_all; omega)
 rw [if_neg k1, if_neg k2, if_neg k3, if_neg k7, if_neg k4, if_neg k6, if_neg k8, if_neg k5]
 (repeat' split) <;> first | rfl | (exfalso; omega)
end Go.AM.IR
namespace Go.AM.IR
theorem qz {α : Type} {f g : α → Int} (h : ∀ x, f x = g x) : ∀ l : List α, aU f l = aU g l
 | [] => rfl
 | x :: r => by rw [aU, aU, h, qz h r]
theorem KZ (s : PSet) (d : List Trm) (t : Trm) : l9 (cn s) d t = tE1 s d t := by
 unfold l9 tE1 DC tE2
 rw [qz (LL s)]
theorem sG (s : PSet) : ∀ (r d : List Trm), iK (cn s) d r = eU s d r
 | [], _ => rfl
 | t :: r, d => by rw [iK, eU, KZ, sG s r]
theorem vL (name : List UInt8) (d : List (List UInt8)) (b : List UInt8) (fst : Bool) (n : Int) (hd : if fst = true then d = [] else d.getLast? = some b) : dq name b fst n = if fa d name = 0 then (if 64 < n then 4 else 0) else fa d name := by
 unfold dq fa
 by_cases h : nmB name = false
 ·rw [if_pos h, if_pos h]; rfl
 ·rw [if_neg h, if_neg h]
  cases fst
  ·simp only [Bool.false_eq_true, if_false] at hd
   rw [hd]
   dsimp only
   by_cases q : (Op.bytesLess name b || name == b) = true
   ·rw [if_pos ⟨rfl, q⟩]; simp only [if_pos q]; rfl
   ·rw [if_neg (fun w => q w.2)]; simp only [if_neg q]; rfl
  ·simp only [if_true] at hd
   subst hd
   rw [if_neg (by simp)]; rfl
theorem jX {α β : Type} (rule : β → Int) (nm : α → List UInt8) (rules : α → List β) : ∀ (r d : List α) (b : List UInt8) (fst : Bool) (hd : if fst = true then d = [] else (d.map nm).getLast? = some b),
  eaE nm (fun x => (rules x).length) (fun x => aU rule (rules x)) d r = ey rule nm rules r b fst
 | [], _, _, _, _ => rfl
 | x :: r, d, b, fst, hd => by
  have hh := vL (nm x) (d.map nm) b fst ((rules x).length : Nat) (by cases fst <;> simp_all)
  have ih := jX rule nm rules r (d ++ [x]) (nm x) false (by simp)
  rw [eaE, ey, hh, ih]
  by_cases a : fa (d.map nm) (nm x) = 0
  ·rw [if_pos a, if_pos a]
   by_cases c : 64 < (rules x).length
   ·have c' : (64 : Int) < ((rules x).length : Nat) := by omega
    simp [c, c']
   ·have c' : ¬ (64 : Int) < ((rules x).length : Nat) := by omega
    simp [c, c']
  ·rw [if_neg a, if_neg a, if_neg a]
theorem sR (s : PSet) : ∀ (r d : List Pol) (b : List UInt8) (fst : Bool) (hd : if fst = true then d = [] else (d.map Pol.name).getLast? = some b),
  eaE Pol.name (fun x => x.terms.length) (plE (cn s)) d r = lf s r b fst
 | [], _, _, _, _ => rfl
 | x :: r, d, b, fst, hd => by
  have hh := vL x.name (d.map Pol.name) b fst (x.terms.length : Nat) (by cases fst <;> simp_all)
  have ih := sR s r (d ++ [x]) x.name false (by simp)
  rw [eaE, lf, hh, ih]
  by_cases a : fa (d.map Pol.name) x.name = 0
  ·rw [if_pos a, if_pos a]
   by_cases c : 64 < x.terms.length
   ·have c' : (64 : Int) < (x.terms.length : Nat) := by omega
    simp [c, c']
   ·have c' : ¬ (64 : Int) < (x.terms.length : Nat) := by omega
    rw [if_neg c, plE, sG]
    by_cases e : eU s [] x.terms = 0
    ·simp [c', e]
    ·simp [c', e]
  ·rw [if_neg a, if_neg a, if_neg a]
end Go.AM.IR
namespace Go.AM.IR
def KB : ACode → ACode
 | .seq _ (.seq _ r) => r
 | c => c
theorem xt (s : PSet) (g : s.good) (h0 : s.prefixes.length < 2 ^ 30) (h1 : s.paths.length < 2 ^ 30) (h2 : s.comms.length < 2 ^ 30) (h3 : s.pols.length < 2 ^ 30) : am G 451 [.agg s.enc] [] ⟨.int .i64 (qV s), []⟩ := by
 have hn := vK s g h0 h1 h2 h3
 have hf : (cn s).fit := ⟨by simp [cn]; omega, by simp [cn]; omega, by simp [cn]; omega, by simp [cn]; omega⟩
 have e1 := yM s g
 have e2 := yL s g
 have e3 := yK s g
 have e4 := yJ (cn s) hf s g
 rw [jX ruE PList.name PList.rules s.prefixes [] [] true (by simp)] at e1
 rw [jX paE PathL.name PathL.rules s.paths [] [] true (by simp)] at e2
 rw [jX cW ComL.name ComL.rules s.comms [] [] true (by simp)] at e3
 rw [sR s s.pols [] [] true (by simp)] at e4
 have q1 : (if 64 < s.prefixes.length then 4 else ey ruE PList.name PList.rules s.prefixes [] true) = jz s.prefixes := rfl
 have q2 : (if 64 < s.paths.length then 4 else ey paE PathL.name PathL.rules s.paths [] true) = jy s.paths := rfl
 have q3 : (if 64 < s.comms.length then 4 else ey cW ComL.name ComL.rules s.comms [] true) = jx s.comms := rfl
 rw [q1] at e1; rw [q2] at e2; rw [q3] at e3
 unfold qV
 generalize jz s.prefixes = E1 at *
 generalize jy s.paths = E2 at *
 generalize jx s.comms = E3 at *
 generalize (if 64 < s.pols.length then 4 else lf s s.pols [] true) = E4 at *
 refine aa (F := f451) rfl rfl ?_
 refine Ic (a := .region GV false) (b := .seq (.region wC false) (KB f451.body)) ?_
 refine wd1 ?_
 repeat' (first | refine ae ?_ | (refine ab ?_ ?_ <;> intro h))
 refine Ic (a := .region wC false) (b := KB f451.body) ?_
 refine wd1 ?_
 repeat' (first | refine ae ?_ | (refine ab ?_ ?_ <;> intro h))
 have hpz : (Blk.cells s.enc).pure = true := by simp [Blk.pure]
 refine nw [(70, _, _), (65606, _, _), (131142, _, _), (196678, _, _)] [1, 3] [67] [65] ⟨rfl, frP, rfl, frP, rfl, frP, rfl, frP, trivial⟩ ?_; repeat ((conv => whnf); first | refine frA ?_ | intro T H)
 refine wk3 ?_
 by_cases c1 : E1 = 0
 ·subst c1
  rw [if_pos rfl]
  by_cases c2 : E2 = 0
  ·subst c2
   rw [if_pos rfl]
   by_cases c3 : E3 = 0
   ·subst c3
    rw [if_pos rfl]
    repeat' (first | refine ae ?_ | refine kX [(65, _, _)] [] ⟨rfl, trivial⟩ trivial (e1) ?_ | refine kX [(65, _, _)] [] ⟨rfl, trivial⟩ trivial (e2) ?_ | refine kX [(65, _, _)] [] ⟨rfl, trivial⟩ trivial (e3) ?_ | refine kX [(67, _, _), (65, _, _)] [] ⟨rfl, rfl, trivial⟩ trivial (e4) ?_ | (refine ab ?_ ?_ <;> intro h))
    refine ah ?_; rfl
   ·rw [if_neg c3]
    repeat' (first | refine ae ?_ | refine kX [(65, _, _)] [] ⟨rfl, trivial⟩ trivial (e1) ?_ | refine kX [(65, _, _)] [] ⟨rfl, trivial⟩ trivial (e2) ?_ | refine kX [(65, _, _)] [] ⟨rfl, trivial⟩ trivial (e3) ?_ | (refine ab ?_ ?_ <;> intro h))
    refine ah ?_; rfl
  ·rw [if_neg c2]
   repeat' (first | refine ae ?_ | refine kX [(65, _, _)] [] ⟨rfl, trivial⟩ trivial (e1) ?_ | refine kX [(65, _, _)] [] ⟨rfl, trivial⟩ trivial (e2) ?_ | (refine ab ?_ ?_ <;> intro h))
   refine ah ?_; rfl
 ·rw [if_neg c1]
  repeat' (first | refine ae ?_ | refine kX [(65, _, _)] [] ⟨rfl, trivial⟩ trivial (e1) ?_ | (refine ab ?_ ?_ <;> intro h))
  refine ah ?_; rfl
end Go.AM.IR
namespace Go.AM.IR
theorem rK (s : PSet) (hs : fC s < 2 ^ 40) : am G 668 [.agg s.enc] [] ⟨.bool (decide (400 < fC s)), []⟩ := by
 have h := tQ s hs
 generalize fC s = n at *
 refine aa (F := f668) rfl rfl (ag 300 _ _ _ _ ?_)
 repeat' (first | refine ae ?_ | (refine ab ?_ ?_ <;> intro h))
 refine ah ?_
 simp
 omega
theorem vY (s : PSet) (h : bkL s.enc ≤ 1048576) (ok : s.ok) : am G 662 [.agg s.enc] [] ⟨.bool true, []⟩ := by
 have hz := Wc s
 have gd := FW s h ok
 have hl : s.prefixes.length + s.paths.length + s.comms.length + s.pols.length ≤ fC s := by unfold fC; omega
 have l1 := rK s (by omega)
 have h1 := xt s gd (by omega) (by omega) (by omega) (by omega)
 have h2 := xu s gd
 generalize decide (400 < fC s) = a at *
 generalize qV s = E at *
 cases a
 ·refine aa (F := f662) rfl rfl (ag 300 _ _ _ _ ?_)
  repeat' ((conv => whnf); first | refine va ?_ | refine a7 ?_ | refine kV (kM) ?_ | (refine ab ?_ ?_ <;> intro h))
  all_goals try (exfalso; first | omega | (simp_all; done))
  all_goals (refine ah ?_; rfl)
 ·refine aa (F := f662) rfl rfl (ag 300 _ _ _ _ ?_)
  repeat' (first | refine ae ?_ | refine kV (kM) ?_ | (refine ab ?_ ?_ <;> intro h))
  refine ah ?_; rfl
theorem law662_all (ass : List (List AV)) (h : lR [pq] ass) (hb : dC ass ≤ 1048576) : am G 662 (iV [pq] ass) [] ⟨.bool true, []⟩ := by
 obtain ⟨x0, s0, rfl, h0, h⟩ := EZ h
 obtain rfl := II h
 obtain ⟨s, rfl, hs⟩ := ano h0
 simp only [dC] at hb
 exact vY s (by omega) hs
end Go.AM.IR
