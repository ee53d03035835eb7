/- What the functions of this program give, on the abstract machine. -/
import Derived.Test.YtomphmeopjpejaaGreatDoorDataM
import Derived.Test.YtomphmeopjpejaaGreatDoorDataI
set_option linter.unusedVariables false
set_option linter.unusedSimpArgs false
set_option maxHeartbeats 4000000
set_option maxRecDepth 20000
namespace Go.AM.IR
theorem yZ (a : Actn) : am G 596 [.agg a.enc] [] ⟨.int .i64 (iJ a), []⟩ := by
 have w (n lo hi : Int) := e7 n lo hi
 obtain ⟨kind, n, asn, com, addr⟩ := a
 rw [iJ]
 dsimp only
 by_cases k1 : kind = 1
 ·subst k1
  rw [if_pos rfl, dc]
  dsimp only
  have h0 := w n 0 4294967295
  generalize q0 : (decide (0 ≤ n) && decide (n ≤ 4294967295)) = B0 at *
  cases B0
  ·simp only [Bool.and_eq_false_iff, decide_eq_false_iff_not] at q0
   refine aa (F := f596) rfl rfl (ag 300 _ _ _ _ ?_)
   repeat' (first | refine ae ?_ | (refine ab ?_ ?_ <;> intro h))
   all_goals try (exfalso; first | omega | (simp_all; done))
   all_goals
    refine ah ?_
    (repeat' split) <;> first | rfl | (exfalso; (try simp only [ne_eq, Decidable.not_not] at *); omega)
  ·simp only [Bool.and_eq_true, decide_eq_true_eq] at q0
   refine aa (F := f596) rfl rfl (ag 300 _ _ _ _ ?_)
   repeat' (first | refine ae ?_ | (refine ab ?_ ?_ <;> intro h))
   all_goals try (exfalso; first | omega | (simp_all; done))
   all_goals
    refine ah ?_
    (repeat' split) <;> first | rfl | (exfalso; (try simp only [ne_eq, Decidable.not_not] at *); omega)
 rw [if_neg k1]
 by_cases k2 : kind = 2
 ·subst k2
  rw [if_pos rfl, dc]
  dsimp only
  have h0 := w n 0 4294967295
  generalize q0 : (decide (0 ≤ n) && decide (n ≤ 4294967295)) = B0 at *
  cases B0
  ·simp only [Bool.and_eq_false_iff, decide_eq_false_iff_not] at q0
   refine aa (F := f596) rfl rfl (ag 300 _ _ _ _ ?_)
   repeat' (first | refine ae ?_ | (refine ab ?_ ?_ <;> intro h))
   all_goals try (exfalso; first | omega | (simp_all; done))
   all_goals
    refine ah ?_
    (repeat' split) <;> first | rfl | (exfalso; (try simp only [ne_eq, Decidable.not_not] at *); omega)
  ·simp only [Bool.and_eq_true, decide_eq_true_eq] at q0
   refine aa (F := f596) rfl rfl (ag 300 _ _ _ _ ?_)
   repeat' (first | refine ae ?_ | (refine ab ?_ ?_ <;> intro h))
   all_goals try (exfalso; first | omega | (simp_all; done))
   all_goals
    refine ah ?_
    (repeat' split) <;> first | rfl | (exfalso; (try simp only [ne_eq, Decidable.not_not] at *); omega)
 rw [if_neg k2]
 by_cases k4 : kind = 4
 ·subst k4
  rw [if_pos rfl, dc]
  dsimp only
  have h0 := w n 0 4294967295
  generalize q0 : (decide (0 ≤ n) && decide (n ≤ 4294967295)) = B0 at *
  cases B0
  ·simp only [Bool.and_eq_false_iff, decide_eq_false_iff_not] at q0
   refine aa (F := f596) rfl rfl (ag 300 _ _ _ _ ?_)
   repeat' (first | refine ae ?_ | (refine ab ?_ ?_ <;> intro h))
   all_goals try (exfalso; first | omega | (simp_all; done))
   all_goals
    refine ah ?_
    (repeat' split) <;> first | rfl | (exfalso; (try simp only [ne_eq, Decidable.not_not] at *); omega)
  ·simp only [Bool.and_eq_true, decide_eq_true_eq] at q0
   refine aa (F := f596) rfl rfl (ag 300 _ _ _ _ ?_)
   repeat' (first | refine ae ?_ | (refine ab ?_ ?_ <;> intro h))
   all_goals try (exfalso; first | omega | (simp_all; done))
   all_goals
    refine ah ?_
    (repeat' split) <;> first | rfl | (exfalso; (try simp only [ne_eq, Decidable.not_not] at *); omega)
 rw [if_neg k4]
 by_cases k3 : kind = 3
 ·subst k3
  rw [if_pos rfl, lM]
  dsimp only
  have h0 := w n 0 16777216
  generalize q0 : (decide (0 ≤ n) && decide (n ≤ 16777216)) = B0 at *
  cases B0
  ·simp only [Bool.and_eq_false_iff, decide_eq_false_iff_not] at q0
   refine aa (F := f596) rfl rfl (ag 300 _ _ _ _ ?_)
   repeat' (first | refine ae ?_ | (refine ab ?_ ?_ <;> intro h))
   all_goals try (exfalso; first | omega | (simp_all; done))
   all_goals
    refine ah ?_
    (repeat' split) <;> first | rfl | (exfalso; (try simp only [ne_eq, Decidable.not_not] at *); omega)
  ·simp only [Bool.and_eq_true, decide_eq_true_eq] at q0
   refine aa (F := f596) rfl rfl (ag 300 _ _ _ _ ?_)
   repeat' (first | refine ae ?_ | (refine ab ?_ ?_ <;> intro h))
   all_goals try (exfalso; first | omega | (simp_all; done))
   all_goals
    refine ah ?_
    (repeat' split) <;> first | rfl | (exfalso; (try simp only [ne_eq, Decidable.not_not] at *); omega)
 rw [if_neg k3]
 by_cases k5 : kind = 5
 ·subst k5
  rw [if_pos rfl, mU]
  dsimp only
  refine aa (F := f596) rfl rfl (ag 300 _ _ _ _ ?_)
  repeat' (first | refine ae ?_ | (refine ab ?_ ?_ <;> intro h))
  all_goals try (exfalso; first | omega | (simp_all; done))
  all_goals
   refine ah ?_
   (repeat' split) <;> first | rfl | (exfalso; (try simp only [ne_eq, Decidable.not_not] at *); omega)
 rw [if_neg k5]
 by_cases k6 : kind = 6
 ·subst k6
  rw [if_pos rfl, gA]
  dsimp only
  refine aa (F := f596) rfl rfl (ag 300 _ _ _ _ ?_)
  repeat' (first | refine ae ?_ | (refine ab ?_ ?_ <;> intro h))
  all_goals try (exfalso; first | omega | (simp_all; done))
  all_goals
   refine ah ?_
   (repeat' split) <;> first | rfl | (exfalso; (try simp only [ne_eq, Decidable.not_not] at *); omega)
 rw [if_neg k6]
 by_cases k7 : kind = 7
 ·subst k7
  rw [if_pos rfl, gA]
  dsimp only
  refine aa (F := f596) rfl rfl (ag 300 _ _ _ _ ?_)
  repeat' (first | refine ae ?_ | (refine ab ?_ ?_ <;> intro h))
  all_goals try (exfalso; first | omega | (simp_all; done))
  all_goals
   refine ah ?_
   (repeat' split) <;> first | rfl | (exfalso; (try simp only [ne_eq, Decidable.not_not] at *); omega)
 rw [if_neg k7]
 by_cases k8 : kind = 8
 ·subst k8
  rw [if_pos rfl, jO]
  dsimp only
  have h0 := w asn 1 4294967295
  generalize q0 : (decide (1 ≤ asn) && decide (asn ≤ 4294967295)) = B0 at *
  have h1 := w n 1 16
  generalize q1 : (decide (1 ≤ n) && decide (n ≤ 16)) = B1 at *
  cases B0
  ·simp only [Bool.and_eq_false_iff, decide_eq_false_iff_not] at q0
   cases B1
   ·simp only [Bool.and_eq_false_iff, decide_eq_false_iff_not] at q1
    refine aa (F := f596) rfl rfl (ag 300 _ _ _ _ ?_)
    repeat' (first | refine ae ?_ | (refine ab ?_ ?_ <;> intro h))
    all_goals try (exfalso; first | omega | (simp_all; done))
    all_goals
     refine ah ?_
     (repeat' split) <;> first | rfl | (exfalso; (try simp only [ne_eq, Decidable.not_not] at *); omega)
   ·simp only [Bool.and_eq_true, decide_eq_true_eq] at q1
    refine aa (F := f596) rfl rfl (ag 300 _ _ _ _ ?_)
    repeat' (first | refine ae ?_ | (refine ab ?_ ?_ <;> intro h))
    all_goals try (exfalso; first | omega | (simp_all; done))
    all_goals
     refine ah ?_
     (repeat' split) <;> first | rfl | (exfalso; (try simp only [ne_eq, Decidable.not_not] at *); omega)
  ·simp only [Bool.and_eq_true, decide_eq_true_eq] at q0
   cases B1
   ·simp only [Bool.and_eq_false_iff, decide_eq_false_iff_not] at q1
    refine aa (F := f596) rfl rfl (ag 300 _ _ _ _ ?_)
    repeat' (first | refine ae ?_ | (refine ab ?_ ?_ <;> intro h))
    all_goals try (exfalso; first | omega | (simp_all; done))
    all_goals
     refine ah ?_
     (repeat' split) <;> first | rfl | (exfalso; (try simp only [ne_eq, Decidable.not_not] at *); omega)
   ·simp only [Bool.and_eq_true, decide_eq_true_eq] at q1
    refine aa (F := f596) rfl rfl (ag 300 _ _ _ _ ?_)
    repeat' (first | refine ae ?_ | (refine ab ?_ ?_ <;> intro h))
    all_goals try (exfalso; first | omega | (simp_all; done))
    all_goals
     refine ah ?_
     (repeat' split) <;> first | rfl | (exfalso; (try simp only [ne_eq, Decidable.not_not] at *); omega)
 rw [if_neg k8]
 refine aa (F := f596) rfl rfl (ag 300 _ _ _ _ ?_)
 repeat' (first | refine ae ?_ | (refine ab ?_ ?_ <;> intro h))
 all_goals (refine ah ?_; rfl)
end Go.AM.IR
namespace Go.AM.IR
def vdE (v : Int) : Int := if v ≠ 1 ∧ v ≠ 2 ∧ v ≠ 3 then 15 else 0
def tE3 (t : Trm) : Int := if 64 < t.acts.length then 4 else if aU iJ t.acts = 0 then vdE t.verdict else aU iJ t.acts
def tE2 (s : PSet) (t : Trm) : Int := if 64 < t.mats.length then 4 else if aU (lm s) t.mats = 0 then tE3 t else aU (lm s) t.mats
def tE1 (s : PSet) (before : List Trm) (t : Trm) : Int := if nmB t.name = false then 1 else if before.any (fun u => u.name == t.name) then 7 else tE2 s t
theorem zc (l : List Actn) (t : Trm) (g7 : Nat) (hl : l.length < 2 ^ 40) (ln : Int) (hln : ln = l.length) : ∀ (rest done : List Actn)  (T : List (Nat × AV)) (H : ay) (c : Nat) (n : Int) (e : l = done ++ rest) (hn : n = done.length) , Ev G ⟨GJ, ⟨(63, .sl 5 (l.map Actn.enc)) :: (64, .int .i64 ln) :: (65, .int .i64 n) :: (7, .ref 71 g7 0) :: T, (71, some (g7, .cells t.enc)) :: H, c⟩, [.t 6], 0⟩ (⟨.int .i64 (if aU iJ rest = 0 then vdE t.verdict else aU iJ rest), []⟩)
 | [], done,  T, H, c, n, e, hn => by
  have hd : l.length = done.length := by simp [e]
  have hll : (l.map Actn.enc).length = l.length := by simp
  rw [aU, if_pos rfl, vdE]
  by_cases v1 : t.verdict = 1
  ·rw [if_neg (fun q => q.1 v1)]
   refine evl ?_
   repeat' (first | refine ae ?_ | (refine ab ?_ ?_ <;> intro h))
   refine ah ?_; rfl
  by_cases v2 : t.verdict = 2
  ·rw [if_neg (fun q => q.2.1 v2)]
   refine evl ?_
   repeat' (first | refine ae ?_ | (refine ab ?_ ?_ <;> intro h))
   refine ah ?_; rfl
  by_cases v3 : t.verdict = 3
  ·rw [if_neg (fun q => q.2.2 v3)]
   refine evl ?_
   repeat' (first | refine ae ?_ | (refine ab ?_ ?_ <;> intro h))
   refine ah ?_; rfl
  rw [if_pos ⟨v1, v2, v3⟩]
  refine evl ?_
  repeat' (first | refine ae ?_ | (refine ab ?_ ?_ <;> intro h))
  refine ah ?_; rfl
 | x :: r, done,  T, H, c, n, e, hn => by
  have hd : l.length = done.length + (r.length + 1) := by simp [e]
  have hll : (l.map Actn.enc).length = l.length := by simp
  have hx : (l.map Actn.enc)[n.toNat]? = some (Actn.enc x) := by simp [e, hn]
  have h1 := xT x
  rw [aU]
  generalize iJ x = E at *
  by_cases h0 : E = 0
  ·subst h0
   rw [if_pos rfl]
   refine evl ?_
   repeat' (first | refine ae ?_ | (refine ab ?_ ?_ <;> intro h))
   refine aA [63, 64, 65, 7] [71] ?_; exact zc l t g7 hl ln hln r (done ++ [x])  _ _ _ (n + 1) (by simp [e]) (by simp [hn] <;> omega)
  ·rw [if_neg h0, if_neg h0]
   refine evl ?_
   repeat' (first | refine ae ?_ | (refine ab ?_ ?_ <;> intro h))
   refine ah ?_; rfl
theorem y9 (l : List Mat) (s : PSet) (hs : s.prefixes.length < 2 ^ 40 ∧ s.paths.length < 2 ^ 40 ∧ s.comms.length < 2 ^ 40) (t : Trm) (g7 : Nat) (hk : ∀ m ∈ l, m.pfx.ok) (ha : t.acts.length < 2 ^ 40) (hl : l.length < 2 ^ 40) (ln : Int) (hln : ln = l.length) : ∀ (rest done : List Mat)  (T : List (Nat × AV)) (H : ay) (c : Nat) (n : Int) (e : l = done ++ rest) (hn : n = done.length) , Ev G ⟨GM, ⟨(45, .sl 6 (l.map Mat.enc)) :: (46, .int .i64 ln) :: (47, .int .i64 n) :: (3, .ref 67 1 0) :: (7, .ref 71 g7 0) :: T, (67, some (1, .cells s.enc)) :: (71, some (g7, .cells t.enc)) :: H, c⟩, [.t 6], 0⟩ (⟨.int .i64 (if aU (lm s) rest = 0 then tE3 t else aU (lm s) rest), []⟩)
 | [], done,  T, H, c, n, e, hn => by
  have hd : l.length = done.length := by simp [e]
  have hll : (l.map Mat.enc).length = l.length := by simp
  have m1 : (t.acts.map Actn.enc).length = t.acts.length := by simp
  rw [aU, if_pos rfl, tE3]
  by_cases c : 64 < t.acts.length
  ·rw [if_pos c]
   have c' : (t.acts.length : Int) > 64 := by omega
   refine evl ?_
   repeat' (first | refine ae ?_ | (refine ab ?_ ?_ <;> intro h))
   refine ah ?_; rfl
  ·rw [if_neg c]
   refine evl ?_
   repeat' (first | refine ae ?_ | (refine ab ?_ ?_ <;> intro h))
   refine aA [63, 64, 65, 7] [71] ?_
   rw [m1]
   exact zc t.acts t g7 ha _ rfl t.acts [] _ _ _ 0 rfl rfl
 | x :: r, done,  T, H, c, n, e, hn => by
  have hd : l.length = done.length + (r.length + 1) := by simp [e]
  have hll : (l.map Mat.enc).length = l.length := by simp
  have hx : (l.map Mat.enc)[n.toNat]? = some (Mat.enc x) := by simp [e, hn]
  have h1 := vP s hs x (hk x (by simp [e]))
  rw [aU]
  generalize lm s x = E at *
  by_cases h0 : E = 0
  ·subst h0
   rw [if_pos rfl]
   refine evl ?_
   repeat' (first | refine ae ?_ | (refine ab ?_ ?_ <;> intro h))
   refine aA [45, 46, 47, 3, 7] [67, 71] ?_; exact y9 l s hs t g7 hk ha hl ln hln r (done ++ [x])  _ _ _ (n + 1) (by simp [e]) (by simp [hn] <;> omega)
  ·rw [if_neg h0, if_neg h0]
   refine evl ?_
   repeat' (first | refine ae ?_ | (refine ab ?_ ?_ <;> intro h))
   refine ah ?_; rfl
theorem Fx (l : List Trm) (s : PSet) (hs : s.prefixes.length < 2 ^ 40 ∧ s.paths.length < 2 ^ 40 ∧ s.comms.length < 2 ^ 40) (t : Trm) (g7 : Nat) (hk : ∀ m ∈ t.mats, m.pfx.ok) (ha : t.acts.length < 2 ^ 40) (hm : t.mats.length < 2 ^ 40) (hl : l.length < 2 ^ 40) (ln : Int) (hln : ln = l.length) : ∀ (rest done : List Trm)  (T : List (Nat × AV)) (H : ay) (c : Nat) (n : Int) (e : l = done ++ rest) (hn : n = done.length) , Ev G ⟨GN, ⟨(28, .sl 4 (l.map Trm.enc)) :: (29, .int .i64 ln) :: (30, .int .i64 n) :: (7, .ref 71 g7 0) :: (3, .ref 67 1 0) :: T, (67, some (1, .cells s.enc)) :: (71, some (g7, .cells t.enc)) :: H, c⟩, [.t 6], 0⟩ (⟨.int .i64 (if rest.any (fun u => u.name == t.name) then 7 else tE2 s t), []⟩)
 | [], done,  T, H, c, n, e, hn => by
  have hd : l.length = done.length := by simp [e]
  have hll : (l.map Trm.enc).length = l.length := by simp
  have m1 : (t.mats.map Mat.enc).length = t.mats.length := by simp
  rw [List.any_nil, if_neg (by simp), tE2]
  by_cases c : 64 < t.mats.length
  ·rw [if_pos c]
   have c' : (t.mats.length : Int) > 64 := by omega
   refine evl ?_
   repeat' (first | refine ae ?_ | (refine ab ?_ ?_ <;> intro h))
   refine ah ?_; rfl
  ·rw [if_neg c]
   refine evl ?_
   repeat' (first | refine ae ?_ | (refine ab ?_ ?_ <;> intro h))
   refine aA [45, 46, 47, 3, 7] [67, 71] ?_
   rw [m1]
   exact y9 t.mats s hs t g7 hk ha hm _ rfl t.mats [] _ _ _ 0 rfl rfl
 | x :: r, done,  T, H, c, n, e, hn => by
  have hd : l.length = done.length + (r.length + 1) := by simp [e]
  have hll : (l.map Trm.enc).length = l.length := by simp
  have hx : (l.map Trm.enc)[n.toNat]? = some (Trm.enc x) := by simp [e, hn]
  rw [List.any_cons]
  by_cases hn : x.name = t.name
  ·rw [show (x.name == t.name) = true from by simp [hn], Bool.true_or, if_pos rfl]
   refine evl ?_
   repeat' (first | refine du ?_ | (refine ab ?_ ?_ <;> intro h))
   refine ah ?_; rfl
  ·rw [show (x.name == t.name) = false from by simp [hn], Bool.false_or]
   refine evl ?_
   repeat' (first | refine du ?_ | (refine ab ?_ ?_ <;> intro h))
   refine aA [28, 29, 30, 7, 3] [67, 71] ?_; exact Fx l s hs t g7 hk ha hm hl ln hln r (done ++ [x])  _ _ _ (n + 1) (by simp [e]) (by simp [hn] <;> omega)
theorem x9 (s : PSet) (hs : s.prefixes.length < 2 ^ 40 ∧ s.paths.length < 2 ^ 40 ∧ s.comms.length < 2 ^ 40) (p : Pol) (i : Nat) (t : Trm) (ht : p.terms[i]? = some t) (hp : p.terms.length < 2 ^ 40) (hk : ∀ m ∈ t.mats, m.pfx.ok) (ha : t.acts.length < 2 ^ 40) (hm : t.mats.length < 2 ^ 40) (hn : t.name.length < 2 ^ 40) : am G 501 [.agg s.enc, .agg p.enc, .int .i64 (i : Int)] [] ⟨.int .i64 (tE1 s (p.terms.take i) t), []⟩ := by
 have hi : i < p.terms.length := (List.getElem?_eq_some_iff.1 ht).1
 have hx : (p.terms.map Trm.enc)[((i : Nat) : Int).toNat]? = some t.enc := by simp [ht]
 have hll : (p.terms.map Trm.enc).length = p.terms.length := by simp
 have h1 := n3 t.name hn
 rw [tE1]
 cases hb : nmB t.name with
 | false =>
  rw [hb] at h1
  rw [if_pos rfl]
  refine aa (F := f501) rfl rfl (ag 300 _ _ _ _ ?_)
  repeat' (first | refine ae ?_ | (refine ab ?_ ?_ <;> intro h))
  refine ah ?_; rfl
 | true =>
  rw [hb] at h1
  rw [if_neg (by simp)]
  refine aa (F := f501) rfl rfl (ag 300 _ _ _ _ ?_)
  repeat' (first | refine ae ?_ | (refine ab ?_ ?_ <;> intro h))
  refine aA [28, 29, 30, 7, 3] [67, 71] ?_
  have ht2 : ((p.terms.take i).map Trm.enc).length = (p.terms.take i).length := by simp
  have hE : List.take (((i : Nat) : Int).toNat - 0) (List.drop 0 (p.terms.map Trm.enc)) = (p.terms.take i).map Trm.enc := by simp [List.map_take]
  rw [hE, ht2]
  exact Fx (p.terms.take i) s hs t _ hk ha hm (by simp; omega) _ rfl (p.terms.take i) [] _ _ _ 0 rfl rfl
end Go.AM.IR
namespace Go.AM.IR
def eU (s : PSet) : List Trm → List Trm → Int
 | _, [] => 0
 | d, t :: r => if tE1 s d t = 0 then eU s (d ++ [t]) r else tE1 s d t
def dfE (d : Int) : Int := if d ≠ 1 ∧ d ≠ 2 then 15 else 0
def lf (s : PSet) : List Pol → List UInt8 → Bool → Int
 | [], _, _ => 0
 | p :: r, b, f => if dq p.name b f p.terms.length = 0 then (if eU s [] p.terms = 0 then (if dfE p.dflt = 0 then lf s r p.name false else dfE p.dflt) else eU s [] p.terms) else dq p.name b f p.terms.length
def qV (s : PSet) : Int := if jz s.prefixes = 0 then (if jy s.paths = 0 then (if jx s.comms = 0 then (if 64 < s.pols.length then 4 else lf s s.pols [] true) else jx s.comms) else jy s.paths) else jz s.prefixes
structure Trm.goodT (t : Trm) : Prop where
 nm : t.name.length < 2 ^ 40
 ms : t.mats.length < 2 ^ 40
 as : t.acts.length < 2 ^ 40
 ok : ∀ m ∈ t.mats, m.pfx.ok
structure PSet.good (s : PSet) : Prop where
 a : s.prefixes.length < 2 ^ 40
 b : s.paths.length < 2 ^ 40
 c : s.comms.length < 2 ^ 40
 d : s.pols.length < 2 ^ 40
 pre : ∀ x ∈ s.prefixes, x.name.length < 2 ^ 40 ∧ x.rules.length < 2 ^ 40 ∧ ∀ r ∈ x.rules, r.ok
 pat : ∀ x ∈ s.paths, x.name.length < 2 ^ 40 ∧ x.rules.length < 2 ^ 40 ∧ ∀ r ∈ x.rules, r.pattern.length < 2 ^ 32
 com : ∀ x ∈ s.comms, x.name.length < 2 ^ 40 ∧ x.rules.length < 2 ^ 40 ∧ True
 pol : ∀ x ∈ s.pols, x.name.length < 2 ^ 40 ∧ x.terms.length < 2 ^ 40 ∧ ∀ t ∈ x.terms, t.goodT
theorem tG (s : PSet) (hs : s.good) (p : Pol) (hp : p.name.length < 2 ^ 40 ∧ p.terms.length < 2 ^ 40 ∧ ∀ t ∈ p.terms, t.goodT) (ls : List (List AV)) (len i : Int) (hi : 0 ≤ i ∧ i < 2 ^ 40) (g8 : Nat) (R : Ret)
  (go : eU s [] p.terms = 0 → dfE p.dflt = 0 → ∀ (T : List (Nat × AV)) (H : ay) (c : Nat), Ev G ⟨tr, ⟨(35, .sl 3 ls) :: (36, .int .i64 len) :: (37, .int .i64 (i + 1)) :: (1, .ref 65 1 0) :: (6, .str p.name) :: T, (65, some (1, .cells s.enc)) :: H, c⟩, [.t 2], 0⟩ R)
  (hR : eU s [] p.terms ≠ 0 → R = ⟨.int .i64 (eU s [] p.terms), []⟩) (hD : eU s [] p.terms = 0 → dfE p.dflt ≠ 0 → R = ⟨.int .i64 (dfE p.dflt), []⟩) :
  ∀ (rest done : List Trm) (T : List (Nat × AV)) (H : ay) (c : Nat) (n : Int) (e : p.terms = done ++ rest) (hn : n = done.length) (hz : eU s done rest = eU s [] p.terms),
  Ev G ⟨GW, ⟨(59, .int .i64 n) :: (8, .ref 72 g8 0) :: (1, .ref 65 1 0) :: (6, .str p.name) :: (35, .sl 3 ls) :: (36, .int .i64 len) :: (37, .int .i64 i) :: (58, .int .i64 p.terms.length) :: T, (65, some (1, .cells s.enc)) :: (72, some (g8, .cells p.enc)) :: H, c⟩, [.t 2], 0⟩ R
 | [], done, T, H, c, n, e, hn, hz => by
  have hd : p.terms.length = done.length := by simp [e]
  have hz0 : eU s [] p.terms = 0 := by rw [← hz]; rfl
  have go := go hz0
  have hD := hD hz0
  rw [dfE] at go hD
  by_cases v1 : p.dflt = 1
  ·have go := go (if_neg (fun q => q.1 v1))
   refine evl ?_
   repeat' (first | refine ae ?_ | (refine ab ?_ ?_ <;> intro h))
   refine aA [35, 36, 37, 1, 6] [65] ?_
   exact go _ _ _
  by_cases v2 : p.dflt = 2
  ·have go := go (if_neg (fun q => q.2 v2))
   refine evl ?_
   repeat' (first | refine ae ?_ | (refine ab ?_ ?_ <;> intro h))
   refine aA [35, 36, 37, 1, 6] [65] ?_
   exact go _ _ _
  rw [if_pos ⟨v1, v2⟩] at hD
  rw [hD (by omega)]
  refine evl ?_
  repeat' (first | refine ae ?_ | (refine ab ?_ ?_ <;> intro h))
  refine ah ?_; rfl
 | t :: r, done, T, H, c, n, e, hn, hz => by
  obtain ⟨hp1, hp2, hp3⟩ := hp
  have hd : p.terms.length = done.length + (r.length + 1) := by simp [e]
  have ht := hp3 t (by simp [e])
  have h1 := x9 s ⟨hs.a, hs.b, hs.c⟩ p done.length t (by simp [e]) hp2 ht.ok ht.as ht.ms ht.nm
  rw [show p.terms.take done.length = done from by simp [e], ← hn] at h1
  rw [eU] at hz
  generalize tE1 s done t = E at *
  by_cases h0 : E = 0
  ·subst h0
   rw [if_pos rfl] at hz
   refine evl ?_
   repeat' (first | refine ae ?_ | (refine ab ?_ ?_ <;> intro h))
   refine aA [59, 8, 1, 6, 35, 36, 37, 58] [65, 72] ?_
   exact tG s hs p ⟨hp1, hp2, hp3⟩ ls len i hi g8 R go hR hD r (done ++ [t]) _ _ _ (n + 1) (by simp [e]) (by simp [hn]) hz
  ·rw [if_neg h0] at hz
   rw [hR (by rw [← hz]; exact h0), ← hz]
   refine evl ?_
   repeat' (first | refine ae ?_ | (refine ab ?_ ?_ <;> intro h))
   refine ah ?_; rfl
theorem tF (l : List Pol) (s : PSet) (hs : s.good) (hl1 : s.pols = l) (hl : l.length < 2 ^ 40) (ln : Int) (hln : ln = l.length) : ∀ (rest done : List Pol) (bf : List UInt8) (fst : Bool) (T : List (Nat × AV)) (H : ay) (c : Nat) (n : Int) (e : l = done ++ rest) (hn : n = done.length) (hf : (n == 0) = fst), Ev G ⟨tr, ⟨(35, .sl 3 (l.map Pol.enc)) :: (36, .int .i64 ln) :: (37, .int .i64 n) :: (1, .ref 65 1 0) :: (6, .str bf) :: T, (65, some (1, .cells s.enc)) :: H, c⟩, [.t 2], 0⟩ (⟨.int .i64 (lf s rest bf fst), []⟩)
 | [], done, bf, fst, T, H, c, n, e, hn, hf => by
  have hd : l.length = done.length := by simp [e]
  have hll : (l.map Pol.enc).length = l.length := by simp
  refine evl ?_
  repeat' (first | refine ae ?_ | (refine ab ?_ ?_ <;> intro h))
  refine ah ?_; rfl
 | x :: r, done, bf, fst, T, H, c, n, e, hn, hf => by
  have hd : l.length = done.length + (r.length + 1) := by simp [e]
  have hll : (l.map Pol.enc).length = l.length := by simp
  have hx : (l.map Pol.enc)[n.toNat]? = some (Pol.enc x) := by simp [e, hn]
  have hp := hs.pol x (by rw [hl1]; simp [e])
  have hp1 := hp.1
  have hp2 := hp.2.1
  have m1 : (x.terms.map Trm.enc).length = x.terms.length := by simp
  have h1 := fF x.name bf hp1 (n == 0) x.terms.length
  have hE : dq x.name bf (n == 0) x.terms.length = dq x.name bf fst x.terms.length := by rw [hf]
  rw [hE] at h1
  rw [← m1] at h1
  rw [lf, ← m1]
  generalize dq x.name bf fst (x.terms.map Trm.enc).length = E at *
  by_cases h0 : E = 0
  ·rw [if_pos h0]
   subst h0
   refine evl ?_
   repeat' (first | refine ae ?_ | (refine ab ?_ ?_ <;> intro h))
   refine aA [59, 8, 1, 6, 35, 36, 37, 58] [65, 72] ?_
   rw [m1]
   have hn1 : (n + 1 == 0) = false := by
    have : ¬ n + 1 = 0 := by omega
    simpa using this
   refine tG s hs x hp _ ln n (by omega) _ _ (fun q1 q2 T H c => ?_) (fun hq => by rw [if_neg hq]) (fun q1 q2 => by rw [if_pos q1, if_neg q2]) x.terms [] _ _ _ 0 rfl rfl rfl
   rw [if_pos q1, if_pos q2]
   exact tF l s hs hl1 hl ln hln r (done ++ [x]) x.name false T H c (n + 1) (by simp [e]) (by simp [hn] <;> omega) hn1
  ·rw [if_neg h0]
   refine evl ?_
   repeat' (first | refine ae ?_ | (refine ab ?_ ?_ <;> intro h))
   refine ah ?_; rfl
theorem xu (s : PSet) (hs : s.good) : am G 444 [.agg s.enc] [] ⟨.int .i64 (qV s), []⟩ := by
 have h1 := vT s.prefixes hs.a hs.pre
 have h2 := vR s.paths hs.b hs.pat
 have h3 := vQ s.comms hs.c hs.com
 have m1 : (s.pols.map Pol.enc).length = s.pols.length := by simp
 have hd := hs.d
 rw [qV]
 generalize jz s.prefixes = A at *
 generalize jy s.paths = B at *
 generalize jx s.comms = C at *
 by_cases a : A = 0
 ·subst a
  rw [if_pos rfl]
  by_cases b : B = 0
  ·subst b
   rw [if_pos rfl]
   by_cases c : C = 0
   ·subst c
    rw [if_pos rfl]
    by_cases d : 64 < s.pols.length
    ·rw [if_pos d]
     have d' : (s.pols.length : Int) > 64 := by omega
     refine aa (F := f444) rfl rfl (ag 300 _ _ _ _ ?_)
     repeat' (first | refine ae ?_ | (refine ab ?_ ?_ <;> intro h))
     refine ah ?_; rfl
    ·rw [if_neg d]
     refine aa (F := f444) rfl rfl (ag 300 _ _ _ _ ?_)
     repeat' (first | refine ae ?_ | (refine ab ?_ ?_ <;> intro h))
     refine aA [35, 36, 37, 1, 6] [65] ?_
     rw [m1]
     exact tF s.pols s hs rfl hd _ rfl s.pols [] [] true _ _ _ 0 rfl rfl rfl
   ·rw [if_neg c]
    refine aa (F := f444) rfl rfl (ag 300 _ _ _ _ ?_)
    repeat' (first | refine ae ?_ | (refine ab ?_ ?_ <;> intro h))
    refine ah ?_; rfl
  ·rw [if_neg b]
   refine aa (F := f444) rfl rfl (ag 300 _ _ _ _ ?_)
   repeat' (first | refine ae ?_ | (refine ab ?_ ?_ <;> intro h))
   refine ah ?_; rfl
 ·rw [if_neg a]
  refine aa (F := f444) rfl rfl (ag 300 _ _ _ _ ?_)
  repeat' (first | refine ae ?_ | (refine ab ?_ ?_ <;> intro h))
  refine ah ?_; rfl
end Go.AM.IR
namespace Go.AM.IR
theorem FW (s : PSet) (h : bkL s.enc ≤ 1048576) (ok : s.ok) : s.good := by
 have l1 := dL (enc := PList.enc) (fun x => by have := xF x; omega) s.prefixes
 have l2 := dL (enc := PathL.enc) (fun x => by have := xD x; omega) s.paths
 have l3 := dL (enc := ComL.enc) (fun x => by have := Dl x; omega) s.comms
 have l4 := dL (enc := Pol.enc) (fun x => by have := Iy x; omega) s.pols
 simp only [PSet.enc, bkL, AV.bk] at h
 obtain ⟨o1, o2, o3, o4⟩ := ok
 refine ⟨by omega, by omega, by omega, by omega, fun x hx => ?_, fun x hx => ?_, fun x hx => ?_, fun x hx => ?_⟩
 ·have m := jM (enc := PList.enc) hx
  have n := dL xB x.rules
  simp only [PList.enc, bkL, AV.bk] at m
  exact ⟨by omega, by omega, o1 x hx⟩
 ·have m := jM (enc := PathL.enc) hx
  have n := dL xC x.rules
  simp only [PathL.enc, bkL, AV.bk] at m
  refine ⟨by omega, by omega, fun r hr => ?_⟩
  have k := jM (enc := PathR.enc) hr
  simp only [PathR.enc, bkL, AV.bk] at k
  omega
 ·have m := jM (enc := ComL.enc) hx
  have n := dL Dk x.rules
  simp only [ComL.enc, bkL, AV.bk] at m
  exact ⟨by omega, by omega, trivial⟩
 ·have m := jM (enc := Pol.enc) hx
  have n := dL (enc := Trm.enc) (fun x => by have := Iw x; omega) x.terms
  simp only [Pol.enc, bkL, AV.bk] at m
  refine ⟨by omega, by omega, fun t ht => ?_⟩
  have k := jM (enc := Trm.enc) ht
  have n1 := dL (enc := Mat.enc) (fun x => by have := IA x; omega) t.mats
  have n2 := dL (enc := Actn.enc) (fun x => by have := Dm x; omega) t.acts
  simp only [Trm.enc, bkL, AV.bk] at k
  exact ⟨by omega, by omega, by omega, fun m hm => (((o4 x hx).1 t ht).1 m hm).2.2⟩
end Go.AM.IR
