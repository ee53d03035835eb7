/- What the functions of this program give, on the abstract machine. -/
import Derived.Test.YtcieamgbfameoaaGreatDoorDataB
set_option linter.unusedVariables false
set_option linter.unusedSimpArgs false
set_option maxHeartbeats 4000000
set_option maxRecDepth 20000
namespace Go.AM.IR
def joinR : Option Seg → Seg → Bool
  | some q, s => (!setK s.kind && (q.kind == s.kind)) && decide (q.as.length < 255)
  | none, _ => false
def tailR (dn : List Seg) (s : Seg) : Int := if (confK s.kind && dn.any fun t => !confK t.kind) = true then 1 else if joinR dn.getLast? s = true then 1 else 0
theorem conf_loop108 (dn : List Seg) (l : List Seg) (s : Seg) (rs : List Seg) (g : Nat) (hL : l = dn ++ s :: rs) (hlL : l.length < 2 ^ 40) (hs : ∀ s ∈ l, s.as.length < 2 ^ 40) (hl : dn.length < 2 ^ 40) (ln : Int) (hln : ln = dn.length) : ∀ (rest done : List Seg)  (T : List (Nat × AV)) (H : Heap) (c : Nat) (n : Int) (e : dn = done ++ rest) (hn : n = done.length) , Ev G ⟨f108x28LH, ⟨(74, .sl 2 (dn.map Seg.enc)) :: (75, .int .i64 ln) :: (76, .int .i64 n) :: (1, .int .i64 dn.length) :: (0, .sl 2 (l.map Seg.enc)) :: (5, .ref 69 g 0) :: T, (69, some (g, .cells s.enc)) :: H, c⟩, [.t 4], 0⟩ ⟨.int .i64 (if rest.any (fun t => !confK t.kind) = true then 1 else if joinR dn.getLast? s = true then 1 else 0), []⟩
  | [], done,  T, H, c, n, e, hn => by
    have hd : dn.length = done.length := by simp [e]
    have hll : (dn.map Seg.enc).length = dn.length := by simp
    rw [show (if ([] : List Seg).any (fun t => !confK t.kind) = true then (1 : Int) else if joinR dn.getLast? s = true then 1 else 0) = if joinR dn.getLast? s = true then 1 else 0 from by simp]
    clear e
    have hll2 : (l.map Seg.enc).length = l.length := by simp
    rcases List.eq_nil_or_concat dn with rfl | ⟨d, q, rfl⟩
    · refine ev_loop' (W_ok 300 _ _ _ _ ?_)
      repeat' (first | refine stpA ?_ | (refine condS ?_ ?_ <;> intro h))
      all_goals try ((first | refine fin1 ?_ | refine fin0 ?_); first | rfl | (simp [joinR, Bool.cond_eq_ite, *]; done) | (simp [joinR, Bool.cond_eq_ite, *]; omega) | (unfold joinR; repeat' split; all_goals first | rfl | (exfalso; omega) | (simp_all; done) | (simp_all; omega)))
    · have hql : (q.as.map encI).length = q.as.length := by simp
      simp only [List.concat_eq_append, List.length_append, List.length_singleton] at *
      have hy : (l.map Seg.enc)[((d.length + 1 : Nat) - 1 : Int).toNat]? = some (Seg.enc q) := by rw [show ((d.length + 1 : Nat) - 1 : Int).toNat = d.length from by omega, hL]; simp
      rw [List.getLast?_concat]
      have hdl : l.length = d.length + 1 + (rs.length + 1) := by rw [hL]; simp; omega
      have hqs := hs q (by rw [hL]; simp)
      refine ev_loop' (W_ok 300 _ _ _ _ ?_)
      repeat' (first | refine stpA ?_ | refine kV (isSet_gives117 s.kind) ?_ | (refine condS ?_ ?_ <;> intro h))
      all_goals try ((first | refine fin1 ?_ | refine fin0 ?_); first | rfl | (simp [joinR, Bool.cond_eq_ite, *]; done) | (simp [joinR, Bool.cond_eq_ite, *]; omega) | (unfold joinR; repeat' split; all_goals first | rfl | (exfalso; omega) | (simp_all; done) | (simp_all; omega)))
  | x :: r, done,  T, H, c, n, e, hn => by
    have hd : dn.length = done.length + (r.length + 1) := by simp [e]
    have hll : (dn.map Seg.enc).length = dn.length := by simp
    have hx : (dn.map Seg.enc)[n.toNat]? = some (Seg.enc x) := by simp [e, hn]
    refine ev_loop' (W_ok 300 _ _ _ _ ?_)
    repeat' (first | refine stpA ?_ | refine kV (isConf_gives118 x.kind) ?_ | (refine condS ?_ ?_ <;> intro h))
    all_goals try ((first | refine fin1 ?_ | refine fin0 ?_); first | rfl | (simp [Bool.cond_eq_ite, *]; done) | (simp [Bool.cond_eq_ite, *]; omega))
    rw [show (x :: r).any (fun t => !confK t.kind) = r.any (fun t => !confK t.kind) from by simp [*]]
    refine ev_keep [74, 75, 76, 1, 0, 5] [69] ?_; exact conf_loop108 dn l s rs g hL hlL hs hl ln hln r (done ++ [x])  _ _ _ (n + 1) (by simp [e]) (by simp [hn] <;> omega)
theorem ord_loop108 (l : List Seg) (s : Seg) (dn rs : List Seg) (g : Nat) (hL : l = dn ++ s :: rs) (hlL : l.length < 2 ^ 40) (hs : ∀ s ∈ l, s.as.length < 2 ^ 40) : ∀ (rest done : List Int) (p : Int) (T : List (Nat × AV)) (H : Heap) (c : Nat) (n : Int) (e : s.as = done ++ p :: rest) (hn : n = done.length + 1),
   Ev G ⟨f108x20LH, ⟨(8, .int .i64 n) :: (5, .ref 69 g 0) :: (1, .int .i64 dn.length) :: (0, .sl 2 (l.map Seg.enc)) :: T, (69, some (g, .cells s.enc)) :: H, c⟩, [.t 4], 0⟩ ⟨.int .i64 (if ordC s.kind (some p) rest = false then 16 else tailR dn s), []⟩
  | [], done, p, T, H, c, n, e, hn => by
    have hsl := hs s (by rw [hL]; simp)
    have hd : s.as.length = done.length + 1 := by simp [e]
    have ll : (s.as.map encI).length = s.as.length := by simp
    have hll2 : (l.map Seg.enc).length = l.length := by simp
    have hdl : l.length = dn.length + (rs.length + 1) := by rw [hL]; simp
    have hslice : ((l.map Seg.enc).drop 0).take ((dn.length : Int).toNat - 0) = dn.map Seg.enc := by rw [hL]; simp
    rw [show (if ordC s.kind (some p) [] = false then 16 else tailR dn s) = tailR dn s from by simp [ordC]]
    clear e
    rcases List.eq_nil_or_concat dn with rfl | ⟨d, q, rfl⟩
    · refine ev_loop' (W_ok 300 _ _ _ _ ?_)
      repeat' (first | refine stpA ?_ | refine kV (isConf_gives118 s.kind) ?_ | (refine condS ?_ ?_ <;> intro h))
      all_goals try ((first | refine fin1 ?_ | refine fin0 ?_); first | rfl | (simp [tailR, joinR, Bool.cond_eq_ite, *]; done) | (simp [tailR, joinR, Bool.cond_eq_ite, *]; omega) | (unfold tailR joinR; repeat' split; all_goals first | rfl | (exfalso; omega) | (simp_all; done) | (simp_all; omega)))
      refine ev_keep [74, 75, 76, 1, 0, 5] [69] ?_
      refine (?_ : Ev G _ _)
      rw [hslice, show tailR [] s = 0 from by simp [tailR, joinR]]
      exact conf_loop108 [] l s rs g hL hlL hs (by simp) _ rfl [] [] _ _ _ 0 rfl rfl
    · have hql : (q.as.map encI).length = q.as.length := by simp
      simp only [List.concat_eq_append, List.length_append, List.length_singleton] at *
      have hy : (l.map Seg.enc)[((d.length + 1 : Nat) - 1 : Int).toNat]? = some (Seg.enc q) := by rw [show ((d.length + 1 : Nat) - 1 : Int).toNat = d.length from by omega, hL]; simp
      have hqs := hs q (by rw [hL]; simp)
      refine ev_loop' (W_ok 300 _ _ _ _ ?_)
      repeat' (first | refine stpA ?_ | refine kV (isConf_gives118 s.kind) ?_ | refine kV (isSet_gives117 s.kind) ?_ | (refine condS ?_ ?_ <;> intro h))
      all_goals try ((first | refine fin1 ?_ | refine fin0 ?_); first | rfl | (simp [tailR, joinR, Bool.cond_eq_ite, *]; done) | (simp [tailR, joinR, Bool.cond_eq_ite, *]; omega) | (unfold tailR joinR; repeat' split; all_goals first | rfl | (exfalso; omega) | (simp_all; done) | (simp_all; omega)))
      refine ev_keep [74, 75, 76, 1, 0, 5] [69] ?_
      refine (?_ : Ev G _ _)
      rw [hslice, show tailR (d ++ [q]) s = if (d ++ [q]).any (fun t => !confK t.kind) = true then 1 else if joinR (d ++ [q]).getLast? s = true then 1 else 0 from by unfold tailR; simp only [*, Bool.true_and]]
      rw [show d.length + 1 = (d ++ [q]).length from by simp]
      exact conf_loop108 (d ++ [q]) l s rs g hL hlL hs (by simp; omega) _ (by simp) (d ++ [q]) [] _ _ _ 0 rfl rfl
  | x :: r, done, p, T, H, c, n, e, hn => by
    have hsl := hs s (by rw [hL]; simp)
    have hd : s.as.length = done.length + (r.length + 2) := by simp [e]
    have ll : (s.as.map encI).length = s.as.length := by simp
    have hn1 : (n - 1).toNat = done.length := by omega
    have hn0 : n.toNat = done.length + 1 := by omega
    have hx : (s.as.map encI)[n.toNat]? = some (encI x) := by rw [hn0, e]; simp
    have hy : (s.as.map encI)[(n - 1).toNat]? = some (encI p) := by rw [hn1, e]; simp
    refine ev_loop' (W_ok 300 _ _ _ _ ?_)
    repeat' (first | refine stpA ?_ | refine kV (isSet_gives117 s.kind) ?_ | (refine condS ?_ ?_ <;> intro h))
    all_goals try ((first | refine fin1 ?_ | refine fin0 ?_); first | rfl | (simp [ordC, Bool.cond_eq_ite, *]; done) | (simp [ordC, Bool.cond_eq_ite, *]; omega) | (unfold ordC; repeat' split; all_goals first | rfl | (exfalso; omega) | (simp_all; done) | (simp_all; omega)))
    all_goals (rw [show ordC s.kind (some p) (x :: r) = ordC s.kind (some x) r from by simp [ordC, *]]; refine ev_keep [8, 5, 1, 0] [69] ?_; exact ord_loop108 l s dn rs g hL hlL hs r (done ++ [p]) x _ _ _ (n + 1) (by simp [e]) (by simp [hn]))
theorem rng_loop108 (as : List Int) (l : List Seg) (s : Seg) (dn rs : List Seg) (g : Nat) (hL : l = dn ++ s :: rs) (hlL : l.length < 2 ^ 40) (hs : ∀ s ∈ l, s.as.length < 2 ^ 40) (has : s.as = as) (h0 : as.length ≠ 0) (hl : as.length < 2 ^ 40) (ln : Int) (hln : ln = as.length) : ∀ (rest done : List Int)  (T : List (Nat × AV)) (H : Heap) (c : Nat) (n : Int) (e : as = done ++ rest) (hn : n = done.length) , Ev G ⟨f108x14LH, ⟨(32, .sl 1 (as.map encI)) :: (33, .int .i64 ln) :: (34, .int .i64 n) :: (5, .ref 69 g 0) :: (1, .int .i64 dn.length) :: (0, .sl 2 (l.map Seg.enc)) :: T, (69, some (g, .cells s.enc)) :: H, c⟩, [.t 4], 0⟩ ⟨.int .i64 (if rngS rest = false then 5 else if ordC s.kind none as = false then 16 else tailR dn s), []⟩
  | [], done,  T, H, c, n, e, hn => by
    have hd : as.length = done.length := by simp [e]
    have hll : (as.map encI).length = as.length := by simp
    subst has
    rw [show (if rngS [] = false then (5 : Int) else if ordC s.kind none s.as = false then 16 else tailR dn s) = if ordC s.kind none s.as = false then 16 else tailR dn s from by simp [rngS]]
    refine ev_loop' (W_ok 300 _ _ _ _ ?_)
    repeat' (first | refine stpA ?_ | (refine condS ?_ ?_ <;> intro h))
    refine ev_keep [8, 5, 1, 0] [69] ?_
    have hne : s.as ≠ [] := fun q => h0 (by rw [q]; rfl)
    obtain ⟨p, r, hpr⟩ := List.exists_cons_of_ne_nil hne
    rw [show ordC s.kind none s.as = ordC s.kind (some p) r from by rw [hpr]; rfl]
    exact ord_loop108 l s dn rs g hL hlL hs r [] p _ _ _ 1 hpr rfl
  | x :: r, done,  T, H, c, n, e, hn => by
    have hd : as.length = done.length + (r.length + 1) := by simp [e]
    have hll : (as.map encI).length = as.length := by simp
    have hx : (as.map encI)[n.toNat]? = some (encI x) := by simp [e, hn]
    refine ev_loop' (W_ok 300 _ _ _ _ ?_)
    repeat' (first | refine stpA ?_ | (refine condS ?_ ?_ <;> intro h))
    all_goals try ((first | refine fin1 ?_ | refine fin0 ?_); first | rfl | (simp [rngS, Bool.cond_eq_ite, *]; done) | (simp [rngS, Bool.cond_eq_ite, *]; omega) | (unfold rngS; repeat' split; all_goals first | rfl | (exfalso; omega) | (simp_all; done) | (simp_all; omega)))
    rw [show rngS (x :: r) = rngS r from by simp [rngS]; omega]
    refine ev_keep [32, 33, 34, 5, 1, 0] [69] ?_; exact rng_loop108 as l s dn rs g hL hlL hs has h0 hl ln hln r (done ++ [x])  _ _ _ (n + 1) (by simp [e]) (by simp [hn] <;> omega)
def segR (dn : List Seg) (s : Seg) : Int := if segE s ≠ 0 then segE s else tailR dn s
theorem segment_gives108 (l : List Seg) (s : Seg) (dn rs : List Seg) (hL : l = dn ++ s :: rs) (hlL : l.length < 2 ^ 40) (hs : ∀ s ∈ l, s.as.length < 2 ^ 40) : Gives G 108 [.sl 2 (l.map Seg.enc), .int .i64 dn.length] [] ⟨.int .i64 (segR dn s), []⟩ := by
  have hsl := hs s (by rw [hL]; simp)
  have ll : (s.as.map encI).length = s.as.length := by simp
  have hll2 : (l.map Seg.enc).length = l.length := by simp
  have hdl : l.length = dn.length + (rs.length + 1) := by rw [hL]; simp
  have hx : (l.map Seg.enc)[(dn.length : Int).toNat]? = some (Seg.enc s) := by rw [hL]; simp
  refine gives_code (F := f108) rfl rfl (W_ok 300 _ _ _ _ ?_)
  repeat' (first | refine stpA ?_ | (refine condS ?_ ?_ <;> intro h))
  all_goals try ((first | refine fin1 ?_ | refine fin0 ?_); first | rfl | (simp [segR, segE, Bool.cond_eq_ite, *]; done) | (simp [segR, segE, Bool.cond_eq_ite, *]; omega) | (unfold segR segE; repeat' split; all_goals first | rfl | (exfalso; omega) | (simp_all; done) | (simp_all; omega)))
  refine ev_keep [32, 33, 34, 5, 1, 0] [69] ?_
  rw [show segR dn s = if rngS s.as = false then 5 else if ordC s.kind none s.as = false then 16 else tailR dn s from by
    unfold segR segE; rw [if_neg (by omega : ¬ (s.kind < 1 ∨ s.kind > 4)), if_neg (by omega : ¬ s.as.length = 0), if_neg (by omega : ¬ s.as.length > 255)]
    by_cases h1 : rngS s.as = false
    · simp [h1]
    · by_cases h2 : ordC s.kind none s.as = false
      · simp [h1, h2]
      · simp [h1, h2]]
  exact rng_loop108 s.as l s dn rs _ hL hlL hs rfl (by omega) hsl _ (by simp) s.as [] _ _ _ 0 rfl rfl
def chkR (dn : List Seg) : List Seg → Int
  | [] => 0
  | s :: r => if segR dn s ≠ 0 then segR dn s else chkR (dn ++ [s]) r
theorem check_loop80 (l : List Seg) (hs : ∀ s ∈ l, s.as.length < 2 ^ 40) (hl : l.length < 2 ^ 40) (ln : Int) (hln : ln = l.length) : ∀ (rest done : List Seg)  (T : List (Nat × AV)) (H : Heap) (c : Nat) (n : Int) (e : l = done ++ rest) (hn : n = done.length) , Ev G ⟨f80x10LH, ⟨(0, .sl 2 (l.map Seg.enc)) :: (9, .int .i64 ln) :: (10, .int .i64 n) :: T, H, c⟩, [.t 2], 0⟩ ⟨.int .i64 (chkR done rest), []⟩
  | [], done,  T, H, c, n, e, hn => by
    have hd : l.length = done.length := by simp [e]
    have hll : (l.map Seg.enc).length = l.length := by simp
    refine ev_loop' (W_ok 300 _ _ _ _ ?_)
    repeat' (first | refine stpA ?_ | (refine condS ?_ ?_ <;> intro h))
    all_goals try ((first | refine fin1 ?_ | refine fin0 ?_); first | rfl | (simp [chkR, Bool.cond_eq_ite, *]; done) | (simp [chkR, Bool.cond_eq_ite, *]; omega) | (unfold chkR; repeat' split; all_goals first | rfl | (exfalso; omega) | (simp_all; done) | (simp_all; omega)))
  | x :: r, done,  T, H, c, n, e, hn => by
    have hd : l.length = done.length + (r.length + 1) := by simp [e]
    have hll : (l.map Seg.enc).length = l.length := by simp
    have hx : (l.map Seg.enc)[n.toNat]? = some (Seg.enc x) := by simp [e, hn]
    subst hn
    refine ev_loop' (W_ok 300 _ _ _ _ ?_)
    repeat' (first | refine stpA ?_ | refine kV (segment_gives108 l x done r e hl hs) ?_ | (refine condS ?_ ?_ <;> intro h))
    all_goals try ((first | refine fin1 ?_ | refine fin0 ?_); first | rfl | (simp [chkR, Bool.cond_eq_ite, *]; done) | (simp [chkR, Bool.cond_eq_ite, *]; omega) | (unfold chkR; repeat' split; all_goals first | rfl | (exfalso; omega) | (simp_all; done) | (simp_all; omega)))
    rw [show chkR done (x :: r) = chkR (done ++ [x]) r from by simp [chkR, *]]
    refine ev_keep [0, 9, 10] [] ?_; exact check_loop80 l hs hl ln hln r (done ++ [x]) _ _ _ _ (by simp [e]) (by simp)
theorem chkR_eq : ∀ (l dn : List Seg), chkR dn l = pathC (dn.any fun t => !confK t.kind) dn.getLast? l
  | [], _ => by simp [chkR, pathC]
  | s :: r, dn => by
    have ih := chkR_eq r (dn ++ [s])
    rw [chkR, pathC]
    by_cases h1 : segE s = 0
    · have hk : s.kind = 1 ∨ s.kind = 2 ∨ s.kind = 3 ∨ s.kind = 4 := by
        unfold segE at h1
        split at h1
        · omega
        · omega
      have hj : joinR dn.getLast? s = joinC dn.getLast? s := by
        cases dn.getLast? with
        | none => rfl
        | some q =>
          unfold joinR joinC setK
          rcases hk with h | h | h | h <;> simp [h]
      have e1 : segR dn s = tailR dn s := by unfold segR; rw [if_neg (by simp [h1])]
      rw [e1]
      unfold tailR
      rw [hj, if_neg (by simp [h1] : ¬ segE s ≠ 0)]
      by_cases h2 : (confK s.kind && dn.any fun t => !confK t.kind) = true
      · simp [h2]
      · rw [if_neg h2, if_neg h2]
        by_cases h3 : joinC dn.getLast? s = true
        · simp [h3]
        · rw [if_neg h3, if_neg h3, if_neg (by simp), ih]
          simp [List.any_append]
    · have e1 : segR dn s = segE s := by unfold segR; rw [if_pos h1]
      rw [e1, if_pos h1, if_pos h1]
theorem check_gives80 (l : List Seg) (hl : l.length < 2 ^ 40) (hs : ∀ s ∈ l, s.as.length < 2 ^ 40) : Gives G 80 [.sl 2 (l.map Seg.enc)] [] ⟨.int .i64 (pathE l), []⟩ := by
  have ll : (l.map Seg.enc).length = l.length := by simp
  refine gives_code (F := f80) rfl rfl (W_ok 300 _ _ _ _ ?_)
  repeat' (first | refine stpA ?_ | (refine condS ?_ ?_ <;> intro h))
  all_goals try ((first | refine fin1 ?_ | refine fin0 ?_); first | rfl | (simp [pathE, Bool.cond_eq_ite, *]; done) | (simp [pathE, Bool.cond_eq_ite, *]; omega) | (unfold pathE; repeat' split; all_goals first | rfl | (exfalso; omega) | (simp_all; done) | (simp_all; omega)))
  rw [show pathE l = chkR [] l from by rw [chkR_eq]; simp [pathE]; omega]
  refine ev_keep [0, 9, 10] [] ?_
  exact check_loop80 l hs hl _ (by simp) l [] _ _ _ 0 rfl rfl
end Go.AM.IR
set_option maxHeartbeats 4000000
set_option maxRecDepth 20000
namespace Go.AM.IR
def unkC : Option Int → List TLV → Int
  | _, [] => 0
  | none, t :: r => if t.kind ≤ 10 ∨ t.kind > 255 then 15 else if t.value.length > 255 then 4 else unkC (some t.kind) r
  | some p, t :: r => if t.kind ≤ 10 ∨ t.kind > 255 then 15 else if t.kind ≤ p then 16 else if t.value.length > 255 then 4 else unkC (some t.kind) r
def unknownE (l : List TLV) : Int := if l.length > 64 then 4 else unkC none l
theorem unknown_loop79 (l : List TLV) (hv : ∀ t ∈ l, t.value.length < 2 ^ 40) (hl : l.length < 2 ^ 40) (ln : Int) (hln : ln = l.length) : ∀ (rest done : List TLV) (p : Option Int) (T : List (Nat × AV)) (H : Heap) (c : Nat) (n : Int) (e : l = done ++ rest) (hn : n = done.length) (hp : p = done.getLast?.map (·.kind)), Ev G ⟨f79x13LH, ⟨(8, .sl 2 (l.map TLV.enc)) :: (9, .int .i64 ln) :: (10, .int .i64 n) :: (0, .sl 2 (l.map TLV.enc)) :: T, H, c⟩, [.t 2], 0⟩ ⟨.int .i64 (unkC p rest), []⟩
  | [], done, p, T, H, c, n, e, hn, hp => by
    have hd : l.length = done.length := by simp [e]
    have hll : (l.map TLV.enc).length = l.length := by simp
    refine ev_loop' (W_ok 300 _ _ _ _ ?_)
    repeat' (first | refine stpA ?_ | (refine condS ?_ ?_ <;> intro h))
    all_goals try ((first | refine fin1 ?_ | refine fin0 ?_); first | rfl | (simp [unkC, Bool.cond_eq_ite, *]; done) | (simp [unkC, Bool.cond_eq_ite, *]; omega) | (unfold unkC; repeat' split; all_goals first | rfl | (exfalso; omega) | (simp_all; done) | (simp_all; omega)))
  | x :: r, done, p, T, H, c, n, e, hn, hp => by
    have hd : l.length = done.length + (r.length + 1) := by simp [e]
    have hll : (l.map TLV.enc).length = l.length := by simp
    have hx : (l.map TLV.enc)[n.toNat]? = some (TLV.enc x) := by simp [e, hn]
    have hxv : x.value.length < 2 ^ 40 := hv x (by simp [e])
    have hbl : (byteCells x.value).length = x.value.length := by simp [byteCells]
    rcases List.eq_nil_or_concat done with rfl | ⟨d, q, rfl⟩
    · obtain rfl : p = none := by simp [hp]
      simp only [List.length_nil] at hn hd
      refine ev_loop' (W_ok 300 _ _ _ _ ?_)
      repeat' (first | refine stpA ?_ | (refine condS ?_ ?_ <;> intro h))
      all_goals try ((first | refine fin1 ?_ | refine fin0 ?_); first | rfl | (simp [unkC, Bool.cond_eq_ite, *]; done) | (simp [unkC, Bool.cond_eq_ite, *]; omega) | (unfold unkC; repeat' split; all_goals first | rfl | (exfalso; omega) | (simp_all; done) | (simp_all; omega)))
      rw [show unkC none (x :: r) = unkC (some x.kind) r from by simp [unkC]; omega]
      refine ev_keep [8, 9, 10, 0] [] ?_; exact unknown_loop79 l hv hl ln hln r [x] _ _ _ _ (n + 1) (by simp [e]) (by simp [hn] <;> omega) (by simp)
    · obtain rfl : p = some q.kind := by simp [hp]
      simp only [List.concat_eq_append, List.length_append, List.length_singleton] at hn hd
      have hn1 : (n - 1).toNat = d.length := by omega
      have hy : (l.map TLV.enc)[(n - 1).toNat]? = some (TLV.enc q) := by rw [hn1, e]; simp
      refine ev_loop' (W_ok 300 _ _ _ _ ?_)
      repeat' (first | refine stpA ?_ | (refine condS ?_ ?_ <;> intro h))
      all_goals try ((first | refine fin1 ?_ | refine fin0 ?_); first | rfl | (simp [unkC, Bool.cond_eq_ite, *]; done) | (simp [unkC, Bool.cond_eq_ite, *]; omega) | (unfold unkC; repeat' split; all_goals first | rfl | (exfalso; omega) | (simp_all; done) | (simp_all; omega)))
      rw [show unkC (some q.kind) (x :: r) = unkC (some x.kind) r from by simp [unkC]; omega]
      refine ev_keep [8, 9, 10, 0] [] ?_; exact unknown_loop79 l hv hl ln hln r (d ++ [q] ++ [x]) _ _ _ _ (n + 1) (by simp [e]) (by simp [hn] <;> omega) (by simp)
theorem unknown_gives79 (l : List TLV) (hl : l.length < 2 ^ 40) (hv : ∀ t ∈ l, t.value.length < 2 ^ 40) : Gives G 79 [.sl 2 (l.map TLV.enc)] [] ⟨.int .i64 (unknownE l), []⟩ := by
  have ll : (l.map TLV.enc).length = l.length := by simp
  refine gives_code (F := f79) rfl rfl (W_ok 300 _ _ _ _ ?_)
  repeat' (first | refine stpA ?_ | (refine condS ?_ ?_ <;> intro h))
  all_goals try ((first | refine fin1 ?_ | refine fin0 ?_); first | rfl | (simp [unknownE, Bool.cond_eq_ite, *]; done) | (simp [unknownE, Bool.cond_eq_ite, *]; omega) | (unfold unknownE; repeat' split; all_goals first | rfl | (exfalso; omega) | (simp_all; done) | (simp_all; omega)))
  rw [show unknownE l = unkC none l from by simp [unknownE]; omega]
  refine ev_keep [8, 9, 10, 0] [] ?_
  exact unknown_loop79 l hv hl _ (by simp) l [] _ _ _ _ 0 rfl rfl rfl
end Go.AM.IR
set_option maxHeartbeats 4000000
set_option maxRecDepth 20000
namespace Go.AM.IR
def origE (h : Bool) (x : Int) : Int := if h = (x == 0) then 1 else 0
def checkL (a : Attrs) : List Int := [if a.origin < 0 ∨ a.origin > 2 then 5 else 0, pathE a.path, if a.nextHop = 0 then 1 else 0, optE a.hasMED a.med 0, optE a.hasPref a.pref 0, optE a.hasAggr a.aggrAS 1, if a.hasAggr = false ∧ a.aggrAddr ≠ 0 then 1 else 0, commE a.comms, origE a.hasOrig a.orig, clustersE a.clusters, unknownE a.unknown]
def checkS (a : Attrs) : Int := firstS (checkL a)
structure LenB (a : Attrs) : Prop where
  path : a.path.length < 2 ^ 40
  segs : ∀ s ∈ a.path, s.as.length < 2 ^ 40
  comms : a.comms.length < 2 ^ 40
  clusters : a.clusters.length < 2 ^ 40
  unknown : a.unknown.length < 2 ^ 40
  vals : ∀ t ∈ a.unknown, t.value.length < 2 ^ 40
theorem check_gives65 (a : Attrs) (h : LenB a) : Gives G 65 [.agg a.enc] [] ⟨.int .i64 (checkS a), []⟩ := by
  obtain ⟨h1, h2, h3, h4, h5, h6⟩ := h
  refine gives_code (F := f65) rfl rfl (W_ok 300 _ _ _ _ ?_)
  repeat' (first | refine stpA ?_ | refine kV (when_gives74 _ _) ?_ | refine kV (optional_gives76 _ _ _) ?_ | refine kV (check_gives75 a.path h1 h2) ?_ | refine kV (comm_gives77 a.comms h3) ?_ | refine kV (clusters_gives78 a.clusters h4) ?_ | refine kV (unknown_gives79 a.unknown h5 h6) ?_ | (refine condS ?_ ?_ <;> intro h))
  all_goals (refine callF [(123, _, .vec 1 _)] ⟨rfl, rfl, trivial⟩ rfl (by simp) rfl rfl (first_gives73 [_, _, _, _, _, _, _, _, _, _, _] (by simp)) rfl ?_)
  repeat' (first | refine stpA ?_ | (refine condS ?_ ?_ <;> intro h))
  all_goals ((first | refine fin1 ?_ | refine fin0 ?_); refine congrArg (fun x => Ret.mk (.int .i64 x) []) ?_; unfold checkS; refine congrArg firstS ?_; simp [checkL, origE, *]; try omega)
end Go.AM.IR
set_option maxHeartbeats 4000000
set_option maxRecDepth 20000
namespace Go.AM.IR
def u64 (n : Int) : Nat := (n % 18446744073709551616).toNat
theorem zCU {k : Eff → Prop} {x : Opd} {g key : Nat} {hg : Nat → Option (Nat × Blk)} {n : Int} (h : k { res := .int .u64 ((u64 n : Nat) : Int) }) : ∃ e, aopV (.conv .u64 x) g key [.int .i64 n] hg = some e ∧ k e :=
  ⟨_, by
    show some (({ res := .int .u64 (IntKind.wrap .u64 n) } : Eff)) = _
    have : IntKind.wrap .u64 n = ((u64 n : Nat) : Int) := by
      simp [IntKind.wrap, IntKind.signed, IntKind.bits, u64]; omega
    rw [this], h⟩
def zeroA : Attrs := ⟨0, [], 0, false, 0, false, 0, false, false, 0, 0, [], false, 0, [], []⟩
def zeroM : PMsg := ⟨0, 0, 0, 0, 0, [], [], zeroA, [], 0, 0, []⟩
theorem rBl {p q : Bool} (h : p = q) : (⟨.bool p, []⟩ : Ret) = ⟨.bool q, []⟩ := by rw [h]
end Go.AM.IR
set_option maxHeartbeats 4000000
set_option maxRecDepth 20000
namespace Go.AM.IR
deriving instance DecidableEq for Seg, TLV, Attrs
theorem eq_loop104 (la lb : List Int) (hlen : la.length = lb.length) (hl : la.length < 2 ^ 40) : ∀ (r1 d1 r2 d2 : List Int) (T : List (Nat × AV)) (H : Heap) (c : Nat) (n : Int) (e1 : la = d1 ++ r1) (e2 : lb = d2 ++ r2) (hn1 : n = d1.length) (hn2 : n = d2.length),
   Ev G ⟨f104x9LH, ⟨(13, .int .i64 n) :: (1, .sl 1 (lb.map encU)) :: (0, .sl 1 (la.map encU)) :: (12, .int .i64 la.length) :: T, H, c⟩, [.t 4], 0⟩ ⟨.bool (decide (r1 = r2)), []⟩
  | [], d1, [], d2, T, H, c, n, e1, e2, hn1, hn2 => by
    have hd : la.length = d1.length := by simp [e1]
    refine ev_loop' (W_ok 300 _ _ _ _ ?_)
    repeat' (first | refine stpA ?_ | (refine condS ?_ ?_ <;> intro h))
    all_goals try ((first | refine fin1 ?_ | refine fin0 ?_); first | rfl | (simp [Bool.cond_eq_ite, *]; done) | (simp [Bool.cond_eq_ite, *]; omega))
  | x :: r1, d1, y :: r2, d2, T, H, c, n, e1, e2, hn1, hn2 => by
    have hd : la.length = d1.length + (r1.length + 1) := by simp [e1]
    have hx : (la.map encU)[n.toNat]? = some (encU x) := by simp [e1, hn1]
    have hy : (lb.map encU)[n.toNat]? = some (encU y) := by simp [e2, hn2]
    refine ev_loop' (W_ok 300 _ _ _ _ ?_)
    repeat' (first | refine stpA ?_ | (refine condS ?_ ?_ <;> intro h))
    all_goals try ((first | refine fin1 ?_ | refine fin0 ?_); first | rfl | (simp [Bool.cond_eq_ite, *]; done) | (simp [Bool.cond_eq_ite, *]; omega))
    rw [show decide (x :: r1 = y :: r2) = decide (r1 = r2) from by simp [*]]
    refine ev_keep [13, 1, 0, 12] [] ?_; exact eq_loop104 la lb hlen hl r1 (d1 ++ [x]) r2 (d2 ++ [y]) _ _ _ (n + 1) (by simp [e1]) (by simp [e2]) (by simp [hn1]) (by simp; omega)
  | [], d1, y :: r2, d2, T, H, c, n, e1, e2, hn1, hn2 => by
    exfalso; rw [e1, e2] at hlen; simp at hlen; omega
  | x :: r1, d1, [], d2, T, H, c, n, e1, e2, hn1, hn2 => by
    exfalso; rw [e1, e2] at hlen; simp at hlen; omega
theorem eq_gives104 (la lb : List Int) (h1 : la.length < 2 ^ 40) (h2 : lb.length < 2 ^ 40) : Gives G 104 [.sl 1 (la.map encU), .sl 1 (lb.map encU)] [] ⟨.bool (decide (la = lb)), []⟩ := by
  have l1 : (la.map encU).length = la.length := by simp
  have l2 : (lb.map encU).length = lb.length := by simp
  by_cases hlen : la.length = lb.length
  · refine gives_code (F := f104) rfl rfl (W_ok 300 _ _ _ _ ?_)
    repeat' (first | refine stpA ?_ | (refine condS ?_ ?_ <;> intro h))
    refine ev_keep [13, 1, 0, 12] [] ?_
    rw [l1]
    exact eq_loop104 la lb hlen h1 la [] lb [] _ _ _ 0 rfl rfl rfl rfl
  · rw [show decide (la = lb) = false from by simp; intro h; exact hlen (by rw [h])]
    refine gives_code (F := f104) rfl rfl (W_ok 300 _ _ _ _ ?_)
    repeat' (first | refine stpA ?_ | (refine condS ?_ ?_ <;> intro h))
    all_goals try ((first | refine fin1 ?_ | refine fin0 ?_); first | rfl | (simp [Bool.cond_eq_ite, *]; done) | (simp [Bool.cond_eq_ite, *]; omega))
theorem eq_loop99 (la lb : List Int) (hlen : la.length = lb.length) (hl : la.length < 2 ^ 40) : ∀ (r1 d1 r2 d2 : List Int) (T : List (Nat × AV)) (H : Heap) (c : Nat) (n : Int) (e1 : la = d1 ++ r1) (e2 : lb = d2 ++ r2) (hn1 : n = d1.length) (hn2 : n = d2.length),
   Ev G ⟨f99x9LH, ⟨(13, .int .i64 n) :: (1, .sl 1 (lb.map encU)) :: (0, .sl 1 (la.map encU)) :: (12, .int .i64 la.length) :: T, H, c⟩, [.t 4], 0⟩ ⟨.bool (decide (r1 = r2)), []⟩
  | [], d1, [], d2, T, H, c, n, e1, e2, hn1, hn2 => by
    have hd : la.length = d1.length := by simp [e1]
    refine ev_loop' (W_ok 300 _ _ _ _ ?_)
    repeat' (first | refine stpA ?_ | (refine condS ?_ ?_ <;> intro h))
    all_goals try ((first | refine fin1 ?_ | refine fin0 ?_); first | rfl | (simp [Bool.cond_eq_ite, *]; done) | (simp [Bool.cond_eq_ite, *]; omega))
  | x :: r1, d1, y :: r2, d2, T, H, c, n, e1, e2, hn1, hn2 => by
    have hd : la.length = d1.length + (r1.length + 1) := by simp [e1]
    have hx : (la.map encU)[n.toNat]? = some (encU x) := by simp [e1, hn1]
    have hy : (lb.map encU)[n.toNat]? = some (encU y) := by simp [e2, hn2]
    refine ev_loop' (W_ok 300 _ _ _ _ ?_)
    repeat' (first | refine stpA ?_ | (refine condS ?_ ?_ <;> intro h))
    all_goals try ((first | refine fin1 ?_ | refine fin0 ?_); first | rfl | (simp [Bool.cond_eq_ite, *]; done) | (simp [Bool.cond_eq_ite, *]; omega))
    rw [show decide (x :: r1 = y :: r2) = decide (r1 = r2) from by simp [*]]
    refine ev_keep [13, 1, 0, 12] [] ?_; exact eq_loop99 la lb hlen hl r1 (d1 ++ [x]) r2 (d2 ++ [y]) _ _ _ (n + 1) (by simp [e1]) (by simp [e2]) (by simp [hn1]) (by simp; omega)
  | [], d1, y :: r2, d2, T, H, c, n, e1, e2, hn1, hn2 => by
    exfalso; rw [e1, e2] at hlen; simp at hlen; omega
  | x :: r1, d1, [], d2, T, H, c, n, e1, e2, hn1, hn2 => by
    exfalso; rw [e1, e2] at hlen; simp at hlen; omega
theorem eq_gives99 (la lb : List Int) (h1 : la.length < 2 ^ 40) (h2 : lb.length < 2 ^ 40) : Gives G 99 [.sl 1 (la.map encU), .sl 1 (lb.map encU)] [] ⟨.bool (decide (la = lb)), []⟩ := by
  have l1 : (la.map encU).length = la.length := by simp
  have l2 : (lb.map encU).length = lb.length := by simp
  by_cases hlen : la.length = lb.length
  · refine gives_code (F := f99) rfl rfl (W_ok 300 _ _ _ _ ?_)
    repeat' (first | refine stpA ?_ | (refine condS ?_ ?_ <;> intro h))
    refine ev_keep [13, 1, 0, 12] [] ?_
    rw [l1]
    exact eq_loop99 la lb hlen h1 la [] lb [] _ _ _ 0 rfl rfl rfl rfl
  · rw [show decide (la = lb) = false from by simp; intro h; exact hlen (by rw [h])]
    refine gives_code (F := f99) rfl rfl (W_ok 300 _ _ _ _ ?_)
    repeat' (first | refine stpA ?_ | (refine condS ?_ ?_ <;> intro h))
    all_goals try ((first | refine fin1 ?_ | refine fin0 ?_); first | rfl | (simp [Bool.cond_eq_ite, *]; done) | (simp [Bool.cond_eq_ite, *]; omega))
theorem in_loop103 (pa pb : List Seg) (hlen : pa.length = pb.length) (hl : pa.length < 2 ^ 40) (i : Int) (s t : Seg) (h0 : 0 ≤ i) (hs : (pa.map Seg.enc)[i.toNat]? = some s.enc) (ht : (pb.map Seg.enc)[i.toNat]? = some t.enc) (hi : i < 2 ^ 40)
   (hst : s.as.length = t.as.length) (hsl : s.as.length < 2 ^ 40) (R : Bool)
   (go : ∀ T H c, Ev G ⟨f103x16LH, ⟨(14, .int .i64 (i + 1)) :: (1, .sl 2 (pb.map Seg.enc)) :: (0, .sl 2 (pa.map Seg.enc)) :: (13, .int .i64 pa.length) :: T, H, c⟩, [.t 4], 0⟩ ⟨.bool R, []⟩) : ∀ (r1 d1 r2 d2 : List Int) (T : List (Nat × AV)) (H : Heap) (c : Nat) (n : Int) (e1 : s.as = d1 ++ r1) (e2 : t.as = d2 ++ r2) (hn1 : n = d1.length) (hn2 : n = d2.length),
   Ev G ⟨f103x14LH, ⟨(49, .int .i64 n) :: (5, .int .i64 i) :: (1, .sl 2 (pb.map Seg.enc)) :: (0, .sl 2 (pa.map Seg.enc)) :: (13, .int .i64 pa.length) :: (14, .int .i64 i) :: (48, .int .i64 s.as.length) :: T, H, c⟩, [.t 4], 0⟩ ⟨.bool (decide (r1 = r2) && R), []⟩
  | [], d1, [], d2, T, H, c, n, e1, e2, hn1, hn2 => by
    have hd : s.as.length = d1.length := by simp [e1]
    refine ev_loop' (W_ok 300 _ _ _ _ ?_)
    repeat' (first | refine stpA ?_ | (refine condS ?_ ?_ <;> intro h))
    refine ev_keep [14, 1, 0, 13] [] ?_
    rw [show (decide (([] : List Int) = []) && R) = R from by simp]
    exact go _ _ _
  | x :: r1, d1, y :: r2, d2, T, H, c, n, e1, e2, hn1, hn2 => by
    have hd : s.as.length = d1.length + (r1.length + 1) := by simp [e1]
    have hx : (s.as.map encI)[n.toNat]? = some (encI x) := by simp [e1, hn1]
    have hy : (t.as.map encI)[n.toNat]? = some (encI y) := by simp [e2, hn2]
    refine ev_loop' (W_ok 300 _ _ _ _ ?_)
    repeat' (first | refine stpA ?_ | (refine condS ?_ ?_ <;> intro h))
    all_goals try ((first | refine fin1 ?_ | refine fin0 ?_); first | rfl | (simp [Bool.cond_eq_ite, *]; done) | (simp [Bool.cond_eq_ite, *]; omega))
    rw [show decide (x :: r1 = y :: r2) = decide (r1 = r2) from by simp [*]]
    refine ev_keep [49, 5, 1, 0, 13, 14, 48] [] ?_; exact in_loop103 pa pb hlen hl i s t h0 hs ht hi hst hsl R go r1 (d1 ++ [x]) r2 (d2 ++ [y]) _ _ _ (n + 1) (by simp [e1]) (by simp [e2]) (by simp [hn1]) (by simp; omega)
  | [], d1, y :: r2, d2, T, H, c, n, e1, e2, hn1, hn2 => by
    exfalso; rw [e1, e2] at hst; simp at hst; omega
  | x :: r1, d1, [], d2, T, H, c, n, e1, e2, hn1, hn2 => by
    exfalso; rw [e1, e2] at hst; simp at hst; omega
theorem out_loop103 (pa pb : List Seg) (hlen : pa.length = pb.length) (hl : pa.length < 2 ^ 40) (ha : ∀ s ∈ pa, s.as.length < 2 ^ 40) (hb : ∀ s ∈ pb, s.as.length < 2 ^ 40) : ∀ (r1 d1 r2 d2 : List Seg) (T : List (Nat × AV)) (H : Heap) (c : Nat) (n : Int) (e1 : pa = d1 ++ r1) (e2 : pb = d2 ++ r2) (hn1 : n = d1.length) (hn2 : n = d2.length),
   Ev G ⟨f103x16LH, ⟨(14, .int .i64 n) :: (1, .sl 2 (pb.map Seg.enc)) :: (0, .sl 2 (pa.map Seg.enc)) :: (13, .int .i64 pa.length) :: T, H, c⟩, [.t 4], 0⟩ ⟨.bool (decide (r1 = r2)), []⟩
  | [], d1, [], d2, T, H, c, n, e1, e2, hn1, hn2 => by
    have hd : pa.length = d1.length := by simp [e1]
    refine ev_loop' (W_ok 300 _ _ _ _ ?_)
    repeat' (first | refine stpA ?_ | (refine condS ?_ ?_ <;> intro h))
    all_goals try ((first | refine fin1 ?_ | refine fin0 ?_); first | rfl | (simp [Bool.cond_eq_ite, *]; done) | (simp [Bool.cond_eq_ite, *]; omega))
  | x :: r1, d1, y :: r2, d2, T, H, c, n, e1, e2, hn1, hn2 => by
    have hd : pa.length = d1.length + (r1.length + 1) := by simp [e1]
    have hx : (pa.map Seg.enc)[n.toNat]? = some x.enc := by simp [e1, hn1]
    have hy : (pb.map Seg.enc)[n.toNat]? = some y.enc := by simp [e2, hn2]
    have hxl := ha x (by simp [e1])
    have hyl := hb y (by simp [e2])
    have l1 : (x.as.map encI).length = x.as.length := by simp
    have l2 : (y.as.map encI).length = y.as.length := by simp
    have hee : (x = y) ↔ (x.kind = y.kind ∧ x.as = y.as) := by cases x; cases y; simp
    have ih := fun T H c => out_loop103 pa pb hlen hl ha hb r1 (d1 ++ [x]) r2 (d2 ++ [y]) T H c (n + 1) (by simp [e1]) (by simp [e2]) (by simp [hn1]) (by simp; omega)
    by_cases hk : x.kind = y.kind
    · by_cases hal : x.as.length = y.as.length
      · refine ev_loop' (W_ok 300 _ _ _ _ ?_)
        repeat' (first | refine stpA ?_ | (refine condS ?_ ?_ <;> intro h))
        refine ev_keep [49, 5, 1, 0, 13, 14, 48] [] ?_
        rw [l1]
        have := in_loop103 pa pb hlen hl n x y (by omega) hx hy (by omega) hal hxl _ ih x.as [] y.as []
        rw [show decide (x :: r1 = y :: r2) = (decide (x.as = y.as) && decide (r1 = r2)) from by simp [hee, hk]]
        exact this _ _ _ 0 rfl rfl rfl rfl
      · rw [show decide (x :: r1 = y :: r2) = false from by simp [hee]; intro _ h; exact absurd (by rw [h]) hal]
        refine ev_loop' (W_ok 300 _ _ _ _ ?_)
        repeat' (first | refine stpA ?_ | (refine condS ?_ ?_ <;> intro h))
        all_goals try ((first | refine fin1 ?_ | refine fin0 ?_); first | rfl | (simp [Bool.cond_eq_ite, *]; done) | (simp [Bool.cond_eq_ite, *]; omega))
    · rw [show decide (x :: r1 = y :: r2) = false from by simp [hee, hk]]
      refine ev_loop' (W_ok 300 _ _ _ _ ?_)
      repeat' (first | refine stpA ?_ | (refine condS ?_ ?_ <;> intro h))
      all_goals try ((first | refine fin1 ?_ | refine fin0 ?_); first | rfl | (simp [Bool.cond_eq_ite, *]; done) | (simp [Bool.cond_eq_ite, *]; omega))
  | [], d1, y :: r2, d2, T, H, c, n, e1, e2, hn1, hn2 => by
    exfalso; rw [e1, e2] at hlen; simp at hlen; omega
  | x :: r1, d1, [], d2, T, H, c, n, e1, e2, hn1, hn2 => by
    exfalso; rw [e1, e2] at hlen; simp at hlen; omega
theorem same_gives103 (pa pb : List Seg) (h1 : pa.length < 2 ^ 40) (h2 : pb.length < 2 ^ 40) (ha : ∀ s ∈ pa, s.as.length < 2 ^ 40) (hb : ∀ s ∈ pb, s.as.length < 2 ^ 40) : Gives G 103 [.sl 2 (pa.map Seg.enc), .sl 2 (pb.map Seg.enc)] [] ⟨.bool (decide (pa = pb)), []⟩ := by
  have l1 : (pa.map Seg.enc).length = pa.length := by simp
  have l2 : (pb.map Seg.enc).length = pb.length := by simp
  by_cases hlen : pa.length = pb.length
  · refine gives_code (F := f103) rfl rfl (W_ok 300 _ _ _ _ ?_)
    repeat' (first | refine stpA ?_ | (refine condS ?_ ?_ <;> intro h))
    refine ev_keep [14, 1, 0, 13] [] ?_
    rw [l1]
    exact out_loop103 pa pb hlen h1 ha hb pa [] pb [] _ _ _ 0 rfl rfl rfl rfl
  · rw [show decide (pa = pb) = false from by simp; intro h; exact hlen (by rw [h])]
    refine gives_code (F := f103) rfl rfl (W_ok 300 _ _ _ _ ?_)
    repeat' (first | refine stpA ?_ | (refine condS ?_ ?_ <;> intro h))
    all_goals try ((first | refine fin1 ?_ | refine fin0 ?_); first | rfl | (simp [Bool.cond_eq_ite, *]; done) | (simp [Bool.cond_eq_ite, *]; omega))
theorem in_loop97 (pa pb : List Seg) (hlen : pa.length = pb.length) (hl : pa.length < 2 ^ 40) (i : Int) (s t : Seg) (h0 : 0 ≤ i) (hs : (pa.map Seg.enc)[i.toNat]? = some s.enc) (ht : (pb.map Seg.enc)[i.toNat]? = some t.enc) (hi : i < 2 ^ 40)
   (hst : s.as.length = t.as.length) (hsl : s.as.length < 2 ^ 40) (R : Bool)
   (go : ∀ T H c, Ev G ⟨f97x16LH, ⟨(14, .int .i64 (i + 1)) :: (1, .sl 2 (pb.map Seg.enc)) :: (0, .sl 2 (pa.map Seg.enc)) :: (13, .int .i64 pa.length) :: T, H, c⟩, [.t 4], 0⟩ ⟨.bool R, []⟩) : ∀ (r1 d1 r2 d2 : List Int) (T : List (Nat × AV)) (H : Heap) (c : Nat) (n : Int) (e1 : s.as = d1 ++ r1) (e2 : t.as = d2 ++ r2) (hn1 : n = d1.length) (hn2 : n = d2.length),
   Ev G ⟨f97x14LH, ⟨(49, .int .i64 n) :: (5, .int .i64 i) :: (1, .sl 2 (pb.map Seg.enc)) :: (0, .sl 2 (pa.map Seg.enc)) :: (13, .int .i64 pa.length) :: (14, .int .i64 i) :: (48, .int .i64 s.as.length) :: T, H, c⟩, [.t 4], 0⟩ ⟨.bool (decide (r1 = r2) && R), []⟩
  | [], d1, [], d2, T, H, c, n, e1, e2, hn1, hn2 => by
    have hd : s.as.length = d1.length := by simp [e1]
    refine ev_loop' (W_ok 300 _ _ _ _ ?_)
    repeat' (first | refine stpA ?_ | (refine condS ?_ ?_ <;> intro h))
    refine ev_keep [14, 1, 0, 13] [] ?_
    rw [show (decide (([] : List Int) = []) && R) = R from by simp]
    exact go _ _ _
  | x :: r1, d1, y :: r2, d2, T, H, c, n, e1, e2, hn1, hn2 => by
    have hd : s.as.length = d1.length + (r1.length + 1) := by simp [e1]
    have hx : (s.as.map encI)[n.toNat]? = some (encI x) := by simp [e1, hn1]
    have hy : (t.as.map encI)[n.toNat]? = some (encI y) := by simp [e2, hn2]
    refine ev_loop' (W_ok 300 _ _ _ _ ?_)
    repeat' (first | refine stpA ?_ | (refine condS ?_ ?_ <;> intro h))
    all_goals try ((first | refine fin1 ?_ | refine fin0 ?_); first | rfl | (simp [Bool.cond_eq_ite, *]; done) | (simp [Bool.cond_eq_ite, *]; omega))
    rw [show decide (x :: r1 = y :: r2) = decide (r1 = r2) from by simp [*]]
    refine ev_keep [49, 5, 1, 0, 13, 14, 48] [] ?_; exact in_loop97 pa pb hlen hl i s t h0 hs ht hi hst hsl R go r1 (d1 ++ [x]) r2 (d2 ++ [y]) _ _ _ (n + 1) (by simp [e1]) (by simp [e2]) (by simp [hn1]) (by simp; omega)
  | [], d1, y :: r2, d2, T, H, c, n, e1, e2, hn1, hn2 => by
    exfalso; rw [e1, e2] at hst; simp at hst; omega
  | x :: r1, d1, [], d2, T, H, c, n, e1, e2, hn1, hn2 => by
    exfalso; rw [e1, e2] at hst; simp at hst; omega
theorem out_loop97 (pa pb : List Seg) (hlen : pa.length = pb.length) (hl : pa.length < 2 ^ 40) (ha : ∀ s ∈ pa, s.as.length < 2 ^ 40) (hb : ∀ s ∈ pb, s.as.length < 2 ^ 40) : ∀ (r1 d1 r2 d2 : List Seg) (T : List (Nat × AV)) (H : Heap) (c : Nat) (n : Int) (e1 : pa = d1 ++ r1) (e2 : pb = d2 ++ r2) (hn1 : n = d1.length) (hn2 : n = d2.length),
   Ev G ⟨f97x16LH, ⟨(14, .int .i64 n) :: (1, .sl 2 (pb.map Seg.enc)) :: (0, .sl 2 (pa.map Seg.enc)) :: (13, .int .i64 pa.length) :: T, H, c⟩, [.t 4], 0⟩ ⟨.bool (decide (r1 = r2)), []⟩
  | [], d1, [], d2, T, H, c, n, e1, e2, hn1, hn2 => by
    have hd : pa.length = d1.length := by simp [e1]
    refine ev_loop' (W_ok 300 _ _ _ _ ?_)
    repeat' (first | refine stpA ?_ | (refine condS ?_ ?_ <;> intro h))
    all_goals try ((first | refine fin1 ?_ | refine fin0 ?_); first | rfl | (simp [Bool.cond_eq_ite, *]; done) | (simp [Bool.cond_eq_ite, *]; omega))
  | x :: r1, d1, y :: r2, d2, T, H, c, n, e1, e2, hn1, hn2 => by
    have hd : pa.length = d1.length + (r1.length + 1) := by simp [e1]
    have hx : (pa.map Seg.enc)[n.toNat]? = some x.enc := by simp [e1, hn1]
    have hy : (pb.map Seg.enc)[n.toNat]? = some y.enc := by simp [e2, hn2]
    have hxl := ha x (by simp [e1])
    have hyl := hb y (by simp [e2])
    have l1 : (x.as.map encI).length = x.as.length := by simp
    have l2 : (y.as.map encI).length = y.as.length := by simp
    have hee : (x = y) ↔ (x.kind = y.kind ∧ x.as = y.as) := by cases x; cases y; simp
    have ih := fun T H c => out_loop97 pa pb hlen hl ha hb r1 (d1 ++ [x]) r2 (d2 ++ [y]) T H c (n + 1) (by simp [e1]) (by simp [e2]) (by simp [hn1]) (by simp; omega)
    by_cases hk : x.kind = y.kind
    · by_cases hal : x.as.length = y.as.length
      · refine ev_loop' (W_ok 300 _ _ _ _ ?_)
        repeat' (first | refine stpA ?_ | (refine condS ?_ ?_ <;> intro h))
        refine ev_keep [49, 5, 1, 0, 13, 14, 48] [] ?_
        rw [l1]
        have := in_loop97 pa pb hlen hl n x y (by omega) hx hy (by omega) hal hxl _ ih x.as [] y.as []
        rw [show decide (x :: r1 = y :: r2) = (decide (x.as = y.as) && decide (r1 = r2)) from by simp [hee, hk]]
        exact this _ _ _ 0 rfl rfl rfl rfl
      · rw [show decide (x :: r1 = y :: r2) = false from by simp [hee]; intro _ h; exact absurd (by rw [h]) hal]
        refine ev_loop' (W_ok 300 _ _ _ _ ?_)
        repeat' (first | refine stpA ?_ | (refine condS ?_ ?_ <;> intro h))
        all_goals try ((first | refine fin1 ?_ | refine fin0 ?_); first | rfl | (simp [Bool.cond_eq_ite, *]; done) | (simp [Bool.cond_eq_ite, *]; omega))
    · rw [show decide (x :: r1 = y :: r2) = false from by simp [hee, hk]]
      refine ev_loop' (W_ok 300 _ _ _ _ ?_)
      repeat' (first | refine stpA ?_ | (refine condS ?_ ?_ <;> intro h))
      all_goals try ((first | refine fin1 ?_ | refine fin0 ?_); first | rfl | (simp [Bool.cond_eq_ite, *]; done) | (simp [Bool.cond_eq_ite, *]; omega))
  | [], d1, y :: r2, d2, T, H, c, n, e1, e2, hn1, hn2 => by
    exfalso; rw [e1, e2] at hlen; simp at hlen; omega
  | x :: r1, d1, [], d2, T, H, c, n, e1, e2, hn1, hn2 => by
    exfalso; rw [e1, e2] at hlen; simp at hlen; omega
theorem same_gives97 (pa pb : List Seg) (h1 : pa.length < 2 ^ 40) (h2 : pb.length < 2 ^ 40) (ha : ∀ s ∈ pa, s.as.length < 2 ^ 40) (hb : ∀ s ∈ pb, s.as.length < 2 ^ 40) : Gives G 97 [.sl 2 (pa.map Seg.enc), .sl 2 (pb.map Seg.enc)] [] ⟨.bool (decide (pa = pb)), []⟩ := by
  have l1 : (pa.map Seg.enc).length = pa.length := by simp
  have l2 : (pb.map Seg.enc).length = pb.length := by simp
  by_cases hlen : pa.length = pb.length
  · refine gives_code (F := f97) rfl rfl (W_ok 300 _ _ _ _ ?_)
    repeat' (first | refine stpA ?_ | (refine condS ?_ ?_ <;> intro h))
    refine ev_keep [14, 1, 0, 13] [] ?_
    rw [l1]
    exact out_loop97 pa pb hlen h1 ha hb pa [] pb [] _ _ _ 0 rfl rfl rfl rfl
  · rw [show decide (pa = pb) = false from by simp; intro h; exact hlen (by rw [h])]
    refine gives_code (F := f97) rfl rfl (W_ok 300 _ _ _ _ ?_)
    repeat' (first | refine stpA ?_ | (refine condS ?_ ?_ <;> intro h))
    all_goals try ((first | refine fin1 ?_ | refine fin0 ?_); first | rfl | (simp [Bool.cond_eq_ite, *]; done) | (simp [Bool.cond_eq_ite, *]; omega))
end Go.AM.IR
set_option maxHeartbeats 4000000
set_option maxRecDepth 20000
namespace Go.AM.IR
@[simp] theorem pure_bytesL (l : List UInt8) : pureLL (byteCells l) = true := pureLL_bytes l
theorem bytesSame_gives98 (x y : List UInt8) : Gives G 98 [.sl 1 (byteCells x), .sl 1 (byteCells y)] [] ⟨.bool (decide (x = y)), []⟩ := by
  rw [show decide (x = y) = (x == y) from by by_cases h : x = y <;> simp [h]]
  refine gives_code (F := f98) rfl rfl (W_ok 300 _ _ _ _ ?_)
  repeat' (first | refine stpA ?_ | (refine condS ?_ ?_ <;> intro h))
  all_goals try ((first | refine fin1 ?_ | refine fin0 ?_); first | rfl | (simp [Bool.cond_eq_ite, *]; done) | (simp [Bool.cond_eq_ite, *]; omega))
structure LenC (a : Attrs) : Prop where
  path : a.path.length < 2 ^ 40
  segs : ∀ s ∈ a.path, s.as.length < 2 ^ 40
  comms : a.comms.length < 2 ^ 40
  clusters : a.clusters.length < 2 ^ 40
  unknown : a.unknown.length < 2 ^ 40
theorem unk_loop72 (a b : Attrs) (ha : LenC a) (hb : LenC b) (hlen : a.unknown.length = b.unknown.length) : ∀ (r1 d1 r2 d2 : List TLV) (T : List (Nat × AV)) (H : Heap) (c : Nat) (n : Int) (e1 : a.unknown = d1 ++ r1) (e2 : b.unknown = d2 ++ r2) (hn1 : n = d1.length) (hn2 : n = d2.length),
   Ev G ⟨f72x11LH, ⟨(122, .int .i64 n) :: (3, .ref 67 2 0) :: (2, .ref 66 1 0) :: (121, .int .i64 a.unknown.length) :: T, (66, some (1, .cells a.enc)) :: (67, some (2, .cells b.enc)) :: H, c⟩, [.t 4], 0⟩ ⟨.bool (decide (r1 = r2)), []⟩
  | [], d1, [], d2, T, H, c, n, e1, e2, hn1, hn2 => by
    have hul := ha.unknown
    have hd : a.unknown.length = d1.length := by simp [e1]
    refine ev_loop' (W_ok 300 _ _ _ _ ?_)
    repeat' (first | refine stpA ?_ | (refine condS ?_ ?_ <;> intro h))
    all_goals try ((first | refine fin1 ?_ | refine fin0 ?_); first | rfl | (simp [Bool.cond_eq_ite, *]; done) | (simp [Bool.cond_eq_ite, *]; omega))
  | x :: r1, d1, y :: r2, d2, T, H, c, n, e1, e2, hn1, hn2 => by
    have hul := ha.unknown
    have hd : a.unknown.length = d1.length + (r1.length + 1) := by simp [e1]
    have hx : (a.unknown.map TLV.enc)[n.toNat]? = some x.enc := by simp [e1, hn1]
    have hy : (b.unknown.map TLV.enc)[n.toNat]? = some y.enc := by simp [e2, hn2]
    have hee : (x = y) ↔ (x.kind = y.kind ∧ x.value = y.value) := by cases x; cases y; simp
    refine ev_loop' (W_ok 300 _ _ _ _ ?_)
    repeat' (first | refine stpA ?_ | (refine condS ?_ ?_ <;> intro h))
    all_goals try ((first | refine fin1 ?_ | refine fin0 ?_); first | rfl | (simp [hee, Bool.cond_eq_ite, *]; done) | (simp [hee, Bool.cond_eq_ite, *]; omega))
    rw [show (decide (x :: r1 = y :: r2)) = (decide (r1 = r2)) from by simp [hee, *]]
    refine ev_keep [122, 3, 2, 121] [66, 67] ?_; exact unk_loop72 a b ha hb hlen r1 (d1 ++ [x]) r2 (d2 ++ [y]) _ _ _ (n + 1) (by simp [e1]) (by simp [e2]) (by simp [hn1]) (by simp; omega)
  | [], d1, y :: r2, d2, T, H, c, n, e1, e2, hn1, hn2 => by
    exfalso; rw [e1, e2] at hlen; simp at hlen; omega
  | x :: r1, d1, [], d2, T, H, c, n, e1, e2, hn1, hn2 => by
    exfalso; rw [e1, e2] at hlen; simp at hlen; omega
theorem same_gives72 (a b : Attrs) (ha : LenC a) (hb : LenC b) : Gives G 72 [.agg a.enc, .agg b.enc] [] ⟨.bool (decide (a = b)), []⟩ := by
  have hab : (a = b) ↔ (a.origin = b.origin ∧ a.path = b.path ∧ a.nextHop = b.nextHop ∧ a.hasMED = b.hasMED ∧ a.med = b.med ∧ a.hasPref = b.hasPref ∧ a.pref = b.pref ∧ a.atomic = b.atomic ∧ a.hasAggr = b.hasAggr ∧ a.aggrAS = b.aggrAS ∧ a.aggrAddr = b.aggrAddr ∧ a.comms = b.comms ∧ a.hasOrig = b.hasOrig ∧ a.orig = b.orig ∧ a.clusters = b.clusters ∧ a.unknown = b.unknown) := by cases a; cases b; simp
  have l1 : (a.unknown.map TLV.enc).length = a.unknown.length := by simp
  have l2 : (b.unknown.map TLV.enc).length = b.unknown.length := by simp
  by_cases hlen : a.unknown.length = b.unknown.length
  · refine gives_code (F := f72) rfl rfl (W_ok 300 _ _ _ _ ?_)
    repeat' (first | refine stpA ?_ | refine kV (same_gives103 _ _ ha.path hb.path ha.segs hb.segs) ?_ | refine kV (eq_gives104 _ _ ha.comms hb.comms) ?_ | refine kV (eq_gives104 _ _ ha.clusters hb.clusters) ?_ | (refine condS ?_ ?_ <;> intro h))
    all_goals try ((first | refine fin1 ?_ | refine fin0 ?_); first | rfl | (simp [hab, Bool.cond_eq_ite, *]; done) | (simp [hab, Bool.cond_eq_ite, *]; omega))
    refine ev_keep [122, 3, 2, 121] [66, 67] ?_
    rw [l1, show decide (a = b) = (decide (a.unknown = b.unknown)) from by simp [hab, *]]
    exact unk_loop72 a b ha hb hlen a.unknown [] b.unknown [] _ _ _ 0 rfl rfl rfl rfl
  · have hne : ¬ a.unknown = b.unknown := fun h => hlen (by rw [h])
    rw [show decide (a = b) = false from by simp [hab, hne]]
    refine gives_code (F := f72) rfl rfl (W_ok 300 _ _ _ _ ?_)
    repeat' (first | refine stpA ?_ | refine kV (same_gives103 _ _ ha.path hb.path ha.segs hb.segs) ?_ | refine kV (eq_gives104 _ _ ha.comms hb.comms) ?_ | refine kV (eq_gives104 _ _ ha.clusters hb.clusters) ?_ | (refine condS ?_ ?_ <;> intro h))
    all_goals try ((first | refine fin1 ?_ | refine fin0 ?_); first | rfl | (simp [Bool.cond_eq_ite, *]; done) | (simp [Bool.cond_eq_ite, *]; omega))
theorem unk_loop70 (a b : Attrs) (ha : LenC a) (hb : LenC b) (hlen : a.unknown.length = b.unknown.length) : ∀ (r1 d1 r2 d2 : List TLV) (T : List (Nat × AV)) (H : Heap) (c : Nat) (n : Int) (e1 : a.unknown = d1 ++ r1) (e2 : b.unknown = d2 ++ r2) (hn1 : n = d1.length) (hn2 : n = d2.length),
   Ev G ⟨f70x11LH, ⟨(106, .int .i64 n) :: (3, .ref 67 2 0) :: (2, .ref 66 1 0) :: (105, .int .i64 a.unknown.length) :: T, (66, some (1, .cells a.enc)) :: (67, some (2, .cells b.enc)) :: H, c⟩, [.t 4], 0⟩ ⟨.bool ((decide (r1 = r2) && (decide (a.comms = b.comms) && decide (a.clusters = b.clusters)))), []⟩
  | [], d1, [], d2, T, H, c, n, e1, e2, hn1, hn2 => by
    have hul := ha.unknown
    have hd : a.unknown.length = d1.length := by simp [e1]
    refine ev_loop' (W_ok 300 _ _ _ _ ?_)
    repeat' (first | refine stpA ?_ | refine kV (bytesSame_gives98 _ _) ?_ | refine kV (eq_gives99 _ _ ha.comms hb.comms) ?_ | refine kV (eq_gives99 _ _ ha.clusters hb.clusters) ?_ | (refine condS ?_ ?_ <;> intro h))
    all_goals try ((first | refine fin1 ?_ | refine fin0 ?_); first | rfl | (simp [Bool.cond_eq_ite, *]; done) | (simp [Bool.cond_eq_ite, *]; omega))
  | x :: r1, d1, y :: r2, d2, T, H, c, n, e1, e2, hn1, hn2 => by
    have hul := ha.unknown
    have hd : a.unknown.length = d1.length + (r1.length + 1) := by simp [e1]
    have hx : (a.unknown.map TLV.enc)[n.toNat]? = some x.enc := by simp [e1, hn1]
    have hy : (b.unknown.map TLV.enc)[n.toNat]? = some y.enc := by simp [e2, hn2]
    have hee : (x = y) ↔ (x.kind = y.kind ∧ x.value = y.value) := by cases x; cases y; simp
    refine ev_loop' (W_ok 300 _ _ _ _ ?_)
    repeat' (first | refine stpA ?_ | refine kV (bytesSame_gives98 _ _) ?_ | refine kV (eq_gives99 _ _ ha.comms hb.comms) ?_ | refine kV (eq_gives99 _ _ ha.clusters hb.clusters) ?_ | (refine condS ?_ ?_ <;> intro h))
    all_goals try ((first | refine fin1 ?_ | refine fin0 ?_); first | rfl | (simp [hee, Bool.cond_eq_ite, *]; done) | (simp [hee, Bool.cond_eq_ite, *]; omega))
    rw [show ((decide (x :: r1 = y :: r2) && (decide (a.comms = b.comms) && decide (a.clusters = b.clusters)))) = ((decide (r1 = r2) && (decide (a.comms = b.comms) && decide (a.clusters = b.clusters)))) from by simp [hee, *]]
    refine ev_keep [106, 3, 2, 105] [66, 67] ?_; exact unk_loop70 a b ha hb hlen r1 (d1 ++ [x]) r2 (d2 ++ [y]) _ _ _ (n + 1) (by simp [e1]) (by simp [e2]) (by simp [hn1]) (by simp; omega)
  | [], d1, y :: r2, d2, T, H, c, n, e1, e2, hn1, hn2 => by
    exfalso; rw [e1, e2] at hlen; simp at hlen; omega
  | x :: r1, d1, [], d2, T, H, c, n, e1, e2, hn1, hn2 => by
    exfalso; rw [e1, e2] at hlen; simp at hlen; omega
theorem same_gives70 (a b : Attrs) (ha : LenC a) (hb : LenC b) : Gives G 70 [.agg a.enc, .agg b.enc] [] ⟨.bool (decide (a = b)), []⟩ := by
  have hab : (a = b) ↔ (a.origin = b.origin ∧ a.path = b.path ∧ a.nextHop = b.nextHop ∧ a.hasMED = b.hasMED ∧ a.med = b.med ∧ a.hasPref = b.hasPref ∧ a.pref = b.pref ∧ a.atomic = b.atomic ∧ a.hasAggr = b.hasAggr ∧ a.aggrAS = b.aggrAS ∧ a.aggrAddr = b.aggrAddr ∧ a.comms = b.comms ∧ a.hasOrig = b.hasOrig ∧ a.orig = b.orig ∧ a.clusters = b.clusters ∧ a.unknown = b.unknown) := by cases a; cases b; simp
  have l1 : (a.unknown.map TLV.enc).length = a.unknown.length := by simp
  have l2 : (b.unknown.map TLV.enc).length = b.unknown.length := by simp
  by_cases hlen : a.unknown.length = b.unknown.length
  · refine gives_code (F := f70) rfl rfl (W_ok 300 _ _ _ _ ?_)
    repeat' (first | refine stpA ?_ | refine kV (same_gives97 _ _ ha.path hb.path ha.segs hb.segs) ?_ | refine kV (eq_gives99 _ _ ha.comms hb.comms) ?_ | refine kV (eq_gives99 _ _ ha.clusters hb.clusters) ?_ | (refine condS ?_ ?_ <;> intro h))
    all_goals try ((first | refine fin1 ?_ | refine fin0 ?_); first | rfl | (simp [hab, Bool.cond_eq_ite, *]; done) | (simp [hab, Bool.cond_eq_ite, *]; omega))
    refine ev_keep [106, 3, 2, 105] [66, 67] ?_
    rw [l1, show decide (a = b) = ((decide (a.unknown = b.unknown) && (decide (a.comms = b.comms) && decide (a.clusters = b.clusters)))) from by simp [hab, *]; rw [Bool.eq_iff_iff]; simp [and_comm, and_assoc, and_left_comm]]
    exact unk_loop70 a b ha hb hlen a.unknown [] b.unknown [] _ _ _ 0 rfl rfl rfl rfl
  · have hne : ¬ a.unknown = b.unknown := fun h => hlen (by rw [h])
    rw [show decide (a = b) = false from by simp [hab, hne]]
    refine gives_code (F := f70) rfl rfl (W_ok 300 _ _ _ _ ?_)
    repeat' (first | refine stpA ?_ | refine kV (same_gives97 _ _ ha.path hb.path ha.segs hb.segs) ?_ | refine kV (eq_gives99 _ _ ha.comms hb.comms) ?_ | refine kV (eq_gives99 _ _ ha.clusters hb.clusters) ?_ | (refine condS ?_ ?_ <;> intro h))
    all_goals try ((first | refine fin1 ?_ | refine fin0 ?_); first | rfl | (simp [Bool.cond_eq_ite, *]; done) | (simp [Bool.cond_eq_ite, *]; omega))
end Go.AM.IR
set_option maxHeartbeats 4000000
set_option maxRecDepth 20000
namespace Go.AM.IR
deriving instance DecidableEq for PMsg
end Go.AM.IR
set_option maxHeartbeats 4000000
set_option maxRecDepth 20000
namespace Go.AM.IR
structure LenM (m : PMsg) : Prop where
  caps : m.caps.length < 2 ^ 40
  withdrawn : m.withdrawn.length < 2 ^ 40
  reach : m.reach.length < 2 ^ 40
  attrs : LenC m.attrs
theorem lenM_zero : LenM zeroM := ⟨by simp [zeroM], by simp [zeroM], by simp [zeroM], ⟨by simp [zeroM, zeroA], by simp [zeroM, zeroA], by simp [zeroM, zeroA], by simp [zeroM, zeroA], by simp [zeroM, zeroA]⟩⟩
def nilV : AV := .con (.slice none 0 0)
end Go.AM.IR
set_option maxHeartbeats 4000000
set_option maxRecDepth 20000
namespace Go.AM.IR
attribute [local simp] pureLL_bytes
theorem pfx_loop169 (a b : List Pfx) (ha : a.length < 2 ^ 40) (hlen : a.length = b.length) : ∀ (r1 d1 r2 d2 : List Pfx) (T : List (Nat × AV)) (H : Heap) (c : Nat) (n : Int) (e1 : a = d1 ++ r1) (e2 : b = d2 ++ r2) (hn1 : n = d1.length) (hn2 : n = d2.length),
   Ev G ⟨f169x9LH, ⟨(13, .int .i64 n) :: (1, .sl 2 (b.map Pfx.enc)) :: (0, .sl 2 (a.map Pfx.enc)) :: (12, .int .i64 a.length) :: T, H, c⟩, [.t 4], 0⟩ ⟨.bool (decide (r1 = r2)), []⟩
  | [], d1, [], d2, T, H, c, n, e1, e2, hn1, hn2 => by
    have hd : a.length = d1.length := by simp [e1]
    refine ev_loop' (W_ok 300 _ _ _ _ ?_)
    repeat' (first | refine stpA ?_ | (refine condS ?_ ?_ <;> intro h))
    all_goals try ((first | refine fin1 ?_ | refine fin0 ?_); first | rfl | (simp [Bool.cond_eq_ite, *]; done) | (simp [Bool.cond_eq_ite, *]; omega))
  | x :: r1, d1, y :: r2, d2, T, H, c, n, e1, e2, hn1, hn2 => by
    have hd : a.length = d1.length + (r1.length + 1) := by simp [e1]
    have hx : (a.map Pfx.enc)[n.toNat]? = some x.enc := by simp [e1, hn1]
    have hy : (b.map Pfx.enc)[n.toNat]? = some y.enc := by simp [e2, hn2]
    have hee : (x = y) ↔ (x.addr = y.addr ∧ x.len = y.len) := by cases x; cases y; simp
    refine ev_loop' (W_ok 300 _ _ _ _ ?_)
    repeat' (first | refine stpA ?_ | (refine condS ?_ ?_ <;> intro h))
    all_goals try ((first | refine fin1 ?_ | refine fin0 ?_); first | rfl | (simp [hee, Bool.cond_eq_ite, *]; done) | (simp [hee, Bool.cond_eq_ite, *]; omega))
    rw [show (decide (x :: r1 = y :: r2)) = (decide (r1 = r2)) from by simp [hee, *]]
    refine ev_keep [13, 1, 0, 12] [] ?_; exact pfx_loop169 a b ha hlen r1 (d1 ++ [x]) r2 (d2 ++ [y]) _ _ _ (n + 1) (by simp [e1]) (by simp [e2]) (by simp [hn1]) (by simp; omega)
  | [], d1, y :: r2, d2, T, H, c, n, e1, e2, hn1, hn2 => by
    exfalso; rw [e1, e2] at hlen; simp at hlen; omega
  | x :: r1, d1, [], d2, T, H, c, n, e1, e2, hn1, hn2 => by
    exfalso; rw [e1, e2] at hlen; simp at hlen; omega
theorem samePfx_gives169 (a b : List Pfx) (ha : a.length < 2 ^ 40) : Gives G 169 [.sl 2 (a.map Pfx.enc), .sl 2 (b.map Pfx.enc)] [] ⟨.bool (decide (a = b)), []⟩ := by
  have l1 : (a.map Pfx.enc).length = a.length := by simp
  have l2 : (b.map Pfx.enc).length = b.length := by simp
  by_cases hlen : a.length = b.length
  · refine gives_code (F := f169) rfl rfl (W_ok 300 _ _ _ _ ?_)
    repeat' (first | refine stpA ?_ | (refine condS ?_ ?_ <;> intro h))
    refine ev_keep [13, 1, 0, 12] [] ?_
    rw [l1]
    exact pfx_loop169 a b ha hlen a [] b [] _ _ _ 0 rfl rfl rfl rfl
  · have hne : ¬ a = b := fun h => hlen (by rw [h])
    rw [show decide (a = b) = false from by simp [hne]]
    refine gives_code (F := f169) rfl rfl (W_ok 300 _ _ _ _ ?_)
    repeat' (first | refine stpA ?_ | (refine condS ?_ ?_ <;> intro h))
    all_goals try ((first | refine fin1 ?_ | refine fin0 ?_); first | rfl | (simp [Bool.cond_eq_ite, *]; done) | (simp [Bool.cond_eq_ite, *]; omega))
def usedO (m : PMsg) : PMsg := { zeroM with kind := m.kind, version := m.version, as := m.as, hold := m.hold, router := m.router, caps := m.caps }
theorem used_gives157 (m : PMsg) (hk : m.kind = 1) : Gives G 157 [.agg m.enc] [] ⟨.agg (usedO m).enc, []⟩ := by
  refine gives_code (F := f157) rfl rfl (W_ok 300 _ _ _ _ ?_)
  repeat' (first | refine stpA ?_ | (refine condS ?_ ?_ <;> intro h))
  refine ev_le [] [(66, some (_, .cells ((usedO m).enc)))] trivial ⟨⟨rfl, (by repeat' (first | exact trivial | exact LeP.refl _ | exact LeP.nil _ | refine LeP.sl ?_ | refine ⟨?_, ?_⟩))⟩, trivial⟩ ?_
  (first | refine fin1 ?_ | refine fin0 ?_); (conv => whnf); refine Go.AM.finC ?_
  rfl
theorem caps_loop156 (a b : PMsg) (ha : LenM a) (hb : LenM b) (hlen : a.caps.length = b.caps.length) : ∀ (r1 d1 r2 d2 : List Cap) (T : List (Nat × AV)) (H : Heap) (c : Nat) (n : Int) (e1 : a.caps = d1 ++ r1) (e2 : b.caps = d2 ++ r2) (hn1 : n = d1.length) (hn2 : n = d2.length),
   Ev G ⟨f156x9LH, ⟨(74, .int .i64 n) :: (3, .ref 67 2 0) :: (2, .ref 66 1 0) :: (73, .int .i64 a.caps.length) :: T, (66, some (1, .cells a.enc)) :: (67, some (2, .cells b.enc)) :: H, c⟩, [.t 4], 0⟩ ⟨.bool (decide (r1 = r2 ∧ a.withdrawn = b.withdrawn ∧ a.attrs = b.attrs ∧ a.reach = b.reach)), []⟩
  | [], d1, [], d2, T, H, c, n, e1, e2, hn1, hn2 => by
    have hd : a.caps.length = d1.length := by simp [e1]
    have h2 := samePfx_gives169 a.withdrawn b.withdrawn ha.withdrawn
    have h3 := samePfx_gives169 a.reach b.reach ha.reach
    have h4 := same_gives72 a.attrs b.attrs ha.attrs hb.attrs
    refine ev_loop' (W_ok 300 _ _ _ _ ?_)
    repeat' (first | refine stpA ?_ | (refine condS ?_ ?_ <;> intro h))
    all_goals try ((first | refine fin1 ?_ | refine fin0 ?_); first | rfl | (simp [Bool.cond_eq_ite, *]; done) | (simp [Bool.cond_eq_ite, *]; omega))
  | x :: r1, d1, y :: r2, d2, T, H, c, n, e1, e2, hn1, hn2 => by
    have hd : a.caps.length = d1.length + (r1.length + 1) := by simp [e1]
    have hx : (a.caps.map Cap.enc)[n.toNat]? = some x.enc := by simp [e1, hn1]
    have hy : (b.caps.map Cap.enc)[n.toNat]? = some y.enc := by simp [e2, hn2]
    have hll : (a.caps.map Cap.enc).length = a.caps.length := by simp
    have hl2 : (b.caps.map Cap.enc).length = b.caps.length := by simp
    have hee : (x = y) ↔ (x.code = y.code ∧ x.value = y.value) := by cases x; cases y; simp
    have hl40 := ha.caps
    refine ev_loop' (W_ok 300 _ _ _ _ ?_)
    repeat' (first | refine stpA ?_ | (refine condS ?_ ?_ <;> intro h))
    all_goals try ((first | refine fin1 ?_ | refine fin0 ?_); first | rfl | (simp [hee, Bool.cond_eq_ite, *]; done) | (simp [hee, Bool.cond_eq_ite, *]; omega))
    rw [show (decide (x :: r1 = y :: r2 ∧ a.withdrawn = b.withdrawn ∧ a.attrs = b.attrs ∧ a.reach = b.reach)) = (decide (r1 = r2 ∧ a.withdrawn = b.withdrawn ∧ a.attrs = b.attrs ∧ a.reach = b.reach)) from by simp [hee, *]]
    refine ev_keep [74, 3, 2, 73] [66, 67] ?_; exact caps_loop156 a b ha hb hlen r1 (d1 ++ [x]) r2 (d2 ++ [y]) _ _ _ (n + 1) (by simp [e1]) (by simp [e2]) (by simp [hn1]) (by simp; omega)
  | [], d1, y :: r2, d2, T, H, c, n, e1, e2, hn1, hn2 => by
    exfalso; rw [e1, e2] at hlen; simp at hlen; omega
  | x :: r1, d1, [], d2, T, H, c, n, e1, e2, hn1, hn2 => by
    exfalso; rw [e1, e2] at hlen; simp at hlen; omega
theorem PMsg.eq_iff (a b : PMsg) : a = b ↔ a.kind = b.kind ∧ a.version = b.version ∧ a.as = b.as ∧ a.hold = b.hold ∧ a.router = b.router ∧ a.code = b.code ∧ a.sub = b.sub ∧ a.data = b.data ∧ a.caps = b.caps ∧ a.withdrawn = b.withdrawn ∧ a.attrs = b.attrs ∧ a.reach = b.reach := by
  cases a; cases b; simp only [PMsg.mk.injEq]
  constructor
  · rintro ⟨h1, h2, h3, h4, h5, h6, h7, h8, h9, h10, h11, h12⟩; exact ⟨h1, h2, h3, h4, h5, h10, h11, h12, h6, h7, h8, h9⟩
  · rintro ⟨h1, h2, h3, h4, h5, h6, h7, h8, h9, h10, h11, h12⟩; exact ⟨h1, h2, h3, h4, h5, h9, h10, h11, h12, h6, h7, h8⟩
end Go.AM.IR
set_option maxHeartbeats 4000000
set_option maxRecDepth 20000
namespace Go.AM.IR
attribute [local simp] pureLL_bytes
end Go.AM.IR
