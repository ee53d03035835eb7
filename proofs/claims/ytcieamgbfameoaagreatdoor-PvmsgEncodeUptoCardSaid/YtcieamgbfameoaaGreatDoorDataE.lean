/- What the functions of this program give, on the abstract machine. -/
import Derived.Test.YtcieamgbfameoaaGreatDoorDataC
import Derived.Test.YtcieamgbfameoaaGreatDoorDataD
import Derived.Test.YtcieamgbfameoaaGreatDoorDataB
import Derived.Test.YtcieamgbfameoaaGreatDoorMachineC
set_option linter.unusedVariables false
set_option linter.unusedSimpArgs false
set_option maxHeartbeats 4000000
set_option maxRecDepth 20000
namespace Go.AM.IR
theorem unk_loop66 (l : List TLV) (a : Attrs) (ha : a.unknown = l) (hv : ∀ t ∈ l, t.value.length < 2 ^ 40) (hl : l.length < 2 ^ 40) (ln : Int) (hln : ln = l.length) : ∀ (rest done : List TLV) (p : Option Int) (T : List (Nat × AV)) (H : Heap) (c : Nat) (n : Int) (e : l = done ++ rest) (hn : n = done.length) (hp : p = done.getLast?.map (·.kind)), Ev G ⟨f66x46LH, ⟨(121, .sl 2 (l.map TLV.enc)) :: (122, .int .i64 ln) :: (123, .int .i64 n) :: (1, .ref 65 1 0) :: T, (65, some (1, .cells a.enc)) :: H, c⟩, [.t 2], 0⟩ ⟨.int .i64 (unkC p rest), []⟩
  | [], done, p, T, H, c, n, e, hn, hp => by
    have hd : l.length = done.length := by simp [e]
    have hll : (l.map TLV.enc).length = l.length := by simp
    refine ev_loop' (W_ok 300 _ _ _ _ ?_)
    repeat' (first | refine stpA ?_ | (refine condS ?_ ?_ <;> intro h))
    all_goals try ((first | refine fin1 ?_ | refine fin0 ?_); first | rfl | (simp [unkC, Bool.cond_eq_ite, *]; done) | (simp [unkC, Bool.cond_eq_ite, *]; omega) | (unfold unkC; repeat' split; all_goals first | rfl | (exfalso; omega) | (simp_all; done) | (simp_all; omega)))
  | x :: r, done, p, T, H, c, n, e, hn, hp => by
    have hd : l.length = done.length + (r.length + 1) := by simp [e]
    have hll : (l.map TLV.enc).length = l.length := by simp
    have hx : (l.map TLV.enc)[n.toNat]? = some (TLV.enc x) := by simp [e, hn]
    subst ha
    have hxv : x.value.length < 2 ^ 40 := hv x (by simp [e])
    have hbl : (byteCells x.value).length = x.value.length := by simp [byteCells]
    rcases List.eq_nil_or_concat done with rfl | ⟨d, q, rfl⟩
    · obtain rfl : p = none := by simp [hp]
      simp only [List.length_nil] at hn hd
      refine ev_loop' (W_ok 300 _ _ _ _ ?_)
      repeat' (first | refine stpA ?_ | (refine condS ?_ ?_ <;> intro h))
      all_goals try ((first | refine fin1 ?_ | refine fin0 ?_); first | rfl | (simp [unkC, Bool.cond_eq_ite, *]; done) | (simp [unkC, Bool.cond_eq_ite, *]; omega) | (unfold unkC; repeat' split; all_goals first | rfl | (exfalso; omega) | (simp_all; done) | (simp_all; omega)))
      rw [show unkC none (x :: r) = unkC (some x.kind) r from by simp [unkC]; omega]
      refine ev_keep [121, 122, 123, 1] [65] ?_; exact unk_loop66 a.unknown a rfl hv hl ln hln r [x] (some x.kind) _ _ _ (n + 1) (by simp [e]) (by simp [hn]) (by simp)
    · obtain rfl : p = some q.kind := by simp [hp]
      simp only [List.concat_eq_append, List.length_append, List.length_singleton] at hn hd
      have hn1 : (n - 1).toNat = d.length := by omega
      have hy : (a.unknown.map TLV.enc)[(n - 1).toNat]? = some (TLV.enc q) := by rw [hn1, e]; simp
      refine ev_loop' (W_ok 300 _ _ _ _ ?_)
      repeat' (first | refine stpA ?_ | (refine condS ?_ ?_ <;> intro h))
      all_goals try ((first | refine fin1 ?_ | refine fin0 ?_); first | rfl | (simp [unkC, Bool.cond_eq_ite, *]; done) | (simp [unkC, Bool.cond_eq_ite, *]; omega) | (unfold unkC; repeat' split; all_goals first | rfl | (exfalso; omega) | (simp_all; done) | (simp_all; omega)))
      rw [show unkC (some q.kind) (x :: r) = unkC (some x.kind) r from by simp [unkC]; omega]
      refine ev_keep [121, 122, 123, 1] [65] ?_; exact unk_loop66 a.unknown a rfl hv hl ln hln r (d ++ [q] ++ [x]) (some x.kind) _ _ _ (n + 1) (by simp [e]) (by simp [hn] <;> omega) (by simp)
theorem cl_loop66 (l : List Int) (a : Attrs) (ha : a.clusters = l) (hu : a.unknown.length < 2 ^ 40) (hv : ∀ t ∈ a.unknown, t.value.length < 2 ^ 40) (hl : l.length < 2 ^ 40) (ln : Int) (hln : ln = l.length) : ∀ (rest done : List Int)  (T : List (Nat × AV)) (H : Heap) (c : Nat) (n : Int) (e : l = done ++ rest) (hn : n = done.length) , Ev G ⟨f66x33LH, ⟨(107, .sl 1 (l.map encU)) :: (108, .int .i64 ln) :: (109, .int .i64 n) :: (1, .ref 65 1 0) :: T, (65, some (1, .cells a.enc)) :: H, c⟩, [.t 2], 0⟩ ⟨.int .i64 (if clS rest = 0 then unknownE a.unknown else 1), []⟩
  | [], done,  T, H, c, n, e, hn => by
    have hd : l.length = done.length := by simp [e]
    have hll : (l.map encU).length = l.length := by simp
    have hul : (a.unknown.map TLV.enc).length = a.unknown.length := by simp
    rw [show (if clS [] = 0 then unknownE a.unknown else 1) = unknownE a.unknown from by simp [clS]]
    refine ev_loop' (W_ok 300 _ _ _ _ ?_)
    repeat' (first | refine stpA ?_ | (refine condS ?_ ?_ <;> intro h))
    all_goals try ((first | refine fin1 ?_ | refine fin0 ?_); first | rfl | (simp [unknownE, Bool.cond_eq_ite, *]; done) | (simp [unknownE, Bool.cond_eq_ite, *]; omega) | (unfold unknownE; repeat' split; all_goals first | rfl | (exfalso; omega) | (simp_all; done) | (simp_all; omega)))
    refine ev_keep [121, 122, 123, 1] [65] ?_
    rw [show unknownE a.unknown = unkC none a.unknown from by simp [unknownE]; omega]
    exact unk_loop66 a.unknown a rfl hv hu _ (by simp) a.unknown [] _ _ _ _ 0 rfl rfl rfl
  | x :: r, done,  T, H, c, n, e, hn => by
    have hd : l.length = done.length + (r.length + 1) := by simp [e]
    have hll : (l.map encU).length = l.length := by simp
    have hx : (l.map encU)[n.toNat]? = some (encU x) := by simp [e, hn]
    refine ev_loop' (W_ok 300 _ _ _ _ ?_)
    repeat' (first | refine stpA ?_ | (refine condS ?_ ?_ <;> intro h))
    all_goals try ((first | refine fin1 ?_ | refine fin0 ?_); first | rfl | (simp [clS, Bool.cond_eq_ite, *]; done) | (simp [clS, Bool.cond_eq_ite, *]; omega) | (unfold clS; repeat' split; all_goals first | rfl | (exfalso; omega) | (simp_all; done) | (simp_all; omega)))
    rw [show clS (x :: r) = clS r from by simp [clS, *]]
    refine ev_keep [107, 108, 109, 1] [65] ?_; exact cl_loop66 l a ha hu hv hl ln hln r (done ++ [x])  _ _ _ (n + 1) (by simp [e]) (by simp [hn] <;> omega)
theorem clS01 : ∀ l, clS l = 0 ∨ clS l = 1
  | [] => .inl rfl
  | x :: r => by
    rw [clS]
    split
    · exact .inr rfl
    · exact clS01 r
theorem firstS1 (x : Int) : firstS [x] = x := by
  simp only [firstS]; split <;> simp_all
theorem firstS0 (l : List Int) : firstS (0 :: l) = firstS l := by simp [firstS]
theorem checkS_last (a : Attrs) (h : (checkL a).take 9 = [0, 0, 0, 0, 0, 0, 0, 0, 0]) (hc : ¬ (((a.clusters.map encU).length : Int) > 64)) : checkS a = if clS a.clusters = 0 then unknownE a.unknown else 1 := by
  have e : checkL a = (checkL a).take 9 ++ [clustersE a.clusters, unknownE a.unknown] := rfl
  have hce : clustersE a.clusters = clS a.clusters := by unfold clustersE; rw [if_neg (by simp at hc; omega)]
  unfold checkS
  rw [e, h]
  simp only [List.cons_append, List.nil_append, firstS0, hce]
  rcases clS01 a.clusters with h | h
  · rw [h, firstS0, firstS1, if_pos rfl]
  · rw [h, if_neg (by omega)]; simp [firstS]
theorem orig0 {h : Bool} {x : Int} (q : h = (x != 0)) : origE h x = 0 := by
  subst q
  by_cases h : x = 0
  · simp [origE, h]
  · have e1 : (x != 0) = true := by simpa using h
    have e2 : (x == 0) = false := by simpa using h
    rw [origE, e1, e2]; rfl
theorem orig1 {h : Bool} {x : Int} (q : ¬ h = (x != 0)) : origE h x = 1 := by
  by_cases e : x = 0 <;> cases h <;> simp_all [origE]
theorem check_gives66 (a : Attrs) (h : LenB a) : Gives G 66 [.agg a.enc] [] ⟨.int .i64 (checkS a), []⟩ := by
  obtain ⟨h1, h2, h3, h4, h5, h6⟩ := h
  have hcl : (a.clusters.map encU).length = a.clusters.length := by simp
  refine gives_code (F := f66) rfl rfl (W_ok 300 _ _ _ _ ?_)
  repeat' (first | refine stpA ?_ | refine kV (word_gives81 _) ?_ | refine kV (check_gives80 a.path h1 h2) ?_ | refine kV (comm_gives82 a.comms h3) ?_ | (refine condS ?_ ?_ <;> intro h))
  all_goals try (have hN : a.clusters.length > 64 := by omega)
  all_goals try (rename (a.hasOrig = (a.orig != 0)) => hq; replace hq := orig0 hq)
  all_goals try (rename (¬ a.hasOrig = (a.orig != 0)) => hq; replace hq := orig1 hq)
  all_goals try ((first | refine fin1 ?_ | refine fin0 ?_); first | rfl | (simp [checkS, checkL, firstS, optE, clustersE, Bool.cond_eq_ite, *]; done) | (simp [checkS, checkL, firstS, optE, clustersE, Bool.cond_eq_ite, *]; omega) | (unfold checkS checkL firstS optE clustersE; repeat' split; all_goals first | rfl | (exfalso; omega) | (simp_all; done) | (simp_all; omega)))
  all_goals (rw [checkS_last a (by simp [checkL, optE, *]) (by assumption)]; refine ev_keep [107, 108, 109, 1] [65] ?_; exact cl_loop66 a.clusters a rfl h5 h6 h4 _ (by simp) a.clusters [] _ _ _ 0 rfl rfl)
end Go.AM.IR
set_option maxHeartbeats 4000000
set_option maxRecDepth 20000
namespace Go.AM.IR
attribute [local simp] pureLL_bytes
def openX (m : PMsg) : Int :=
  if m.version ≠ 4 then 12 else if m.as < 1 ∨ m.as > 4294967295 then 5 else if m.hold ≠ 0 ∧ (m.hold < 3 ∨ m.hold > 65535) then 21 else if m.router = 0 then 1 else capsE m.as none 0 false m.caps
theorem open_gives158 (m : PMsg) (h : LenO m) : Gives G 158 [.agg m.enc] [] ⟨.int .i64 (openX m), []⟩ := by
  have hc := caps_gives170 m h.len.caps h.capT
  generalize hce : capsE m.as none 0 false m.caps = ce at hc
  refine gives_code (F := f158) rfl rfl (W_ok 300 _ _ _ _ ?_)
  repeat' (first | refine stpA ?_ | (refine condS ?_ ?_ <;> intro h))
  all_goals try ((first | refine fin1 ?_ | refine fin0 ?_); first | rfl | (simp [openX, Bool.cond_eq_ite, *]; done) | (simp [openX, Bool.cond_eq_ite, *]; omega) | (unfold openX; repeat' split; all_goals first | rfl | (exfalso; omega) | (simp_all; done) | (simp_all; omega)))
theorem open_gives161 (m : PMsg) (h : LenO m) : Gives G 161 [.agg m.enc] [] ⟨.int .i64 (openX m), []⟩ := by
  have hc := caps_gives173 m h.len.caps h.capT
  generalize hce : capsE m.as none 0 false m.caps = ce at hc
  refine gives_code (F := f161) rfl rfl (W_ok 300 _ _ _ _ ?_)
  repeat' (first | refine stpA ?_ | refine kV (hc (by omega) (by omega)) ?_ | (refine condS ?_ ?_ <;> intro h))
  all_goals try ((first | refine fin1 ?_ | refine fin0 ?_); first | rfl | (simp [openX, Bool.cond_eq_ite, *]; done) | (simp [openX, Bool.cond_eq_ite, *]; omega) | (unfold openX; repeat' split; all_goals first | rfl | (exfalso; omega) | (simp_all; done) | (simp_all; omega)))
def usedU (m : PMsg) : PMsg := { zeroM with kind := m.kind, withdrawn := m.withdrawn, attrs := m.attrs, reach := m.reach }
def usedN (m : PMsg) : PMsg := { zeroM with kind := m.kind, code := m.code, sub := m.sub, data := m.data }
def usedZ (m : PMsg) : PMsg := { zeroM with kind := m.kind }
def usedM (m : PMsg) : PMsg := if m.kind = 1 then usedO m else if m.kind = 2 then usedU m else if m.kind = 3 then usedN m else usedZ m
theorem used_all157 (m : PMsg) : Gives G 157 [.agg m.enc] [] ⟨.agg (usedM m).enc, []⟩ := by
  by_cases h1 : m.kind = 1
  · rw [usedM, if_pos h1]; exact used_gives157 m h1
  · by_cases h2 : m.kind = 2
    · rw [usedM, if_neg h1, if_pos h2]
      refine gives_code (F := f157) rfl rfl (W_ok 300 _ _ _ _ ?_)
      repeat' (first | refine stpA ?_ | (refine condS ?_ ?_ <;> intro h))
      refine ev_le [] [(66, some (_, .cells ((usedU m).enc)))] trivial ⟨⟨rfl, (by repeat' (first | exact trivial | exact LeP.refl _ | exact LeP.nil _ | refine LeP.sl ?_ | refine ⟨?_, ?_⟩))⟩, trivial⟩ ?_
      (first | refine fin1 ?_ | refine fin0 ?_); (conv => whnf); refine Go.AM.finC ?_
      rfl
    · by_cases h3 : m.kind = 3
      · rw [usedM, if_neg h1, if_neg h2, if_pos h3]
        refine gives_code (F := f157) rfl rfl (W_ok 300 _ _ _ _ ?_)
        repeat' (first | refine stpA ?_ | (refine condS ?_ ?_ <;> intro h))
        refine ev_le [] [(66, some (_, .cells ((usedN m).enc)))] trivial ⟨⟨rfl, (by repeat' (first | exact trivial | exact LeP.refl _ | exact LeP.nil _ | refine LeP.sl ?_ | refine ⟨?_, ?_⟩))⟩, trivial⟩ ?_
        (first | refine fin1 ?_ | refine fin0 ?_); (conv => whnf); refine Go.AM.finC ?_
        rfl
      · rw [usedM, if_neg h1, if_neg h2, if_neg h3]
        refine gives_code (F := f157) rfl rfl (W_ok 300 _ _ _ _ ?_)
        repeat' (first | refine stpA ?_ | (refine condS ?_ ?_ <;> intro h))
        refine ev_le [] [(66, some (_, .cells ((usedZ m).enc)))] trivial ⟨⟨rfl, (by repeat' (first | exact trivial | exact LeP.refl _ | exact LeP.nil _ | refine LeP.sl ?_ | refine ⟨?_, ?_⟩))⟩, trivial⟩ ?_
        (first | refine fin1 ?_ | refine fin0 ?_); (conv => whnf); refine Go.AM.finC ?_
        rfl
theorem lenM_usedM (m : PMsg) (h : LenM m) : LenM (usedM m) := by
  unfold usedM
  repeat' split
  · exact ⟨h.caps, by simp [usedO, zeroM], by simp [usedO, zeroM], lenC_zero⟩
  · exact ⟨by simp [usedU, zeroM], h.withdrawn, h.reach, h.attrs⟩
  · exact ⟨by simp [usedN, zeroM], by simp [usedN, zeroM], by simp [usedN, zeroM], lenC_zero⟩
  · exact ⟨by simp [usedZ, zeroM], by simp [usedZ, zeroM], by simp [usedZ, zeroM], lenC_zero⟩
theorem used_eq (m : PMsg) : decide (m = usedM m) = unusedS m := by
  have ho : unO m = decide (m.version = 0 ∧ m.as = 0 ∧ m.hold = 0 ∧ m.router = 0 ∧ m.caps = []) := by simp [unO]
  have hu : unU m = decide (m.withdrawn = [] ∧ m.reach = [] ∧ m.attrs = zeroA) := by simp [unU]
  have hn : unN m = decide (m.code = 0 ∧ m.sub = 0 ∧ m.data = []) := by simp [unN]
  rw [Bool.eq_iff_iff, decide_eq_true_eq, PMsg.eq_iff, unusedS, ho, hu, hn]
  simp only [Bool.and_eq_true, Bool.or_eq_true, decide_eq_true_eq]
  by_cases h1 : m.kind = 1
  · rw [usedM, if_pos h1]
    simp only [usedO, zeroM, h1, true_and, or_true]
    constructor
    · rintro ⟨q1, q2, q3, q4, q5, q6⟩; exact ⟨Or.inl ⟨q4, q6, q5⟩, Or.inl ⟨q1, q2, q3⟩⟩
    · rintro ⟨q1 | q1, q2 | q2⟩
      · exact ⟨q2.1, q2.2.1, q2.2.2, q1.1, q1.2.2, q1.2.1⟩
      all_goals (exfalso; omega)
  · by_cases h2 : m.kind = 2
    · rw [usedM, if_neg h1, if_pos h2]
      simp only [usedU, zeroM, h2, true_and, or_true, and_true]
      constructor
      · rintro ⟨q1, q2, q3, q4, q5, q6, q7, q8⟩; exact ⟨Or.inl ⟨q1, q2, q3, q4, q8⟩, Or.inl ⟨q5, q6, q7⟩⟩
      · rintro ⟨q1 | q1, q2 | q2⟩
        · exact ⟨q1.1, q1.2.1, q1.2.2.1, q1.2.2.2.1, q2.1, q2.2.1, q2.2.2, q1.2.2.2.2⟩
        all_goals (exfalso; omega)
    · by_cases h3 : m.kind = 3
      · rw [usedM, if_neg h1, if_neg h2, if_pos h3]
        simp only [usedN, zeroM, h3, true_and, or_true, and_true]
        constructor
        · rintro ⟨q1, q2, q3, q4, q5, q6, q7, q8⟩; exact ⟨Or.inl ⟨q1, q2, q3, q4, q5⟩, Or.inl ⟨q6, q8, q7⟩⟩
        · rintro ⟨q1 | q1, q2 | q2⟩
          · exact ⟨q1.1, q1.2.1, q1.2.2.1, q1.2.2.2.1, q1.2.2.2.2, q2.1, q2.2.2, q2.2.1⟩
          all_goals (exfalso; omega)
      · rw [usedM, if_neg h1, if_neg h2, if_neg h3]
        simp only [usedZ, zeroM, true_and, h1, h2, h3, or_false]
        constructor
        · rintro ⟨q1, q2, q3, q4, q5, q6, q7, q8, q9, q10, q11⟩; exact ⟨⟨⟨q1, q2, q3, q4, q8⟩, ⟨q9, q11, q10⟩⟩, ⟨q5, q6, q7⟩⟩
        · rintro ⟨⟨⟨q1, q2, q3, q4, q8⟩, ⟨q9, q11, q10⟩⟩, ⟨q5, q6, q7⟩⟩; exact ⟨q1, q2, q3, q4, q5, q6, q7, q8, q9, q10, q11⟩
theorem upd_gives162 (m : PMsg) (hm : LenM m) (hb : LenB m.attrs) (ho : m.okP) : Gives G 162 [.agg m.enc] [] ⟨.int .i64 (updE m), []⟩ := by
  have p1 := pfx_gives174 m.withdrawn hm.withdrawn ho.withdrawn
  have p2 := pfx_gives174 m.reach hm.reach ho.reach
  have cm := com_gives175 m.withdrawn m.reach hm.withdrawn hm.reach
  have ck := check_gives66 m.attrs hb
  have sz := sameZ_gives70 m.attrs hm.attrs
  unfold lzA nilV at sz
  have hl2 : (m.reach.map Pfx.enc).length = m.reach.length := by simp
  by_cases h1 : pfxE none m.withdrawn = 0
  · by_cases h2 : pfxE none m.reach = 0
    · rw [h1] at p1; rw [h2] at p2
      rw [show updE m = (if comS m.withdrawn m.reach = true then 7 else tailU m) from by unfold updE; rw [if_neg (by simp [h1]), if_neg (by simp [h2])]]
      cases hcm : comS m.withdrawn m.reach
      · rw [hcm] at cm
        rw [if_neg (by simp)]
        by_cases h0 : m.reach.length > 0
        · have h1 : ((m.reach.map Pfx.enc).length : Int) > 0 := by rw [hl2]; omega
          refine gives_code (F := f162) rfl rfl (W_ok 300 _ _ _ _ ?_)
          repeat' (first | refine stpA ?_ | (refine condS ?_ ?_ <;> intro h))
          (first | refine fin1 ?_ | refine fin0 ?_); simp [tailU, h0]
        · have h1 : ¬ ((m.reach.map Pfx.enc).length : Int) > 0 := by rw [hl2]; omega
          by_cases h2 : m.attrs = zeroA
          · rw [show decide (m.attrs = zeroA) = true from by simp [h2]] at sz
            refine gives_code (F := f162) rfl rfl (W_ok 300 _ _ _ _ ?_)
            repeat' (first | refine stpA ?_ | (refine condS ?_ ?_ <;> intro h))
            (first | refine fin1 ?_ | refine fin0 ?_); simp [tailU, h0, h2]
          · rw [show decide (m.attrs = zeroA) = false from by simp [h2]] at sz
            refine gives_code (F := f162) rfl rfl (W_ok 300 _ _ _ _ ?_)
            repeat' (first | refine stpA ?_ | (refine condS ?_ ?_ <;> intro h))
            (first | refine fin1 ?_ | refine fin0 ?_); simp [tailU, h0, h2]
      · rw [hcm] at cm
        rw [if_pos rfl]
        refine gives_code (F := f162) rfl rfl (W_ok 300 _ _ _ _ ?_)
        repeat' (first | refine stpA ?_ | (refine condS ?_ ?_ <;> intro h))
        (first | refine fin1 ?_ | refine fin0 ?_); rfl
    · rw [h1] at p1
      rw [show updE m = pfxE none m.reach from by simp [updE, h1, h2]]
      generalize pfxE none m.reach = v at *
      refine gives_code (F := f162) rfl rfl (W_ok 300 _ _ _ _ ?_)
      repeat' (first | refine stpA ?_ | (refine condS ?_ ?_ <;> intro h))
      (first | refine fin1 ?_ | refine fin0 ?_); rfl
  · rw [show updE m = pfxE none m.withdrawn from by simp [updE, h1]]
    generalize pfxE none m.withdrawn = v at *
    refine gives_code (F := f162) rfl rfl (W_ok 300 _ _ _ _ ?_)
    repeat' (first | refine stpA ?_ | (refine condS ?_ ?_ <;> intro h))
    (first | refine fin1 ?_ | refine fin0 ?_); rfl
def noteE (m : PMsg) : Int := if m.code < 1 ∨ m.code > 6 ∨ m.sub < 0 ∨ m.sub > 255 then 5 else if (m.data.length : Int) > 65514 then 4 else 0
def checkM (m : PMsg) : Int :=
  if m.kind < 1 ∨ m.kind > 5 then 15 else if unusedS m = false then 1 else if m.kind = 1 then openX m else if m.kind = 2 then updE m else if m.kind = 3 then noteE m else 0
theorem check_gives144 (m : PMsg) (h : LenO m) (hb : LenB m.attrs) (ho : m.okP) : Gives G 144 [.agg m.enc] [] ⟨.int .i64 (checkM m), []⟩ := by
  have h1 := used_all157 m
  have h2 := same_gives156 m (usedM m) h.len (lenM_usedM m h.len)
  rw [used_eq m] at h2
  have h3 := open_gives158 m h
  have h4 := upd_gives159 m h.len hb ho
  have hbl := byteCells_length m.data
  unfold checkM noteE
  generalize openX m = oe at *
  generalize updE m = ue at *
  generalize hon : unusedS m = b at *
  by_cases k0 : m.kind < 1 ∨ m.kind > 5
  · rw [if_pos k0]
    refine gives_code (F := f144) rfl rfl (W_ok 300 _ _ _ _ ?_)
    repeat' (first | refine stpA ?_ | (refine condS ?_ ?_ <;> intro h))
    all_goals ((first | refine fin1 ?_ | refine fin0 ?_); first | rfl | (exfalso; omega))
  · rw [if_neg k0]
    have k1 : ¬ m.kind < 1 := by omega
    have k2 : ¬ m.kind > 5 := by omega
    cases b
    · rw [if_pos rfl]
      refine gives_code (F := f144) rfl rfl (W_ok 300 _ _ _ _ ?_)
      repeat' (first | refine stpA ?_ | (refine condS ?_ ?_ <;> intro h))
      (first | refine fin1 ?_ | refine fin0 ?_); rfl
    · rw [if_neg (by simp)]
      by_cases e1 : m.kind = 1
      · rw [if_pos e1]
        refine gives_code (F := f144) rfl rfl (W_ok 300 _ _ _ _ ?_)
        repeat' (first | refine stpA ?_ | (refine condS ?_ ?_ <;> intro h))
        (first | refine fin1 ?_ | refine fin0 ?_); rfl
      · by_cases e2 : m.kind = 2
        · rw [if_neg e1, if_pos e2]
          refine gives_code (F := f144) rfl rfl (W_ok 300 _ _ _ _ ?_)
          repeat' (first | refine stpA ?_ | (refine condS ?_ ?_ <;> intro h))
          (first | refine fin1 ?_ | refine fin0 ?_); rfl
        · rw [if_neg e1, if_neg e2]
          by_cases e3 : m.kind = 3
          · rw [if_pos e3]
            refine gives_code (F := f144) rfl rfl (W_ok 300 _ _ _ _ ?_)
            repeat' (first | refine stpA ?_ | (refine condS ?_ ?_ <;> intro h))
            all_goals (try simp only [hbl] at *)
            all_goals (try (first | refine fin1 ?_ | refine fin0 ?_))
            all_goals first | rfl | (rw [if_pos (by omega)]) | (rw [if_neg (by omega), if_pos (by omega)]) | (rw [if_neg (by omega), if_neg (by omega)])
          · rw [if_neg e3]
            refine gives_code (F := f144) rfl rfl (W_ok 300 _ _ _ _ ?_)
            repeat' (first | refine stpA ?_ | (refine condS ?_ ?_ <;> intro h))
            (first | refine fin1 ?_ | refine fin0 ?_); rfl
theorem check_gives148 (m : PMsg) (h : LenO m) (hb : LenB m.attrs) (ho : m.okP) : Gives G 148 [.agg m.enc] [] ⟨.int .i64 (checkM m), []⟩ := by
  have h2 := unused_gives160 m h.len
  have h3 := open_gives161 m h
  have h4 := upd_gives162 m h.len hb ho
  have hbl := byteCells_length m.data
  unfold checkM noteE
  generalize openX m = oe at *
  generalize updE m = ue at *
  generalize hon : unusedS m = b at *
  by_cases k0 : m.kind < 1 ∨ m.kind > 5
  · rw [if_pos k0]
    refine gives_code (F := f148) rfl rfl (W_ok 300 _ _ _ _ ?_)
    repeat' (first | refine stpA ?_ | (refine condS ?_ ?_ <;> intro h))
    all_goals ((first | refine fin1 ?_ | refine fin0 ?_); first | rfl | (exfalso; omega))
  · rw [if_neg k0]
    have k1 : ¬ m.kind < 1 := by omega
    have k2 : ¬ m.kind > 5 := by omega
    cases b
    · rw [if_pos rfl]
      refine gives_code (F := f148) rfl rfl (W_ok 300 _ _ _ _ ?_)
      repeat' (first | refine stpA ?_ | (refine condS ?_ ?_ <;> intro h))
      (first | refine fin1 ?_ | refine fin0 ?_); rfl
    · rw [if_neg (by simp)]
      by_cases e1 : m.kind = 1
      · rw [if_pos e1]
        refine gives_code (F := f148) rfl rfl (W_ok 300 _ _ _ _ ?_)
        repeat' (first | refine stpA ?_ | (refine condS ?_ ?_ <;> intro h))
        (first | refine fin1 ?_ | refine fin0 ?_); rfl
      · by_cases e2 : m.kind = 2
        · rw [if_neg e1, if_pos e2]
          refine gives_code (F := f148) rfl rfl (W_ok 300 _ _ _ _ ?_)
          repeat' (first | refine stpA ?_ | (refine condS ?_ ?_ <;> intro h))
          (first | refine fin1 ?_ | refine fin0 ?_); rfl
        · rw [if_neg e1, if_neg e2]
          by_cases e3 : m.kind = 3
          · rw [if_pos e3]
            refine gives_code (F := f148) rfl rfl (W_ok 300 _ _ _ _ ?_)
            repeat' (first | refine stpA ?_ | (refine condS ?_ ?_ <;> intro h))
            all_goals (try simp only [hbl] at *)
            all_goals (try (first | refine fin1 ?_ | refine fin0 ?_))
            all_goals first | rfl | (rw [if_pos (by omega)]) | (rw [if_neg (by omega), if_pos (by omega)]) | (rw [if_neg (by omega), if_neg (by omega)])
          · rw [if_neg e3]
            refine gives_code (F := f148) rfl rfl (W_ok 300 _ _ _ _ ?_)
            repeat' (first | refine stpA ?_ | (refine condS ?_ ?_ <;> intro h))
            (first | refine fin1 ?_ | refine fin0 ?_); rfl
end Go.AM.IR
set_option maxHeartbeats 4000000
set_option maxRecDepth 20000
namespace Go.AM.IR
def len8 (n : Int) : Nat := (n.toNat + 7) / 8
def pack1 (p : Pfx) : List UInt8 := UInt8.ofNat p.len.toNat :: be (len8 p.len) (p.addr.toNat / 256 ^ (4 - len8 p.len))
def packP (l : List Pfx) : List UInt8 := l.flatMap pack1
theorem be_take (x k : Nat) (hk : k ≤ 4) : (be 4 x).take k = be k (x / 256 ^ (4 - k)) := by
  have h : k = 0 ∨ k = 1 ∨ k = 2 ∨ k = 3 ∨ k = 4 := by omega
  rcases h with rfl | rfl | rfl | rfl | rfl <;> simp [be, Nat.div_div_eq_div_mul]
theorem len8_le {n : Int} (h : n ≤ 32) : len8 n ≤ 4 := by unfold len8; omega
theorem pack1_length (p : Pfx) : (pack1 p).length = 1 + len8 p.len := by simp [pack1]; omega
theorem packP_length {l : List Pfx} (h : ∀ p ∈ l, p.len ≤ 32) : (packP l).length ≤ 5 * l.length := by
  induction l with
  | nil => simp [packP]
  | cons p l ih =>
    have := ih (fun q hq => h q (by simp [hq]))
    have h1 := pack1_length p
    have h2 := len8_le (h p (by simp))
    simp only [packP, List.flatMap_cons, List.length_append, List.length_cons] at *
    omega
theorem valid_mul {p : Pfx} (h : p.ok) (v : validP p = true) : 0 ≤ p.len ∧ p.len ≤ 32 ∧ p.addr.toNat = p.addr.toNat / 256 ^ (4 - len8 p.len) * 256 ^ (4 - len8 p.len) ∧ p.addr.toNat < 4294967296 := by
  unfold validP at v
  rw [decide_eq_true_eq] at v
  obtain ⟨a, b, c⟩ := v
  have ha := h.addr
  unfold okU at ha
  refine ⟨a, b, ?_, by omega⟩
  have hd : 256 ^ (4 - len8 p.len) ∣ 2 ^ (32 - p.len.toNat) := by
    rw [show (256 : Nat) = 2 ^ 8 from rfl, ← Nat.pow_mul]
    exact Nat.pow_dvd_pow 2 (by unfold len8; omega)
  have hx : p.addr.toNat = keepN p.addr.toNat p.len.toNat := by omega
  have hdv : 256 ^ (4 - len8 p.len) ∣ p.addr.toNat := by
    rw [hx]; unfold keepN
    exact Nat.dvd_trans hd (Nat.dvd_mul_left _ _)
  exact (Nat.div_mul_cancel hdv).symm
end Go.AM.IR
set_option maxHeartbeats 4000000
set_option maxRecDepth 20000
namespace Go.AM.IR
theorem pfx_valid : ∀ (l : List Pfx) (p : Option Pfx), pfxE p l = 0 → ∀ x ∈ l, validP x = true
  | [], _, _ => by simp
  | x :: r, p, h => by
    unfold pfxE at h
    split at h
    · cases h
    · rename_i hv
      split at h
      · cases h
      · intro y hy
        rcases List.mem_cons.1 hy with rfl | hy
        · simpa using hv
        · exact pfx_valid r _ h y hy
theorem caps_valid (as : Int) : ∀ (l : List Cap) (p : Option Int) (n : Int) (w : Bool), capsE as p n w l = 0 → (∀ c ∈ l, 1 ≤ c.code ∧ c.code ≤ 255) ∧ n + capT l ≤ 253
  | [], p, n, w, h => by
    unfold capsE at h
    split at h
    · cases h
    · refine ⟨by simp, ?_⟩
      simp only [capT]; omega
  | c :: r, p, n, w, h => by
    unfold capsE at h
    split at h
    · cases h
    · split at h
      · cases h
      · split at h
        · cases h
        · split at h
          · cases h
          · obtain ⟨h1, h2⟩ := caps_valid as r _ _ _ h
            refine ⟨fun x hx => ?_, by simp only [capT]; omega⟩
            rcases List.mem_cons.1 hx with rfl | hx
            · omega
            · exact h1 x hx
theorem capT_mem : ∀ {l : List Cap} {c : Cap}, c ∈ l → (c.value.length : Int) + 2 ≤ capT l
  | x :: r, c, h => by
    have hn := capT_nonneg r
    rcases List.mem_cons.1 h with rfl | h
    · simp only [capT]; omega
    · have := capT_mem h; simp only [capT]; omega
structure OpenOk (m : PMsg) : Prop where
  version : m.version = 4
  as : 1 ≤ m.as ∧ m.as ≤ 4294967295
  hold : 0 ≤ m.hold ∧ m.hold ≤ 65535
  caps : (∀ c ∈ m.caps, 1 ≤ c.code ∧ c.code ≤ 255) ∧ capT m.caps ≤ 253
  rest : m.withdrawn = [] ∧ m.reach = [] ∧ m.attrs = zeroA ∧ m.code = 0 ∧ m.sub = 0 ∧ m.data = []
theorem check_parts {m : PMsg} (h : checkM m = 0) : 1 ≤ m.kind ∧ m.kind ≤ 5 ∧ unusedS m = true ∧ (m.kind = 1 → openX m = 0) ∧ (m.kind = 2 → updE m = 0) ∧ (m.kind = 3 → noteE m = 0) := by
  unfold checkM at h
  split at h
  · cases h
  · split at h
    · cases h
    · rename_i h1 h2
      refine ⟨by omega, by omega, by simpa using h2, fun hk => ?_, fun hk => ?_, fun hk => ?_⟩
      · rw [if_pos hk] at h; exact h
      · rw [if_neg (by omega), if_pos hk] at h; exact h
      · rw [if_neg (by omega), if_neg (by omega), if_pos hk] at h; exact h
theorem unO_iff (m : PMsg) : unO m = true ↔ m.version = 0 ∧ m.as = 0 ∧ m.hold = 0 ∧ m.router = 0 ∧ m.caps = [] := by simp [unO]
theorem unU_iff (m : PMsg) : unU m = true ↔ m.withdrawn = [] ∧ m.reach = [] ∧ m.attrs = zeroA := by simp [unU]
theorem unN_iff (m : PMsg) : unN m = true ↔ m.code = 0 ∧ m.sub = 0 ∧ m.data = [] := by simp [unN]
theorem unused_iff (m : PMsg) : unusedS m = true ↔ (unO m = true ∨ m.kind = 1) ∧ (unU m = true ∨ m.kind = 2) ∧ (unN m = true ∨ m.kind = 3) := by
  simp only [unusedS, Bool.and_eq_true, Bool.or_eq_true, decide_eq_true_eq, and_assoc]
theorem open_ok {m : PMsg} (h : checkM m = 0) (hk : m.kind = 1) : OpenOk m := by
  obtain ⟨_, _, hu, ho, _⟩ := check_parts h
  obtain ⟨_, u2, u3⟩ := (unused_iff m).1 hu
  have u2 := (unU_iff m).1 (u2.resolve_right (by omega))
  have u3 := (unN_iff m).1 (u3.resolve_right (by omega))
  have ho := ho hk
  unfold openX at ho
  split at ho
  · cases ho
  · split at ho
    · cases ho
    · split at ho
      · cases ho
      · split at ho
        · cases ho
        · obtain ⟨c1, c2⟩ := caps_valid _ _ _ _ _ ho
          exact ⟨by omega, by omega, by omega, ⟨c1, by omega⟩, u2.1, u2.2.1, u2.2.2, u3.1, u3.2.1, u3.2.2⟩
structure UpdOk (m : PMsg) : Prop where
  withdrawn : ∀ p ∈ m.withdrawn, validP p = true
  reach : ∀ p ∈ m.reach, validP p = true
  attrs : m.reach ≠ [] → checkS m.attrs = 0
  zero : m.reach = [] → m.attrs = zeroA
  rest : m.version = 0 ∧ m.as = 0 ∧ m.hold = 0 ∧ m.router = 0 ∧ m.caps = [] ∧ m.code = 0 ∧ m.sub = 0 ∧ m.data = []
theorem upd_ok {m : PMsg} (h : checkM m = 0) (hk : m.kind = 2) : UpdOk m := by
  obtain ⟨_, _, hu, _, ho, _⟩ := check_parts h
  obtain ⟨u1, _, u3⟩ := (unused_iff m).1 hu
  have u1 := (unO_iff m).1 (u1.resolve_right (by omega))
  have u3 := (unN_iff m).1 (u3.resolve_right (by omega))
  have ho := ho hk
  have h1 : pfxE none m.withdrawn = 0 := by
    by_cases q : pfxE none m.withdrawn = 0
    · exact q
    · unfold updE at ho; rw [if_pos q] at ho; exact ho
  have h2 : pfxE none m.reach = 0 := by
    by_cases q : pfxE none m.reach = 0
    · exact q
    · unfold updE at ho; rw [if_neg (by simp [h1]), if_pos q] at ho; exact ho
  have h3 : tailU m = 0 := by
    unfold updE at ho; rw [if_neg (by simp [h1]), if_neg (by simp [h2])] at ho
    split at ho
    · cases ho
    · exact ho
  refine ⟨pfx_valid _ _ h1, pfx_valid _ _ h2, fun hr => ?_, fun hr => ?_, u1.1, u1.2.1, u1.2.2.1, u1.2.2.2.1, u1.2.2.2.2, u3.1, u3.2.1, u3.2.2⟩
  · unfold tailU at h3
    rw [if_pos (List.length_pos_iff.2 hr)] at h3; exact h3
  · unfold tailU at h3
    rw [if_neg (by simp [hr])] at h3
    split at h3
    · assumption
    · cases h3
structure NoteOk (m : PMsg) : Prop where
  code : 1 ≤ m.code ∧ m.code ≤ 6
  sub : 0 ≤ m.sub ∧ m.sub ≤ 255
  data : m.data.length ≤ 65514
  rest : m.version = 0 ∧ m.as = 0 ∧ m.hold = 0 ∧ m.router = 0 ∧ m.caps = [] ∧ m.withdrawn = [] ∧ m.reach = [] ∧ m.attrs = zeroA
theorem note_ok {m : PMsg} (h : checkM m = 0) (hk : m.kind = 3) : NoteOk m := by
  obtain ⟨_, _, hu, _, _, ho⟩ := check_parts h
  obtain ⟨u1, u2, _⟩ := (unused_iff m).1 hu
  have u1 := (unO_iff m).1 (u1.resolve_right (by omega))
  have u2 := (unU_iff m).1 (u2.resolve_right (by omega))
  have ho := ho hk
  unfold noteE at ho
  split at ho
  · cases ho
  · split at ho
    · cases ho
    · exact ⟨by omega, by omega, by omega, u1.1, u1.2.1, u1.2.2.1, u1.2.2.2.1, u1.2.2.2.2, u2.1, u2.2.1, u2.2.2⟩
end Go.AM.IR
set_option maxHeartbeats 4000000
set_option maxRecDepth 20000
namespace Go.AM.IR
def asB (w : Nat) (l : List Int) : List UInt8 := l.flatMap fun n => be w n.toNat
def segB (w : Nat) (s : Seg) : List UInt8 := UInt8.ofNat s.kind.toNat :: UInt8.ofNat s.as.length :: asB w s.as
def pathB (w : Nat) (p : List Seg) : List UInt8 := p.flatMap (segB w)
def badL (wide bad : Bool) (l : List Int) : Bool := l.foldl (badN wide) bad
def badP (wide bad : Bool) (p : List Seg) : Bool := p.foldl (fun b s => badL wide b s.as) bad
theorem asB_length (w : Nat) : ∀ l : List Int, (asB w l).length = w * l.length
  | [] => rfl
  | x :: r => by
    have := asB_length w r
    simp only [asB, List.flatMap_cons, List.length_append, be_length, List.length_cons, Nat.mul_add] at this ⊢
    omega
theorem u8_int {k : Int} (h : 0 ≤ k) (h2 : k ≤ 255) : ((UInt8.ofNat k.toNat).toNat : Int) = k := by simp; omega
theorem u8_nat {k : Nat} (h2 : k ≤ 255) : ((UInt8.ofNat k).toNat : Int) = k := by simp; omega
theorem wd_le (wide : Bool) : wd wide ≤ 4 := by unfold wd; split <;> omega
theorem wd_mul (wide : Bool) (n : Nat) : wd wide * n ≤ 4 * n := Nat.mul_le_mul_right _ (wd_le wide)
theorem as_loop84 (l : List Int) (p : List Seg) (lp i : Int) (wide : Bool) (b : List UInt8) (acc0 : List UInt8) (bd0 : Bool) (R : Ret) (h0 : ∀ x ∈ l, 0 ≤ x ∧ x < 2 ^ 63) (hB : acc0.length + 4 * l.length < 2 ^ 40) (h1 : 0 ≤ i) (h2 : i < 2 ^ 40) (go : ∀ (T : List (Nat × AV)) (H : Heap) (c g m : Nat) (es : List (List AV)) (bd : Bool), m = (acc0 ++ asB (wd wide) l).length → es = byteCells (acc0 ++ asB (wd wide) l) → bd = badL wide bd0 l → Ev G ⟨f84x13LH, ⟨(10, .sl 2 (p.map Seg.enc)) :: (11, .int .i64 lp) :: (12, .int .i64 (i + 1)) :: (0, .ref 0 0 0) :: (5, .vs 69 g m) :: T, (0, some (0, .cells [.vs 1 0 b.length, .bool wide, .bool bd])) :: (1, some (0, .vec 1 (byteCells b))) :: (69, some (g, .vec 1 es)) :: H, c⟩, [.t 4], 2⟩ R) (hl : l.length < 2 ^ 40) (ln : Int) (hln : ln = l.length) : ∀ (rest done : List Int) (g m : Nat) (es : List (List AV)) (bd : Bool) (T : List (Nat × AV)) (H : Heap) (c : Nat) (n : Int) (e : l = done ++ rest) (hn : n = done.length) (hm : m = (acc0 ++ asB (wd wide) done).length) (hes : es = byteCells (acc0 ++ asB (wd wide) done)) (hbd : bd = badL wide bd0 done), Ev G ⟨f84x11LH, ⟨(27, .sl 1 (l.map encI)) :: (28, .int .i64 ln) :: (29, .int .i64 n) :: (10, .sl 2 (p.map Seg.enc)) :: (11, .int .i64 lp) :: (12, .int .i64 i) :: (0, .ref 0 0 0) :: (5, .vs 69 g m) :: T, (0, some (0, .cells [.vs 1 0 b.length, .bool wide, .bool bd])) :: (1, some (0, .vec 1 (byteCells b))) :: (69, some (g, .vec 1 es)) :: H, c⟩, [.t 4], 2⟩ R
  | [], done, g, m, es, bd, T, H, c, n, e, hn, hm, hes, hbd => by
    have hd : l.length = done.length := by simp [e]
    have hll : (l.map encI).length = l.length := by simp
    obtain rfl : l = done := by simpa using e
    refine ev_loop' (W_ok 300 _ _ _ _ ?_)
    repeat' (first | refine stpA ?_ | (refine condS ?_ ?_ <;> intro h))
    refine ev_keep [10, 11, 12, 0, 5] [0, 1, 69] ?_
    exact go _ _ _ g m es bd hm hes hbd
  | x :: r, done, g, m, es, bd, T, H, c, n, e, hn, hm, hes, hbd => by
    have hd : l.length = done.length + (r.length + 1) := by simp [e]
    have hll : (l.map encI).length = l.length := by simp
    have hx : (l.map encI)[n.toNat]? = some (encI x) := by simp [e, hn]
    have hx0 := h0 x (by simp [e])
    have hel : m = es.length := by rw [hm, hes]; simp
    have hw := wd_le wide
    have hml : m ≤ acc0.length + 4 * done.length := by
      have := wd_mul wide done.length
      rw [hm, List.length_append, asB_length]; omega
    have hbe : (byteCells (be (wd wide) x.toNat)).length = wd wide := by simp [be_length]
    have has : Gives G 86 [.ref 0 0 0, .int .i64 x] [.cells [.vs 1 0 b.length, .bool wide, .bool bd], .vec 1 (byteCells b)] ⟨.vs 2 0 (be (wd wide) x.toNat).length, [(true, .cells [.vs 1 0 b.length, .bool wide, .bool (badN wide bd x)]), (true, .vec 1 (byteCells b)), (false, .vec 1 (byteCells (be (wd wide) x.toNat)))]⟩ := by
      have h := as_gives86 x.toNat (by omega) wide bd b
      rwa [show ((x.toNat : Nat) : Int) = x from by omega] at h
    refine ev_loop' (W_ok 300 _ _ _ _ ?_)
    repeat' (first | refine stpA ?_ | refine kX [(0, _, _), (1, _, _)] [] ⟨rfl, rfl, trivial⟩ trivial (has) ?_ | (refine condS ?_ ?_ <;> intro h))
    refine ev_keep [27, 28, 29, 10, 11, 12, 0, 5] [0, 1, 69] ?_; exact as_loop84 l p lp i wide b acc0 bd0 R h0 hB h1 h2 go hl ln hln r (done ++ [x]) _ _ _ _ _ _ _ (n + 1) (by simp [e]) (by simp [hn] <;> omega) (by simp [hm, asB]; omega) (by rw [hes]; simp [asB]) (by simp [hbd, badL])
theorem path_loop84 (l : List Seg) (wide : Bool) (b : List UInt8) (bd0 : Bool) (h0 : ∀ s ∈ l, (0 ≤ s.kind ∧ s.kind ≤ 255) ∧ s.as.length ≤ 255 ∧ ∀ x ∈ s.as, 0 ≤ x ∧ x < 2 ^ 63) (hlen : l.length < 2 ^ 20) (hl : l.length < 2 ^ 40) (ln : Int) (hln : ln = l.length) : ∀ (rest done : List Seg) (g m : Nat) (es : List (List AV)) (bd : Bool) (T : List (Nat × AV)) (H : Heap) (c : Nat) (n : Int) (e : l = done ++ rest) (hn : n = done.length) (hm : m = (pathB (wd wide) done).length) (hes : es = byteCells (pathB (wd wide) done)) (hbd : bd = badP wide bd0 done) (hml : m ≤ 2000 * done.length), Ev G ⟨f84x13LH, ⟨(10, .sl 2 (l.map Seg.enc)) :: (11, .int .i64 ln) :: (12, .int .i64 n) :: (0, .ref 0 0 0) :: (5, .vs 69 g m) :: T, (0, some (0, .cells [.vs 1 0 b.length, .bool wide, .bool bd])) :: (1, some (0, .vec 1 (byteCells b))) :: (69, some (g, .vec 1 es)) :: H, c⟩, [.t 4], 2⟩ ⟨.vs 2 0 (pathB (wd wide) l).length, [(true, .cells [.vs 1 0 b.length, .bool wide, .bool (badP wide bd0 l)]), (true, .vec 1 (byteCells b)), (false, .vec 1 (byteCells (pathB (wd wide) l)))]⟩
  | [], done, g, m, es, bd, T, H, c, n, e, hn, hm, hes, hbd, hml => by
    have hd : l.length = done.length := by simp [e]
    have hll : (l.map Seg.enc).length = l.length := by simp
    obtain rfl : l = done := by simpa using e
    subst hes hm hbd
    refine ev_loop' (W_ok 300 _ _ _ _ ?_)
    repeat' (first | refine stpA ?_ | (refine condS ?_ ?_ <;> intro h))
    (conv => whnf); first | refine finX1 [(0, _, _), (1, _, _)] [(69, _, _)] [true, true] ?_ | refine finX0 [(0, _, _), (1, _, _)] [(69, _, _)] [true, true] ?_
    rfl
  | x :: r, done, g, m, es, bd, T, H, c, n, e, hn, hm, hes, hbd, hml => by
    have hd : l.length = done.length + (r.length + 1) := by simp [e]
    have hll : (l.map Seg.enc).length = l.length := by simp
    have hx : (l.map Seg.enc)[n.toNat]? = some (Seg.enc x) := by simp [e, hn]
    obtain ⟨⟨hk0, hk1⟩, hal, hx⟩ := h0 x (by simp [e])
    have hel : m = es.length := by rw [hm, hes]; simp
    have hxl : (x.as.map encI).length = x.as.length := by simp
    have e1 := u8_int hk0 hk1
    have e2 := u8_nat hal
    refine ev_loop' (W_ok 300 _ _ _ _ ?_)
    repeat' (first | refine stpA ?_ | (refine condS ?_ ?_ <;> intro h))
    refine ev_keep [27, 28, 29, 10, 11, 12, 0, 5] [0, 1, 69] ?_
    have hps : (pathB (wd wide) (done ++ [x])) = (pathB (wd wide) done ++ [UInt8.ofNat x.kind.toNat, UInt8.ofNat x.as.length]) ++ asB (wd wide) x.as := by simp [pathB, segB]
    have hwm := wd_mul wide x.as.length
    refine as_loop84 x.as l ln n wide b (pathB (wd wide) done ++ [UInt8.ofNat x.kind.toNat, UInt8.ofNat x.as.length]) bd _ hx (by simp; omega) (by omega) (by omega) ?_ (by omega) _ (by simp) x.as [] _ _ _ _ _ _ _ 0 rfl rfl ?_ ?_ rfl
    · intro T H c g m es bd' q1 q2 q3
      refine path_loop84 l wide b bd0 h0 hlen hl ln hln r (done ++ [x]) g m es bd' T H c (n + 1) (by simp [e]) (by simp [hn]) ?_ ?_ ?_ ?_
      · rw [q1, hps]
      · rw [q2, hps]
      · rw [q3, hbd]; simp [badP]
      · rw [q1]; simp [asB_length]; omega
    · simp [hm, asB]
    · rw [hes]; simp only [asB, List.flatMap_nil, List.append_nil, byteCells_append]; simp only [byteCells, List.map_cons, List.map_nil, e1, e2, hxl]
theorem path_gives84 (p : List Seg) (wide bad : Bool) (b : List UInt8) (h0 : ∀ s ∈ p, (0 ≤ s.kind ∧ s.kind ≤ 255) ∧ s.as.length ≤ 255 ∧ ∀ x ∈ s.as, 0 ≤ x ∧ x < 2 ^ 63) (hlen : p.length < 2 ^ 20) : Gives G 84 [.ref 0 0 0, .sl 2 (p.map Seg.enc)] [.cells [.vs 1 0 b.length, .bool wide, .bool bad], .vec 1 (byteCells b)]
    ⟨.vs 2 0 (pathB (wd wide) p).length, [(true, .cells [.vs 1 0 b.length, .bool wide, .bool (badP wide bad p)]), (true, .vec 1 (byteCells b)), (false, .vec 1 (byteCells (pathB (wd wide) p)))]⟩ := by
  refine gives_code (F := f84) rfl rfl (W_ok 300 _ _ _ _ ?_)
  repeat' (first | refine stpA ?_ | (refine condS ?_ ?_ <;> intro h))
  refine ev_nil 69 1 [(5, .vs 69 _ 0)] [] ⟨LeP.nilV _ _ _, trivial⟩ trivial ?_
  refine ev_keep [10, 11, 12, 0, 5] [0, 1, 69] ?_
  exact path_loop84 p wide b bad h0 hlen (by omega) _ (by simp) p [] _ 0 _ _ _ _ _ 0 rfl rfl rfl rfl rfl (by simp)
end Go.AM.IR
set_option maxHeartbeats 4000000
set_option maxRecDepth 20000
namespace Go.AM.IR
def putB (k : Int) (v : List UInt8) : List UInt8 := if v.length > 255 then (flagS k ||| 16) :: UInt8.ofNat k.toNat :: (be 2 v.length ++ v) else flagS k :: UInt8.ofNat k.toNat :: UInt8.ofNat v.length :: v
theorem retW_eq {n n' : Nat} {es es' : List (List AV)} {wide bad : Bool} (hn : n = n') (he : es = es') : (⟨.tup [], [(true, .cells [.vs 1 0 n, .bool wide, .bool bad]), (false, .vec 1 es)]⟩ : Ret) = ⟨.tup [], [(true, .cells [.vs 1 0 n', .bool wide, .bool bad]), (false, .vec 1 es')]⟩ := by subst hn he; rfl
theorem put_loop83 (l : List (List UInt8)) (k : Int) (wide bad : Bool) (b : List UInt8) (hk0 : 0 ≤ k) (hk1 : k ≤ 255) (hb : b.length < 2 ^ 38) (hc : (cat l).length < 2 ^ 38) (hl : l.length < 2 ^ 40) (ln : Int) (hln : ln = l.length) : ∀ (rest done : List (List UInt8)) (g m : Nat) (es : List (List AV)) (T : List (Nat × AV)) (H : Heap) (c : Nat) (n : Int) (e : l = done ++ rest) (hn : n = done.length) (hm : m = (cat done).length) (hes : es = byteCells (cat done)), Ev G ⟨f83x6LH, ⟨(9, .sl 1 (l.map bEnc)) :: (10, .int .i64 ln) :: (11, .int .i64 n) :: (0, .ref 0 0 0) :: (6, .vs 69 g m) :: (1, .int .i64 k) :: T, (0, some (0, .cells [.vs 1 0 b.length, .bool wide, .bool bad])) :: (1, some (0, .vec 1 (byteCells b))) :: (69, some (g, .vec 1 es)) :: H, c⟩, [], 2⟩ ⟨.tup [], [(true, .cells [.vs 1 0 (b ++ putB k (cat l)).length, .bool wide, .bool bad]), (false, .vec 1 (byteCells (b ++ putB k (cat l))))]⟩
  | [], done, g, m, es, T, H, c, n, e, hn, hm, hes => by
    have hd : l.length = done.length := by simp [e]
    have hll : (l.map bEnc).length = l.length := by simp
    obtain rfl : l = done := by simpa using e
    have hbl := byteCells_length b
    have hcl := byteCells_length (cat l)
    subst hes hm
    have e1 := u8_int hk0 hk1
    by_cases hlong : (cat l).length > 255
    · rw [show putB k (cat l) = (flagS k ||| 16) :: UInt8.ofNat k.toNat :: (be 2 (cat l).length ++ cat l) from by simp [putB, hlong]]
      have hput := put_gives109 (b ++ [flagS k ||| 16, UInt8.ofNat k.toNat]) (by simp; omega) 2 (cat l).length (by omega)
      have hB : byteCells (b ++ [flagS k ||| 16, UInt8.ofNat k.toNat]) = byteCells b ++ [[.int .u8 (flagS k ||| 16 : UInt8).toNat], [.int .u8 k]] := by simp [byteCells]; omega
      rw [hB] at hput
      refine ev_loop' (W_ok 300 _ _ _ _ ?_)
      repeat' (first | refine stpA ?_ | refine kV (flag_gives94 k hk0) ?_ | refine kX [] [(1, _, _)] trivial ⟨rfl, pz trivial⟩ (hput) ?_ | (refine condS ?_ ?_ <;> intro h))
      conv => whnf
      refine ev_mvP 108 1 [] [(0, some (0, .cells [.vs 1 _ _, .bool wide, .bool bad]))] rfl (by first | rfl | (simp [Blk.pure, pureLL, pureL, AV.pure]; done) | fail) (by decide) trivial ⟨⟨by decide, by decide, (by simp only [hlook, Nat.beq_refl, cond_true, Blk.ren, renL, AV.ren, φM, and_self, if_true]; rfl)⟩, trivial⟩ ?_
      intro T H
      (conv => whnf); first | refine finX1 [(0, _, _), (1, _, _)] [] [true, false] ?_ | refine finX0 [(0, _, _), (1, _, _)] [] [true, false] ?_
      exact retW_eq (by simp; omega) (by simp [byteCells])
    · rw [show putB k (cat l) = flagS k :: UInt8.ofNat k.toNat :: UInt8.ofNat (cat l).length :: cat l from by simp [putB, hlong]]
      have e2 := u8_nat (k := (cat l).length) (by omega)
      refine ev_loop' (W_ok 300 _ _ _ _ ?_)
      repeat' (first | refine stpA ?_ | refine kV (flag_gives94 k hk0) ?_ | (refine condS ?_ ?_ <;> intro h))
      (conv => whnf); first | refine finX1 [(0, _, _), (1, _, _)] [] [true, false] ?_ | refine finX0 [(0, _, _), (1, _, _)] [] [true, false] ?_
      exact retW_eq (by simp; omega) (by simp [byteCells]; omega)
  | x :: r, done, g, m, es, T, H, c, n, e, hn, hm, hes => by
    have hd : l.length = done.length + (r.length + 1) := by simp [e]
    have hll : (l.map bEnc).length = l.length := by simp
    have hx : (l.map bEnc)[n.toNat]? = some (bEnc x) := by simp [e, hn]
    have hcl : (cat l).length = (cat done).length + (x.length + (cat r).length) := by rw [e]; simp [cat]
    have hbl := byteCells_length x
    have hel : m = es.length := by rw [hm, hes]; simp
    refine ev_loop' (W_ok 300 _ _ _ _ ?_)
    repeat' (first | refine stpA ?_ | (refine condS ?_ ?_ <;> intro h))
    refine ev_keep [9, 10, 11, 0, 6, 1] [0, 1, 69] ?_; exact put_loop83 l k wide bad b hk0 hk1 hb hc hl ln hln r (done ++ [x]) _ _ _ _ _ _ (n + 1) (by simp [e]) (by simp [hn] <;> omega) (by simp [hm, cat]) (by rw [hes]; simp [cat])
theorem put_gives83 (l : List (List UInt8)) (k : Int) (wide bad : Bool) (b : List UInt8) (hl : l.length < 2 ^ 40) (hk0 : 0 ≤ k) (hk1 : k ≤ 255) (hb : b.length < 2 ^ 38) (hc : (cat l).length < 2 ^ 38) : Gives G 83 [.ref 0 0 0, .int .i64 k, .sl 1 (l.map bEnc)] [.cells [.vs 1 0 b.length, .bool wide, .bool bad], .vec 1 (byteCells b)]
    ⟨.tup [], [(true, .cells [.vs 1 0 (b ++ putB k (cat l)).length, .bool wide, .bool bad]), (false, .vec 1 (byteCells (b ++ putB k (cat l))))]⟩ := by
  refine gives_code (F := f83) rfl rfl (W_ok 300 _ _ _ _ ?_)
  repeat' (first | refine stpA ?_ | (refine condS ?_ ?_ <;> intro h))
  refine ev_nil 69 1 [(6, .vs 69 _ 0)] [] ⟨LeP.nilV _ _ _, trivial⟩ trivial ?_
  refine ev_keep [9, 10, 11, 0, 6, 1] [0, 1, 69] ?_
  exact put_loop83 l k wide bad b hk0 hk1 hb hc hl _ (by simp) l [] _ 0 _ _ _ _ 0 rfl rfl rfl rfl
end Go.AM.IR
set_option maxHeartbeats 4000000
set_option maxRecDepth 20000
namespace Go.AM.IR
def suf : Nat → ACode → ACode
  | 0, c => c
  | n + 1, .seq _ b => suf n b
  | _, c => c
structure EncV (a : Attrs) : Prop where
  origin : 0 ≤ a.origin ∧ a.origin ≤ 255
  segs : ∀ s ∈ a.path, (0 ≤ s.kind ∧ s.kind ≤ 255) ∧ s.as.length ≤ 255 ∧ ∀ x ∈ s.as, 0 ≤ x ∧ x < 2 ^ 63
  path : a.path.length < 2 ^ 20
  nextHop : 0 ≤ a.nextHop ∧ a.nextHop ≤ 4294967295
  med : 0 ≤ a.med ∧ a.med ≤ 4294967295
  pref : 0 ≤ a.pref ∧ a.pref ≤ 4294967295
  aggrAS : 0 ≤ a.aggrAS ∧ a.aggrAS ≤ 4294967295
  aggrAddr : 0 ≤ a.aggrAddr ∧ a.aggrAddr ≤ 4294967295
  comms : ∀ x ∈ a.comms, 0 ≤ x ∧ x ≤ 4294967295
  commsL : a.comms.length ≤ 255
  orig : 0 ≤ a.orig ∧ a.orig ≤ 4294967295
  clusters : ∀ x ∈ a.clusters, 0 ≤ x ∧ x ≤ 4294967295
  clustersL : a.clusters.length ≤ 64
  unknown : ∀ t ∈ a.unknown, (0 ≤ t.kind ∧ t.kind ≤ 255) ∧ t.value.length ≤ 255
  unknownL : a.unknown.length ≤ 64
def wordsB (l : List Int) : List UInt8 := l.flatMap fun x => be 4 x.toNat
def c13 (a : Attrs) : List UInt8 := a.unknown.flatMap fun t => putB t.kind t.value
def c12 (a : Attrs) : List UInt8 := if a.clusters.length > 0 then putB 10 (wordsB a.clusters) else []
def c11 (a : Attrs) : List UInt8 := if a.hasOrig = true then putB 9 (be 4 a.orig.toNat) else []
def c10 (a : Attrs) : List UInt8 := if a.comms.length > 0 then putB 8 (wordsB a.comms) else []
def c9 (a : Attrs) (w : Nat) : List UInt8 := if a.hasAggr = true then putB 7 (be w a.aggrAS.toNat ++ be 4 a.aggrAddr.toNat) else []
def c8 (a : Attrs) : List UInt8 := if a.atomic = true then putB 6 [] else []
def c7 (a : Attrs) : List UInt8 := if a.hasPref = true then putB 5 (be 4 a.pref.toNat) else []
def c6 (a : Attrs) : List UInt8 := if a.hasMED = true then putB 4 (be 4 a.med.toNat) else []
def c5 (a : Attrs) : List UInt8 := putB 3 (be 4 a.nextHop.toNat)
def c4 (a : Attrs) (w : Nat) : List UInt8 := putB 2 (pathB w a.path)
def c3 (a : Attrs) : List UInt8 := putB 1 [UInt8.ofNat a.origin.toNat]
theorem pathL_aux (w : Nat) (hw : w ≤ 4) : ∀ (p : List Seg), (∀ s ∈ p, s.as.length ≤ 255) → (pathB w p).length ≤ 1022 * p.length
  | [], _ => by simp [pathB]
  | s :: r, h => by
    have h1 := pathL_aux w hw r fun x hx => h x (by simp [hx])
    have h2 := h s (by simp)
    have h3 : w * s.as.length ≤ 4 * s.as.length := Nat.mul_le_mul_right _ hw
    simp only [pathB, List.flatMap_cons, List.length_append, segB, List.length_cons, asB_length] at h1 ⊢
    omega
theorem pathL (wide : Bool) (a : Attrs) (hv : EncV a) : (pathB (wd wide) a.path).length < 2 ^ 38 := by
  have := pathL_aux (wd wide) (wd_le wide) a.path fun s hs => (hv.segs s hs).2.1
  have := hv.path
  omega
def bdA (a : Attrs) (wide bad : Bool) : Bool := if a.hasAggr = true then badN wide bad a.aggrAS else bad
def encRet (bad : Bool) (b : List UInt8) : Ret := if bad = true then ⟨.tup [.con (.slice none 0 0), .int .i64 5], []⟩ else ⟨.tup [.vs 0 0 b.length, .int .i64 0], [(false, .vec 1 (byteCells b))]⟩
def r13 (a : Attrs) (w : Nat) : List UInt8 := c13 a
def r12 (a : Attrs) (w : Nat) : List UInt8 := c12 a ++ r13 a w
def r11 (a : Attrs) (w : Nat) : List UInt8 := c11 a ++ r12 a w
def r10 (a : Attrs) (w : Nat) : List UInt8 := c10 a ++ r11 a w
def r9 (a : Attrs) (w : Nat) : List UInt8 := c9 a w ++ r10 a w
def r8 (a : Attrs) (w : Nat) : List UInt8 := c8 a ++ r9 a w
def r7 (a : Attrs) (w : Nat) : List UInt8 := c7 a ++ r8 a w
def r6 (a : Attrs) (w : Nat) : List UInt8 := c6 a ++ r7 a w
def r5 (a : Attrs) (w : Nat) : List UInt8 := c5 a ++ r6 a w
def r4 (a : Attrs) (w : Nat) : List UInt8 := c4 a w ++ r5 a w
def r3 (a : Attrs) (w : Nat) : List UInt8 := c3 a ++ r4 a w
theorem unk_loop67 (l : List TLV) (a : Attrs) (wide bad : Bool) (gw : Nat) (hv : EncV a) (ha : a.unknown = l) (b0 : List UInt8) (hb : (b0 ++ c13 a).length < 2 ^ 37) (hl : l.length < 2 ^ 40) (ln : Int) (hln : ln = l.length) : ∀ (rest done : List TLV) (g n1 : Nat) (es : List (List AV)) (T : List (Nat × AV)) (H : Heap) (c : Nat) (n : Int) (e : l = done ++ rest) (hn : n = done.length) (hn1 : n1 = (b0 ++ done.flatMap fun t => putB t.kind t.value).length) (hes : es = byteCells (b0 ++ done.flatMap fun t => putB t.kind t.value)), Ev G ⟨f67x27LH, ⟨(102, .sl 2 (l.map TLV.enc)) :: (103, .int .i64 ln) :: (104, .int .i64 n) :: (7, .ref 81 gw 0) :: T, (81, some (gw, .cells [.vs 200 g n1, .bool wide, .bool bad])) :: (200, some (g, .vec 1 es)) :: H, c⟩, [.t 4, .t 5], 0⟩ (encRet bad (b0 ++ c13 a))
  | [], done, g, n1, es, T, H, c, n, e, hn, hn1, hes => by
    have hd : l.length = done.length := by simp [e]
    have hll : (l.map TLV.enc).length = l.length := by simp
    obtain rfl : l = done := by simpa using e
    subst hn1 hes
    cases bad
    · refine ev_loop' (W_ok 300 _ _ _ _ ?_)
      repeat' (first | refine stpA ?_ | (refine condS ?_ ?_ <;> intro h))
      refine ev_finN [(200, g, .vec 1 (byteCells _))] ⟨⟨rfl, (by simp [Blk.pure]), trivial⟩, rfl, rfl, (by simp), ?_⟩
      simp [AV.ren, renL, φR, encRet, c13, ha]
    · refine ev_loop' (W_ok 300 _ _ _ _ ?_)
      repeat' (first | refine stpA ?_ | (refine condS ?_ ?_ <;> intro h))
      (first | refine fin1 ?_ | refine fin0 ?_)
      rfl
  | x :: r, done, g, n1, es, T, H, c, n, e, hn, hn1, hes => by
    have hd : l.length = done.length + (r.length + 1) := by simp [e]
    have hll : (l.map TLV.enc).length = l.length := by simp
    have hx : (l.map TLV.enc)[n.toNat]? = some (TLV.enc x) := by simp [e, hn]
    obtain ⟨⟨hk0, hk1⟩, hxl⟩ := hv.unknown x (by rw [ha, e]; simp)
    subst hn1 hes
    have hb2 : (b0 ++ done.flatMap fun t => putB t.kind t.value).length ≤ (b0 ++ c13 a).length := by simp [c13, ha, e]
    have hput := put_gives83 [x.value] x.kind wide bad (b0 ++ done.flatMap fun t => putB t.kind t.value) (by simp) hk0 hk1 (by omega) (by simp [cat]; omega)
    rw [show cat [x.value] = x.value from by simp [cat]] at hput
    refine ev_loop' (W_ok 300 _ _ _ _ ?_)
    repeat' (first | refine stpA ?_ | refine kX [(81, _, _), (200, _, _)] [(177, _, _)] ⟨rfl, rfl, trivial⟩ ⟨rfl, pz trivial⟩ (hput) ?_ | (refine condS ?_ ?_ <;> intro h))
    refine ev_keep [102, 103, 104, 7] [81, 200] ?_; exact unk_loop67 l a wide bad gw hv ha b0 hb hl ln hln r (done ++ [x]) _ _ _ _ _ _ (n + 1) (by simp [e]) (by simp [hn] <;> omega) (by simp) (by simp)
theorem enc67_13 (a : Attrs) (hv : EncV a) (wide bad : Bool) (b : List UInt8) (T : List (Nat × AV)) (H : Heap) (c gw g : Nat) (hb : (b ++ r13 a (wd wide)).length < 2 ^ 37) : Ev G ⟨[.code (suf 13 f67.body)], ⟨(7, .ref 81 gw 0) :: (2, .ref 66 1 0) :: (1, .bool wide) :: T, (66, some (1, .cells a.enc)) :: (81, some (gw, .cells [.vs 200 g b.length, .bool wide, .bool bad])) :: (200, some (g, .vec 1 (byteCells b))) :: H, c⟩, [.t 4, .t 5], 0⟩ (encRet bad (b ++ r13 a (wd wide))) := by
  refine ev_seq (b := suf 14 f67.body) ?_
  refine W_ok 300 _ _ _ _ ?_
  repeat' (first | refine stpA ?_ | (refine condS ?_ ?_ <;> intro h))
  refine ev_keep [102, 103, 104, 7] [81, 200] ?_
  have hu := hv.unknownL
  exact unk_loop67 a.unknown a wide bad gw hv rfl b hb (by omega) _ (by simp) a.unknown [] g b.length (byteCells b) _ _ _ 0 rfl rfl (by simp) (by simp)
theorem enc67_12 (a : Attrs) (hv : EncV a) (wide bad : Bool) (b : List UInt8) (T : List (Nat × AV)) (H : Heap) (c gw g : Nat) (hb : (b ++ r12 a (wd wide)).length < 2 ^ 37) : Ev G ⟨[.code (suf 12 f67.body)], ⟨(7, .ref 81 gw 0) :: (2, .ref 66 1 0) :: (1, .bool wide) :: T, (66, some (1, .cells a.enc)) :: (81, some (gw, .cells [.vs 200 g b.length, .bool wide, .bool bad])) :: (200, some (g, .vec 1 (byteCells b))) :: H, c⟩, [.t 4, .t 5], 0⟩ (encRet (bad) (b ++ r12 a (wd wide))) := by
  have hf := hv.clusters
  have hcl := hv.clustersL
  have hcm := hv.commsL
  have hll1 : (a.clusters.map encU).length = a.clusters.length := by simp
  have hll2 : (a.comms.map encU).length = a.comms.length := by simp
  have hbl : b.length < 2 ^ 37 := by simp at hb; omega
  by_cases hc : a.clusters.length > 0
  · have hq : b ++ r12 a (wd wide) = (b ++ putB 10 (wordsB a.clusters)) ++ r13 a (wd wide) := by simp [r12, c12, hc]
    have hcat : cat [wordsB a.clusters] = wordsB a.clusters := by simp [cat]
    have hvl : (wordsB a.clusters).length < 2 ^ 38 := by first | (rw [be_length]; omega) | (rw [wordsB, fm_length]; omega)
    have hput := put_gives83 [wordsB a.clusters] 10 wide bad b (by simp) (by omega) (by omega) (by omega) (by rw [hcat]; exact hvl)
    rw [hcat] at hput
    rw [hq] at hb ⊢
    refine ev_seq (b := suf 13 f67.body) ?_
    refine W_okd 1 300 _ _ _ _ ?_
    repeat' (first | refine stpA ?_ | refine kN (words_gives87 a.clusters (by omega) hv.clusters) ?_ | refine kB [(162, _, _)] ⟨rfl, pz trivial⟩ ?_ | refine kX [(81, _, _), (200, _, _)] [(163, _, _)] ⟨rfl, rfl, trivial⟩ ⟨rfl, pz trivial⟩ (hput) ?_ | (refine condS ?_ ?_ <;> intro h))
    refine ev_keep [7, 2, 1] [66, 81, 200] ?_
    exact enc67_13 a hv wide bad _ _ _ _ _ _ hb
  · have hq : b ++ r12 a (wd wide) = b ++ r13 a (wd wide) := by simp [r12, c12, hc]
    rw [hq] at hb ⊢
    refine ev_seq (b := suf 13 f67.body) ?_
    try simp only [Bool.not_eq_true] at hc
    refine W_okd 1 300 _ _ _ _ ?_
    repeat' (first | refine stpA ?_ | (refine condS ?_ ?_ <;> intro h))
    refine ev_keep [7, 2, 1] [66, 81, 200] ?_
    exact enc67_13 a hv wide bad _ _ _ _ _ _ hb
theorem enc67_11 (a : Attrs) (hv : EncV a) (wide bad : Bool) (b : List UInt8) (T : List (Nat × AV)) (H : Heap) (c gw g : Nat) (hb : (b ++ r11 a (wd wide)).length < 2 ^ 37) : Ev G ⟨[.code (suf 11 f67.body)], ⟨(7, .ref 81 gw 0) :: (2, .ref 66 1 0) :: (1, .bool wide) :: T, (66, some (1, .cells a.enc)) :: (81, some (gw, .cells [.vs 200 g b.length, .bool wide, .bool bad])) :: (200, some (g, .vec 1 (byteCells b))) :: H, c⟩, [.t 4, .t 5], 0⟩ (encRet (bad) (b ++ r11 a (wd wide))) := by
  have hf := hv.orig
  have hcl := hv.clustersL
  have hcm := hv.commsL
  have hll1 : (a.clusters.map encU).length = a.clusters.length := by simp
  have hll2 : (a.comms.map encU).length = a.comms.length := by simp
  have hbl : b.length < 2 ^ 37 := by simp at hb; omega
  by_cases hc : a.hasOrig = true
  · have hq : b ++ r11 a (wd wide) = (b ++ putB 9 (be 4 a.orig.toNat)) ++ r12 a (wd wide) := by simp [r11, c11, hc]
    have hcat : cat [be 4 a.orig.toNat] = be 4 a.orig.toNat := by simp [cat]
    have hvl : (be 4 a.orig.toNat).length < 2 ^ 38 := by first | (rw [be_length]; omega) | (rw [wordsB, fm_length]; omega)
    have hput := put_gives83 [be 4 a.orig.toNat] 9 wide bad b (by simp) (by omega) (by omega) (by omega) (by rw [hcat]; exact hvl)
    rw [hcat] at hput
    rw [hq] at hb ⊢
    refine ev_seq (b := suf 12 f67.body) ?_
    refine W_okd 1 300 _ _ _ _ ?_
    repeat' (first | refine stpA ?_ | refine kN (number85 a.orig (by omega) (by omega)) ?_ | refine kB [(152, _, _)] ⟨rfl, pz trivial⟩ ?_ | refine kX [(81, _, _), (200, _, _)] [(153, _, _)] ⟨rfl, rfl, trivial⟩ ⟨rfl, pz trivial⟩ (hput) ?_ | (refine condS ?_ ?_ <;> intro h))
    refine ev_keep [7, 2, 1] [66, 81, 200] ?_
    exact enc67_12 a hv wide bad _ _ _ _ _ _ hb
  · have hq : b ++ r11 a (wd wide) = b ++ r12 a (wd wide) := by simp [r11, c11, hc]
    rw [hq] at hb ⊢
    refine ev_seq (b := suf 12 f67.body) ?_
    try simp only [Bool.not_eq_true] at hc
    refine W_okd 1 300 _ _ _ _ ?_
    repeat' (first | refine stpA ?_ | (refine condS ?_ ?_ <;> intro h))
    refine ev_keep [7, 2, 1] [66, 81, 200] ?_
    exact enc67_12 a hv wide bad _ _ _ _ _ _ hb
theorem enc67_10 (a : Attrs) (hv : EncV a) (wide bad : Bool) (b : List UInt8) (T : List (Nat × AV)) (H : Heap) (c gw g : Nat) (hb : (b ++ r10 a (wd wide)).length < 2 ^ 37) : Ev G ⟨[.code (suf 10 f67.body)], ⟨(7, .ref 81 gw 0) :: (2, .ref 66 1 0) :: (1, .bool wide) :: T, (66, some (1, .cells a.enc)) :: (81, some (gw, .cells [.vs 200 g b.length, .bool wide, .bool bad])) :: (200, some (g, .vec 1 (byteCells b))) :: H, c⟩, [.t 4, .t 5], 0⟩ (encRet (bad) (b ++ r10 a (wd wide))) := by
  have hf := hv.comms
  have hcl := hv.clustersL
  have hcm := hv.commsL
  have hll1 : (a.clusters.map encU).length = a.clusters.length := by simp
  have hll2 : (a.comms.map encU).length = a.comms.length := by simp
  have hbl : b.length < 2 ^ 37 := by simp at hb; omega
  by_cases hc : a.comms.length > 0
  · have hq : b ++ r10 a (wd wide) = (b ++ putB 8 (wordsB a.comms)) ++ r11 a (wd wide) := by simp [r10, c10, hc]
    have hcat : cat [wordsB a.comms] = wordsB a.comms := by simp [cat]
    have hvl : (wordsB a.comms).length < 2 ^ 38 := by first | (rw [be_length]; omega) | (rw [wordsB, fm_length]; omega)
    have hput := put_gives83 [wordsB a.comms] 8 wide bad b (by simp) (by omega) (by omega) (by omega) (by rw [hcat]; exact hvl)
    rw [hcat] at hput
    rw [hq] at hb ⊢
    refine ev_seq (b := suf 11 f67.body) ?_
    refine W_okd 1 300 _ _ _ _ ?_
    repeat' (first | refine stpA ?_ | refine kN (words_gives87 a.comms (by omega) hv.comms) ?_ | refine kB [(143, _, _)] ⟨rfl, pz trivial⟩ ?_ | refine kX [(81, _, _), (200, _, _)] [(144, _, _)] ⟨rfl, rfl, trivial⟩ ⟨rfl, pz trivial⟩ (hput) ?_ | (refine condS ?_ ?_ <;> intro h))
    refine ev_keep [7, 2, 1] [66, 81, 200] ?_
    exact enc67_11 a hv wide bad _ _ _ _ _ _ hb
  · have hq : b ++ r10 a (wd wide) = b ++ r11 a (wd wide) := by simp [r10, c10, hc]
    rw [hq] at hb ⊢
    refine ev_seq (b := suf 11 f67.body) ?_
    try simp only [Bool.not_eq_true] at hc
    refine W_okd 1 300 _ _ _ _ ?_
    repeat' (first | refine stpA ?_ | (refine condS ?_ ?_ <;> intro h))
    refine ev_keep [7, 2, 1] [66, 81, 200] ?_
    exact enc67_11 a hv wide bad _ _ _ _ _ _ hb
theorem enc67_9 (a : Attrs) (hv : EncV a) (wide bad : Bool) (b : List UInt8) (T : List (Nat × AV)) (H : Heap) (c gw g : Nat) (hb : (b ++ r9 a (wd wide)).length < 2 ^ 37) : Ev G ⟨[.code (suf 9 f67.body)], ⟨(7, .ref 81 gw 0) :: (2, .ref 66 1 0) :: (1, .bool wide) :: T, (66, some (1, .cells a.enc)) :: (81, some (gw, .cells [.vs 200 g b.length, .bool wide, .bool bad])) :: (200, some (g, .vec 1 (byteCells b))) :: H, c⟩, [.t 4, .t 5], 0⟩ (encRet (bdA a wide bad) (b ++ r9 a (wd wide))) := by
  have hf := hv.aggrAS
  have hf2 := hv.aggrAddr
  have hbl : b.length < 2 ^ 37 := by simp at hb; omega
  by_cases hc : a.hasAggr = true
  · have hq : b ++ r9 a (wd wide) = (b ++ putB 7 (be (wd wide) a.aggrAS.toNat ++ be 4 a.aggrAddr.toNat)) ++ r10 a (wd wide) := by simp [r9, c9, hc]
    have hbd : bdA a wide bad = badN wide bad a.aggrAS := by simp [bdA, hc]
    have hcat : cat [be (wd wide) a.aggrAS.toNat, be 4 a.aggrAddr.toNat] = be (wd wide) a.aggrAS.toNat ++ be 4 a.aggrAddr.toNat := by simp [cat]
    have has := as_gives86 a.aggrAS.toNat (by omega) wide bad b
    rw [show ((a.aggrAS.toNat : Nat) : Int) = a.aggrAS from by omega] at has
    have hput := put_gives83 [be (wd wide) a.aggrAS.toNat, be 4 a.aggrAddr.toNat] 7 wide (badN wide bad a.aggrAS) b (by simp) (by omega) (by omega) (by omega) (by rw [hcat]; simp; have := wd_le wide; omega)
    rw [hcat] at hput
    rw [hq] at hb ⊢
    rw [hbd]
    refine ev_seq (b := suf 10 f67.body) ?_
    refine W_okd 1 300 _ _ _ _ ?_
    repeat' (first | refine stpA ?_ | refine kX [(81, _, _), (200, _, _)] [] ⟨rfl, rfl, trivial⟩ trivial (has) ?_ | refine kN (number85 a.aggrAddr (by omega) (by omega)) ?_ | refine kB [(129, _, _), (133, _, _)] ⟨rfl, pz ⟨rfl, pz trivial⟩⟩ ?_ | refine kX [(81, _, _), (200, _, _)] [(134, _, _)] ⟨rfl, rfl, trivial⟩ ⟨rfl, pz trivial⟩ (hput) ?_ | (refine condS ?_ ?_ <;> intro h))
    refine ev_keep [7, 2, 1] [66, 81, 200] ?_
    exact enc67_10 a hv wide _ _ _ _ _ _ _ hb
  · have hq : b ++ r9 a (wd wide) = b ++ r10 a (wd wide) := by simp [r9, c9, hc]
    have hbd : bdA a wide bad = bad := by simp [bdA, hc]
    rw [hq] at hb ⊢
    rw [hbd]
    refine ev_seq (b := suf 10 f67.body) ?_
    try simp only [Bool.not_eq_true] at hc
    refine W_okd 1 300 _ _ _ _ ?_
    repeat' (first | refine stpA ?_ | (refine condS ?_ ?_ <;> intro h))
    refine ev_keep [7, 2, 1] [66, 81, 200] ?_
    exact enc67_10 a hv wide _ _ _ _ _ _ _ hb
theorem enc67_8 (a : Attrs) (hv : EncV a) (wide bad : Bool) (b : List UInt8) (T : List (Nat × AV)) (H : Heap) (c gw g : Nat) (hb : (b ++ r8 a (wd wide)).length < 2 ^ 37) : Ev G ⟨[.code (suf 8 f67.body)], ⟨(7, .ref 81 gw 0) :: (2, .ref 66 1 0) :: (1, .bool wide) :: T, (66, some (1, .cells a.enc)) :: (81, some (gw, .cells [.vs 200 g b.length, .bool wide, .bool bad])) :: (200, some (g, .vec 1 (byteCells b))) :: H, c⟩, [.t 4, .t 5], 0⟩ (encRet (bdA a wide bad) (b ++ r8 a (wd wide))) := by
  have hbl : b.length < 2 ^ 37 := by simp at hb; omega
  by_cases hc : a.atomic = true
  · have hq : b ++ r8 a (wd wide) = (b ++ putB 6 []) ++ r9 a (wd wide) := by simp [r8, c8, hc]
    have hput := gives_le rfl (put_gives83 [] 6 wide bad b (by simp) (by omega) (by omega) (by omega) (by simp [cat])) (show LLe Any [.ref 0 0 0, .int .i64 6, .con (.slice none 0 0)] _ from ⟨.refl _, .refl _, LeP.nil 1, trivial⟩)
    rw [show cat [] = [] from rfl] at hput
    rw [hq] at hb ⊢
    refine ev_seq (b := suf 9 f67.body) ?_
    refine W_okd 1 300 _ _ _ _ ?_
    repeat' (first | refine stpA ?_ | refine kX [(81, _, _), (200, _, _)] [] ⟨rfl, rfl, trivial⟩ trivial (hput) ?_ | (refine condS ?_ ?_ <;> intro h))
    refine ev_keep [7, 2, 1] [66, 81, 200] ?_
    exact enc67_9 a hv wide bad _ _ _ _ _ _ hb
  · have hq : b ++ r8 a (wd wide) = b ++ r9 a (wd wide) := by simp [r8, c8, hc]
    rw [hq] at hb ⊢
    refine ev_seq (b := suf 9 f67.body) ?_
    try simp only [Bool.not_eq_true] at hc
    refine W_okd 1 300 _ _ _ _ ?_
    repeat' (first | refine stpA ?_ | (refine condS ?_ ?_ <;> intro h))
    refine ev_keep [7, 2, 1] [66, 81, 200] ?_
    exact enc67_9 a hv wide bad _ _ _ _ _ _ hb
theorem enc67_7 (a : Attrs) (hv : EncV a) (wide bad : Bool) (b : List UInt8) (T : List (Nat × AV)) (H : Heap) (c gw g : Nat) (hb : (b ++ r7 a (wd wide)).length < 2 ^ 37) : Ev G ⟨[.code (suf 7 f67.body)], ⟨(7, .ref 81 gw 0) :: (2, .ref 66 1 0) :: (1, .bool wide) :: T, (66, some (1, .cells a.enc)) :: (81, some (gw, .cells [.vs 200 g b.length, .bool wide, .bool bad])) :: (200, some (g, .vec 1 (byteCells b))) :: H, c⟩, [.t 4, .t 5], 0⟩ (encRet (bdA a wide bad) (b ++ r7 a (wd wide))) := by
  have hf := hv.pref
  have hcl := hv.clustersL
  have hcm := hv.commsL
  have hll1 : (a.clusters.map encU).length = a.clusters.length := by simp
  have hll2 : (a.comms.map encU).length = a.comms.length := by simp
  have hbl : b.length < 2 ^ 37 := by simp at hb; omega
  by_cases hc : a.hasPref = true
  · have hq : b ++ r7 a (wd wide) = (b ++ putB 5 (be 4 a.pref.toNat)) ++ r8 a (wd wide) := by simp [r7, c7, hc]
    have hcat : cat [be 4 a.pref.toNat] = be 4 a.pref.toNat := by simp [cat]
    have hvl : (be 4 a.pref.toNat).length < 2 ^ 38 := by first | (rw [be_length]; omega) | (rw [wordsB, fm_length]; omega)
    have hput := put_gives83 [be 4 a.pref.toNat] 5 wide bad b (by simp) (by omega) (by omega) (by omega) (by rw [hcat]; exact hvl)
    rw [hcat] at hput
    rw [hq] at hb ⊢
    refine ev_seq (b := suf 8 f67.body) ?_
    refine W_okd 1 300 _ _ _ _ ?_
    repeat' (first | refine stpA ?_ | refine kN (number85 a.pref (by omega) (by omega)) ?_ | refine kB [(116, _, _)] ⟨rfl, pz trivial⟩ ?_ | refine kX [(81, _, _), (200, _, _)] [(117, _, _)] ⟨rfl, rfl, trivial⟩ ⟨rfl, pz trivial⟩ (hput) ?_ | (refine condS ?_ ?_ <;> intro h))
    refine ev_keep [7, 2, 1] [66, 81, 200] ?_
    exact enc67_8 a hv wide bad _ _ _ _ _ _ hb
  · have hq : b ++ r7 a (wd wide) = b ++ r8 a (wd wide) := by simp [r7, c7, hc]
    rw [hq] at hb ⊢
    refine ev_seq (b := suf 8 f67.body) ?_
    try simp only [Bool.not_eq_true] at hc
    refine W_okd 1 300 _ _ _ _ ?_
    repeat' (first | refine stpA ?_ | (refine condS ?_ ?_ <;> intro h))
    refine ev_keep [7, 2, 1] [66, 81, 200] ?_
    exact enc67_8 a hv wide bad _ _ _ _ _ _ hb
theorem enc67_6 (a : Attrs) (hv : EncV a) (wide bad : Bool) (b : List UInt8) (T : List (Nat × AV)) (H : Heap) (c gw g : Nat) (hb : (b ++ r6 a (wd wide)).length < 2 ^ 37) : Ev G ⟨[.code (suf 6 f67.body)], ⟨(7, .ref 81 gw 0) :: (2, .ref 66 1 0) :: (1, .bool wide) :: T, (66, some (1, .cells a.enc)) :: (81, some (gw, .cells [.vs 200 g b.length, .bool wide, .bool bad])) :: (200, some (g, .vec 1 (byteCells b))) :: H, c⟩, [.t 4, .t 5], 0⟩ (encRet (bdA a wide bad) (b ++ r6 a (wd wide))) := by
  have hf := hv.med
  have hcl := hv.clustersL
  have hcm := hv.commsL
  have hll1 : (a.clusters.map encU).length = a.clusters.length := by simp
  have hll2 : (a.comms.map encU).length = a.comms.length := by simp
  have hbl : b.length < 2 ^ 37 := by simp at hb; omega
  by_cases hc : a.hasMED = true
  · have hq : b ++ r6 a (wd wide) = (b ++ putB 4 (be 4 a.med.toNat)) ++ r7 a (wd wide) := by simp [r6, c6, hc]
    have hcat : cat [be 4 a.med.toNat] = be 4 a.med.toNat := by simp [cat]
    have hvl : (be 4 a.med.toNat).length < 2 ^ 38 := by first | (rw [be_length]; omega) | (rw [wordsB, fm_length]; omega)
    have hput := put_gives83 [be 4 a.med.toNat] 4 wide bad b (by simp) (by omega) (by omega) (by omega) (by rw [hcat]; exact hvl)
    rw [hcat] at hput
    rw [hq] at hb ⊢
    refine ev_seq (b := suf 7 f67.body) ?_
    refine W_okd 1 300 _ _ _ _ ?_
    repeat' (first | refine stpA ?_ | refine kN (number85 a.med (by omega) (by omega)) ?_ | refine kB [(108, _, _)] ⟨rfl, pz trivial⟩ ?_ | refine kX [(81, _, _), (200, _, _)] [(109, _, _)] ⟨rfl, rfl, trivial⟩ ⟨rfl, pz trivial⟩ (hput) ?_ | (refine condS ?_ ?_ <;> intro h))
    refine ev_keep [7, 2, 1] [66, 81, 200] ?_
    exact enc67_7 a hv wide bad _ _ _ _ _ _ hb
  · have hq : b ++ r6 a (wd wide) = b ++ r7 a (wd wide) := by simp [r6, c6, hc]
    rw [hq] at hb ⊢
    refine ev_seq (b := suf 7 f67.body) ?_
    try simp only [Bool.not_eq_true] at hc
    refine W_okd 1 300 _ _ _ _ ?_
    repeat' (first | refine stpA ?_ | (refine condS ?_ ?_ <;> intro h))
    refine ev_keep [7, 2, 1] [66, 81, 200] ?_
    exact enc67_7 a hv wide bad _ _ _ _ _ _ hb
theorem enc67_5 (a : Attrs) (hv : EncV a) (wide bad : Bool) (b : List UInt8) (T : List (Nat × AV)) (H : Heap) (c gw g : Nat) (hb : (b ++ r5 a (wd wide)).length < 2 ^ 37) : Ev G ⟨[.code (suf 5 f67.body)], ⟨(7, .ref 81 gw 0) :: (2, .ref 66 1 0) :: (1, .bool wide) :: T, (66, some (1, .cells a.enc)) :: (81, some (gw, .cells [.vs 200 g b.length, .bool wide, .bool bad])) :: (200, some (g, .vec 1 (byteCells b))) :: H, c⟩, [.t 4, .t 5], 0⟩ (encRet (bdA a wide bad) (b ++ r5 a (wd wide))) := by
  have hf := hv.nextHop
  have hf2 := hv.origin
  have hf3 := u8_int hf2.1 hf2.2
  have hbl : b.length < 2 ^ 37 := by simp at hb; omega
  have hq : b ++ r5 a (wd wide) = (b ++ putB 3 (be 4 a.nextHop.toNat)) ++ r6 a (wd wide) := by simp [r5, c5]
  have hcat : cat [be 4 a.nextHop.toNat] = be 4 a.nextHop.toNat := by simp [cat]
  have hvl : (be 4 a.nextHop.toNat).length < 2 ^ 38 := by
    have hpl := pathL wide a hv
    first | (rw [be_length]; omega) | (simp; done) | omega
  have hput := put_gives83 [be 4 a.nextHop.toNat] 3 wide bad b (by simp) (by omega) (by omega) (by omega) (by rw [hcat]; exact hvl)
  rw [hcat] at hput
  rw [hq] at hb ⊢
  refine ev_seq (b := suf 6 f67.body) ?_
  refine W_okd 1 300 _ _ _ _ ?_
  repeat' (first | refine stpA ?_ | refine kN (number85 a.nextHop (by omega) (by omega)) ?_ | refine kB [(100, _, _)] ⟨rfl, pz trivial⟩ ?_ | refine kX [(81, _, _), (200, _, _)] [(101, _, _)] ⟨rfl, rfl, trivial⟩ ⟨rfl, pz trivial⟩ (hput) ?_ | (refine condS ?_ ?_ <;> intro h))
  refine ev_keep [7, 2, 1] [66, 81, 200] ?_
  exact enc67_6 a hv wide _ _ _ _ _ _ _ hb
theorem enc67_4 (a : Attrs) (hv : EncV a) (wide bad : Bool) (b : List UInt8) (T : List (Nat × AV)) (H : Heap) (c gw g : Nat) (hb : (b ++ r4 a (wd wide)).length < 2 ^ 37) : Ev G ⟨[.code (suf 4 f67.body)], ⟨(7, .ref 81 gw 0) :: (2, .ref 66 1 0) :: (1, .bool wide) :: T, (66, some (1, .cells a.enc)) :: (81, some (gw, .cells [.vs 200 g b.length, .bool wide, .bool bad])) :: (200, some (g, .vec 1 (byteCells b))) :: H, c⟩, [.t 4, .t 5], 0⟩ (encRet (bdA a wide (badP wide bad a.path)) (b ++ r4 a (wd wide))) := by
  have hf := hv.nextHop
  have hf2 := hv.origin
  have hf3 := u8_int hf2.1 hf2.2
  have hbl : b.length < 2 ^ 37 := by simp at hb; omega
  have hq : b ++ r4 a (wd wide) = (b ++ putB 2 (pathB (wd wide) a.path)) ++ r5 a (wd wide) := by simp [r4, c4]
  have hcat : cat [pathB (wd wide) a.path] = pathB (wd wide) a.path := by simp [cat]
  have hvl : (pathB (wd wide) a.path).length < 2 ^ 38 := by
    have hpl := pathL wide a hv
    first | (rw [be_length]; omega) | (simp; done) | omega
  have hput := put_gives83 [pathB (wd wide) a.path] 2 wide (badP wide bad a.path) b (by simp) (by omega) (by omega) (by omega) (by rw [hcat]; exact hvl)
  rw [hcat] at hput
  rw [hq] at hb ⊢
  refine ev_seq (b := suf 5 f67.body) ?_
  refine W_okd 1 300 _ _ _ _ ?_
  repeat' (first | refine stpA ?_ | refine kX [(81, _, _), (200, _, _)] [] ⟨rfl, rfl, trivial⟩ trivial ((path_gives84 a.path wide bad b hv.segs hv.path)) ?_ | refine kB [(93, _, _)] ⟨rfl, pz trivial⟩ ?_ | refine kX [(81, _, _), (200, _, _)] [(94, _, _)] ⟨rfl, rfl, trivial⟩ ⟨rfl, pz trivial⟩ (hput) ?_ | (refine condS ?_ ?_ <;> intro h))
  refine ev_keep [7, 2, 1] [66, 81, 200] ?_
  exact enc67_5 a hv wide _ _ _ _ _ _ _ hb
theorem enc67_3 (a : Attrs) (hv : EncV a) (wide bad : Bool) (b : List UInt8) (T : List (Nat × AV)) (H : Heap) (c gw g : Nat) (hb : (b ++ r3 a (wd wide)).length < 2 ^ 37) : Ev G ⟨[.code (suf 3 f67.body)], ⟨(7, .ref 81 gw 0) :: (2, .ref 66 1 0) :: (1, .bool wide) :: T, (66, some (1, .cells a.enc)) :: (81, some (gw, .cells [.vs 200 g b.length, .bool wide, .bool bad])) :: (200, some (g, .vec 1 (byteCells b))) :: H, c⟩, [.t 4, .t 5], 0⟩ (encRet (bdA a wide (badP wide bad a.path)) (b ++ r3 a (wd wide))) := by
  have hf := hv.nextHop
  have hf2 := hv.origin
  have hf3 := u8_int hf2.1 hf2.2
  have hbl : b.length < 2 ^ 37 := by simp at hb; omega
  have hq : b ++ r3 a (wd wide) = (b ++ putB 1 ([UInt8.ofNat a.origin.toNat])) ++ r4 a (wd wide) := by simp [r3, c3]
  have hcat : cat [[UInt8.ofNat a.origin.toNat]] = [UInt8.ofNat a.origin.toNat] := by simp [cat]
  have hvl : ([UInt8.ofNat a.origin.toNat]).length < 2 ^ 38 := by
    have hpl := pathL wide a hv
    first | (rw [be_length]; omega) | (simp; done) | omega
  have hput := put_gives83 [[UInt8.ofNat a.origin.toNat]] 1 wide bad b (by simp) (by omega) (by omega) (by omega) (by rw [hcat]; exact hvl)
  rw [hcat] at hput
  rw [show List.map bEnc [[UInt8.ofNat a.origin.toNat]] = [[.sl 1 [[.int .u8 a.origin]]]] from by simp only [List.map_cons, List.map_nil, bEnc, byteCells, hf3]] at hput
  rw [hq] at hb ⊢
  refine ev_seq (b := suf 4 f67.body) ?_
  refine W_okd 1 300 _ _ _ _ ?_
  repeat' (first | refine stpA ?_ | refine kB [(86, _, _)] ⟨rfl, pz trivial⟩ ?_ | refine kX [(81, _, _), (200, _, _)] [(87, _, _)] ⟨rfl, rfl, trivial⟩ ⟨rfl, pz trivial⟩ (hput) ?_ | (refine condS ?_ ?_ <;> intro h))
  refine ev_keep [7, 2, 1] [66, 81, 200] ?_
  exact enc67_4 a hv wide _ _ _ _ _ _ _ hb
def encB (a : Attrs) (wide : Bool) : List UInt8 := r3 a (wd wide)
def encBad (a : Attrs) (wide : Bool) : Bool := bdA a wide (badP wide false a.path)
theorem encode_gives67 (a : Attrs) (wide : Bool) (hb : LenB a) (hv : checkS a = 0 → EncV a ∧ (encB a wide).length < 2 ^ 37) : Gives G 67 [.agg a.enc, .bool wide] [] (if checkS a = 0 then encRet (encBad a wide) (encB a wide) else ⟨.tup [.con (.slice none 0 0), .int .i64 (checkS a)], []⟩) := by
  by_cases hc : checkS a = 0
  · obtain ⟨h1, h2⟩ := hv hc
    have h65 := check_gives65 a hb
    rw [hc] at h65
    rw [if_pos hc]
    refine gives_code (F := f67) rfl rfl ?_
    refine ev_seq (b := suf 1 f67.body) ?_
    refine W_okd 1 300 _ _ _ _ ?_
    repeat' (first | refine stpA ?_ | (refine condS ?_ ?_ <;> intro h))
    refine ev_seq (b := suf 2 f67.body) ?_
    refine W_okd 1 300 _ _ _ _ ?_
    repeat' (first | refine stpA ?_ | (refine condS ?_ ?_ <;> intro h))
    refine ev_seq (b := suf 3 f67.body) ?_
    refine W_okd 1 300 _ _ _ _ ?_
    repeat' (first | refine stpA ?_ | (refine condS ?_ ?_ <;> intro h))
    refine ev_nil 200 1 [] [(81, some (_, .cells [.vs 200 _ 0, .bool wide, .bool false]))] trivial ⟨⟨rfl, LeP.nilV _ _ _, .refl _, .refl _, trivial⟩, trivial⟩ ?_
    refine ev_keep [7, 2, 1] [66, 81, 200] ?_
    exact enc67_3 a h1 wide false [] _ _ _ _ _ h2
  · rw [if_neg hc]
    refine gives_code (F := f67) rfl rfl (W_ok 300 _ _ _ _ ?_)
    repeat' (first | refine stpA ?_ | refine kV (check_gives65 a hb) ?_ | (refine condS ?_ ?_ <;> intro h))
    all_goals ((first | refine fin1 ?_ | refine fin0 ?_); rfl)
end Go.AM.IR
set_option maxHeartbeats 4000000
set_option maxRecDepth 20000
namespace Go.AM.IR
def numsD (w n : Nat) (b : List UInt8) : List Int := (List.range n).map fun i => ((rd ((b.drop (i * w)).take w) : Nat) : Int)
@[simp] theorem numsD_length (w n : Nat) (b : List UInt8) : (numsD w n b).length = n := by simp [numsD]
end Go.AM.IR
set_option maxHeartbeats 4000000
set_option maxRecDepth 20000
namespace Go.AM.IR
end Go.AM.IR
set_option maxHeartbeats 4000000
set_option maxRecDepth 20000
namespace Go.AM.IR
end Go.AM.IR
set_option maxHeartbeats 4000000
set_option maxRecDepth 20000
namespace Go.AM.IR
set_option maxHeartbeats 40000000
end Go.AM.IR
set_option maxHeartbeats 4000000
set_option maxRecDepth 20000
namespace Go.AM.IR
end Go.AM.IR
set_option maxHeartbeats 4000000
set_option maxRecDepth 20000
namespace Go.AM.IR
end Go.AM.IR
set_option maxHeartbeats 4000000
set_option maxRecDepth 20000
namespace Go.AM.IR
structure Att where
  c : UInt8
  k : UInt8
  long : Bool
  v : List UInt8
  rest : List UInt8
def stripB (c : UInt8) : Int := bif bit16 c then (c.toNat : Int) - 16 else c.toNat
def badHead (t : Att) : Prop := ¬ stripB t.c = ((flagS (t.k.toNat : Int)).toNat : Int) ∨ (t.long = true ∧ t.v.length ≤ 255)
instance (t : Att) : Decidable (badHead t) := by unfold badHead; infer_instance
section
variable {k : AV → Prop} {b : UInt8}
end
@[simp] theorem pureLL_cut (b : List UInt8) (i n : Nat) : pureLL (((byteCells b).drop i).take n) = true := by
  rw [show byteCells b = b.map encY from rfl, ← List.map_drop, ← List.map_take]
  exact pureLL_bytes _
end Go.AM.IR
set_option maxHeartbeats 4000000
set_option maxRecDepth 20000
namespace Go.AM.IR
def capsB (l : List Cap) : List UInt8 := l.flatMap fun c => UInt8.ofNat c.code.toNat :: UInt8.ofNat c.value.length :: c.value
theorem capsB_length : ∀ l : List Cap, ((capsB l).length : Int) = capT l
  | [] => rfl
  | c :: r => by
    have := capsB_length r
    simp only [capsB, List.flatMap_cons, List.length_append, List.length_cons, capT] at *
    omega
def shortI (as : Int) : Int := if as > 65535 then 23456 else as
def capTail (l : List Cap) : List UInt8 := if capsB l = [] then [0] else UInt8.ofNat ((capsB l).length + 2) :: 2 :: UInt8.ofNat (capsB l).length :: capsB l
def openB (m : PMsg) : List UInt8 := UInt8.ofNat m.version.toNat :: (be 2 (shortI m.as).toNat ++ (be 2 m.hold.toNat ++ (be 4 m.router.toNat ++ capTail m.caps)))
def attsB (m : PMsg) (wide : Bool) : List UInt8 := if m.reach = [] then [] else encB m.attrs wide
def updB (m : PMsg) (wide : Bool) : List UInt8 := be 2 (packP m.withdrawn).length ++ (packP m.withdrawn ++ (be 2 (attsB m wide).length ++ (attsB m wide ++ packP m.reach)))
def noteB (m : PMsg) : List UInt8 := UInt8.ofNat m.code.toNat :: UInt8.ofNat m.sub.toNat :: m.data
def bodyB (m : PMsg) (wide : Bool) : List UInt8 := if m.kind = 1 then openB m else if m.kind = 2 then updB m wide else if m.kind = 3 then noteB m else if m.kind = 5 then [0, 1, 0, 1] else []
def headB (n : Nat) (k : Nat) : List UInt8 := List.replicate 16 255 ++ (be 2 n ++ [UInt8.ofNat k])
def msgB (m : PMsg) (wide : Bool) : List UInt8 := headB (19 + (bodyB m wide).length) m.kind.toNat ++ bodyB m wide
def badM (m : PMsg) (wide : Bool) : Prop := m.kind = 2 ∧ m.reach ≠ [] ∧ encBad m.attrs wide = true
instance (m : PMsg) (wide : Bool) : Decidable (badM m wide) := by unfold badM; infer_instance
def encE (m : PMsg) (wide : Bool) : Int := if checkM m ≠ 0 then checkM m else if badM m wide then 5 else if 19 + (bodyB m wide).length > 65535 then 4 else 0
def encMR (m : PMsg) (wide : Bool) : Ret := if encE m wide = 0 then ⟨.tup [.vs 0 0 (msgB m wide).length, .int .i64 0], [(false, .vec 1 (byteCells (msgB m wide)))]⟩ else ⟨.tup [.con (.slice none 0 0), .int .i64 (encE m wide)], []⟩
theorem capTail_length {m : PMsg} (h : OpenOk m) : (capTail m.caps).length ≤ 256 := by
  have h1 := capsB_length m.caps
  have h2 := h.caps.2
  unfold capTail
  split
  · simp
  · simp only [List.length_cons]; omega
theorem openB_length {m : PMsg} (h : OpenOk m) : (openB m).length ≤ 265 ∧ 10 ≤ (openB m).length := by
  have h1 := capTail_length h
  have h2 : 1 ≤ (capTail m.caps).length := by unfold capTail; split <;> simp
  unfold openB
  simp only [List.length_cons, List.length_append, be_length]
  omega
theorem zero_encE {m : PMsg} {wide : Bool} (h1 : checkM m = 0) (h2 : ¬ badM m wide) (h3 : 19 + (bodyB m wide).length ≤ 65535) : encE m wide = 0 := by
  unfold encE
  rw [if_neg (by simp [h1]), if_neg h2, if_neg (by omega)]
theorem headB_length (n k : Nat) : (headB n k).length = 19 := by simp [headB]
end Go.AM.IR
set_option maxHeartbeats 4000000
set_option maxRecDepth 20000
namespace Go.AM.IR
theorem takP {n : Nat} {es : List (List AV)} {k : List (List AV) → Prop} (hk : k (es.take n)) (h : n ≤ es.length := by first | omega | (simp; omega)) : TakeC n es k := .part h hk
theorem slL {a b c d : Prop} (k : c) (h1 : a := by first | rfl | omega) (h2 : b := by rfl) : (a ∧ b ∧ c) ∨ d := .inl ⟨h1, h2, k⟩
theorem short_gives204 (n : Int) : Gives G 204 [.int .i64 n] [] ⟨.int .i64 (shortI n), []⟩ := by
  unfold shortI
  by_cases h : n > 65535
  · rw [if_pos h]
    refine gives_code (F := f204) rfl rfl (W_ok 300 _ _ _ _ ?_)
    repeat' (first | refine stpA ?_ | (refine condS ?_ ?_ <;> intro h))
    (first | refine fin1 ?_ | refine fin0 ?_); rfl
  · rw [if_neg h]
    refine gives_code (F := f204) rfl rfl (W_ok 300 _ _ _ _ ?_)
    repeat' (first | refine stpA ?_ | (refine condS ?_ ?_ <;> intro h))
    (first | refine fin1 ?_ | refine fin0 ?_); rfl
theorem byteCells_take (b : List UInt8) (k : Nat) : (byteCells b).take k = byteCells (b.take k) := by simp [byteCells]
theorem pack_step {p : Pfx} (h : p.ok) (v : validP p = true) (done : List Pfx) (k : Nat) (hk : k = len8 p.len) : byteCells (packP done) ++ [[.int .u8 p.len]] ++ (byteCells (be 4 p.addr.toNat)).take k = byteCells (packP (done ++ [p])) := by
  obtain ⟨a, b, _, _⟩ := valid_mul h v
  subst hk
  rw [byteCells_take, be_take _ _ (len8_le b)]
  have hn : ((UInt8.ofNat p.len.toNat).toNat : Int) = p.len := by rw [show (UInt8.ofNat p.len.toNat).toNat = p.len.toNat by simp; omega]; omega
  simp [packP, pack1, byteCells]
  omega
theorem put_loop205 (l : List Pfx) (hv : ∀ p ∈ l, p.ok ∧ validP p = true) (hlen : l.length < 2 ^ 30) (hl : l.length < 2 ^ 40) (ln : Int) (hln : ln = l.length) : ∀ (rest done : List Pfx) (g m : Nat) (es : List (List AV)) (T : List (Nat × AV)) (H : Heap) (c : Nat) (n : Int) (e : l = done ++ rest) (hn : n = done.length) (hm : m = (packP done).length) (hes : es = byteCells (packP done)), Ev G ⟨f205x8LH, ⟨(6, .sl 2 (l.map Pfx.enc)) :: (7, .int .i64 ln) :: (8, .int .i64 n) :: (3, .vs 200 g m) :: T, (200, some (g, .vec 1 es)) :: H, c⟩, [.t 2], 0⟩ (rB (packP l))
  | [], done, g, m, es, T, H, c, n, e, hn, hm, hes => by
    have hd : l.length = done.length := by simp [e]
    have hll : (l.map Pfx.enc).length = l.length := by simp
    obtain rfl : l = done := by simpa using e
    refine ev_loop' (W_ok 300 _ _ _ _ ?_)
    repeat' (first | refine stpA ?_ | (refine condS ?_ ?_ <;> intro h))
    exact ev_retB 200 ⟨_, _, _, rfl, rfl, hm, hes⟩
  | x :: r, done, g, m, es, T, H, c, n, e, hn, hm, hes => by
    have hd : l.length = done.length + (r.length + 1) := by simp [e]
    have hll : (l.map Pfx.enc).length = l.length := by simp
    have hx : (l.map Pfx.enc)[n.toNat]? = some (Pfx.enc x) := by simp [e, hn]
    obtain ⟨ho, hvx⟩ := hv x (by simp [e])
    obtain ⟨a, b, _, d⟩ := valid_mul ho hvx
    have hx := ho.addr
    unfold okU at hx
    subst hm hes
    have hp := put0_gives109 4 x.addr.toNat (by omega)
    rw [show ((x.addr.toNat : Nat) : Int) = x.addr from by omega] at hp
    have hpl := packP_length (l := done) (fun p hp => by have := (valid_mul (hv p (by simp [e, hp])).1 (hv p (by simp [e, hp])).2); omega)
    have hbe : (byteCells (be 4 x.addr.toNat)).length = 4 := by simp
    have hb4 : (be 4 x.addr.toNat).length = 4 := be_length _ _
    refine ev_loop' (W_ok 300 _ _ _ _ ?_)
    repeat' (first | refine stpA ?_ | refine takP ?_ | refine slL ?_ | (refine condS ?_ ?_ <;> intro h))
    refine ev_keep [6, 7, 8, 3] [200] ?_; exact put_loop205 l hv hlen hl ln hln r (done ++ [x]) _ _ _ _ _ _ (n + 1) (by simp [e]) (by simp [hn] <;> omega) (by simp [packP, pack1, len8]; omega) (pack_step ho hvx done _ (by unfold len8; omega))
theorem put_gives205 (l : List Pfx) (hv : ∀ p ∈ l, p.ok ∧ validP p = true) (hlen : l.length < 2 ^ 30) : Gives G 205 [.sl 2 (l.map Pfx.enc)] [] (rB (packP l)) := by
  refine gives_code (F := f205) rfl rfl (W_ok 300 _ _ _ _ ?_)
  repeat' (first | refine stpA ?_ | (refine condS ?_ ?_ <;> intro h))
  refine ev_nil 200 1 [(3, .vs 200 _ 0)] [] ⟨LeP.nilV _ _ _, trivial⟩ trivial ?_
  refine ev_keep [6, 7, 8, 3] [200] ?_
  exact put_loop205 l hv hlen (by omega) _ (by simp) l [] _ _ _ _ _ _ 0 rfl rfl rfl rfl
end Go.AM.IR
set_option maxHeartbeats 4000000
set_option maxRecDepth 20000
namespace Go.AM.IR
theorem firstS_zero : ∀ l : List Int, firstS l = 0 → ∀ x ∈ l, x = 0
  | [], _, _, h => by simp at h
  | y :: r, h, x, hx => by
    simp only [firstS] at h
    split at h
    · rename_i e
      rcases List.mem_cons.1 hx with rfl | hx
      · exact e
      · exact firstS_zero r h x hx
    · rename_i e; exact absurd h e
theorem optE_zero {has : Bool} {n low : Int} (h : optE has n low = 0) : (has = true → low ≤ n ∧ n ≤ 4294967295) ∧ (has = false → n = 0) := by
  unfold optE at h
  cases has
  · simp at h ⊢; exact h
  · simp at h ⊢; omega
theorem rngS_all : ∀ l : List Int, rngS l = true → ∀ x ∈ l, 1 ≤ x ∧ x ≤ 4294967295
  | [], _, _, h => by simp at h
  | y :: r, h, x, hx => by
    simp [rngS] at h
    rcases List.mem_cons.1 hx with rfl | hx
    · exact h.1
    · exact rngS_all r h.2 x hx
theorem segE_zero {s : Seg} (h : segE s = 0) : (1 ≤ s.kind ∧ s.kind ≤ 4) ∧ (1 ≤ s.as.length ∧ s.as.length ≤ 255) ∧ ∀ x ∈ s.as, 1 ≤ x ∧ x ≤ 4294967295 := by
  unfold segE at h
  split at h
  · omega
  · split at h
    · omega
    · split at h
      · omega
      · split at h
        · omega
        · rename_i h1 h2 h3 h4
          exact ⟨by omega, by omega, rngS_all _ (by simpa using h4)⟩
theorem pathC_zero : ∀ (l : List Seg) (pl : Bool) (p : Option Seg), pathC pl p l = 0 → ∀ s ∈ l, segE s = 0
  | [], _, _, _, _, h => by simp at h
  | x :: r, pl, p, h, s, hs => by
    rw [pathC] at h
    split at h
    · rename_i h1; exact absurd h h1
    · rename_i h1
      split at h
      · omega
      · split at h
        · omega
        · rcases List.mem_cons.1 hs with rfl | hs
          · simpa using h1
          · exact pathC_zero r _ _ h s hs
theorem unkC_zero : ∀ (l : List TLV) (p : Option Int), unkC p l = 0 → ∀ t ∈ l, (11 ≤ t.kind ∧ t.kind ≤ 255) ∧ t.value.length ≤ 255
  | [], _, _, _, h => by simp at h
  | x :: r, none, h, t, ht => by
    rw [unkC] at h
    split at h
    · omega
    · split at h
      · omega
      · rcases List.mem_cons.1 ht with rfl | ht
        · omega
        · exact unkC_zero r _ h t ht
  | x :: r, some q, h, t, ht => by
    rw [unkC] at h
    split at h
    · omega
    · split at h
      · omega
      · split at h
        · omega
        · rcases List.mem_cons.1 ht with rfl | ht
          · omega
          · exact unkC_zero r _ h t ht
structure ValidA (a : Attrs) : Prop where
  origin : 0 ≤ a.origin ∧ a.origin ≤ 2
  pathL : a.path.length ≤ 64
  segs : ∀ s ∈ a.path, (1 ≤ s.kind ∧ s.kind ≤ 4) ∧ (1 ≤ s.as.length ∧ s.as.length ≤ 255) ∧ ∀ x ∈ s.as, 1 ≤ x ∧ x ≤ 4294967295
  nextHop : a.nextHop ≠ 0
  med : (a.hasMED = true → 0 ≤ a.med ∧ a.med ≤ 4294967295) ∧ (a.hasMED = false → a.med = 0)
  pref : (a.hasPref = true → 0 ≤ a.pref ∧ a.pref ≤ 4294967295) ∧ (a.hasPref = false → a.pref = 0)
  aggr : (a.hasAggr = true → 1 ≤ a.aggrAS ∧ a.aggrAS ≤ 4294967295) ∧ (a.hasAggr = false → a.aggrAS = 0)
  aggrAddr : a.hasAggr = false → a.aggrAddr = 0
  comms : a.comms.length ≤ 255
  orig : a.hasOrig = (a.orig != 0)
  clusters : a.clusters.length ≤ 64
  unknownL : a.unknown.length ≤ 64
  unknown : ∀ t ∈ a.unknown, (11 ≤ t.kind ∧ t.kind ≤ 255) ∧ t.value.length ≤ 255
theorem valid_of {a : Attrs} (h : checkS a = 0) : ValidA a := by
  have z := firstS_zero (checkL a) h
  simp only [checkL, List.mem_cons, List.not_mem_nil, or_false, forall_eq_or_imp, forall_eq] at z
  obtain ⟨z1, z2, z3, z4, z5, z6, z7, z8, z9, z10, z11⟩ := z
  have hp : a.path.length ≤ 64 ∧ pathC false none a.path = 0 := by
    unfold pathE at z2
    split at z2
    · omega
    · exact ⟨by omega, z2⟩
  have hu : a.unknown.length ≤ 64 ∧ unkC none a.unknown = 0 := by
    unfold unknownE at z11
    split at z11
    · omega
    · exact ⟨by omega, z11⟩
  refine ⟨?_, hp.1, fun s hs => segE_zero (pathC_zero _ _ _ hp.2 s hs), ?_, optE_zero z4, optE_zero z5, optE_zero z6, ?_, ?_, ?_, ?_, hu.1, unkC_zero _ _ hu.2⟩
  · split at z1 <;> omega
  · intro e; rw [if_pos e] at z3; omega
  · intro e
    split at z7
    · omega
    · rename_i hh
      simp only [e, true_and, ne_eq, Decidable.not_not] at hh
      exact hh
  · unfold commE at z8; split at z8 <;> omega
  · unfold origE at z9
    split at z9
    · omega
    · rename_i hh
      by_cases e : a.orig = 0
      · cases ho : a.hasOrig <;> simp_all
      · cases ho : a.hasOrig <;> simp_all
  · unfold clustersE at z10; split at z10 <;> omega
theorem encV_of {a : Attrs} (ha : a.ok) (h : checkS a = 0) : EncV a := by
  have v := valid_of h
  refine ⟨⟨v.origin.1, by have := v.origin.2; omega⟩, fun s hs => ?_, by have := v.pathL; omega, ha.nextHop, ?_, ?_, ?_, ha.aggrAddr, ha.comms, v.comms, ha.orig, ha.clusters, v.clusters, fun t ht => ?_, v.unknownL⟩
  · obtain ⟨h1, h2, h3⟩ := v.segs s hs
    exact ⟨by omega, by omega, fun x hx => by have := h3 x hx; omega⟩
  · cases hh : a.hasMED
    · have := v.med.2 hh; omega
    · exact v.med.1 hh
  · cases hh : a.hasPref
    · have := v.pref.2 hh; omega
    · exact v.pref.1 hh
  · cases hh : a.hasAggr
    · have := v.aggr.2 hh; omega
    · have := v.aggr.1 hh; omega
  · have := v.unknown t ht; omega
end Go.AM.IR
set_option maxHeartbeats 4000000
set_option maxRecDepth 20000
namespace Go.AM.IR
theorem putB_le (k : Int) (v : List UInt8) : (putB k v).length ≤ v.length + 4 := by
  unfold putB; split <;> simp <;> omega
theorem unkB_le : ∀ l : List TLV, (∀ t ∈ l, t.value.length ≤ 255) → (l.flatMap fun t => putB t.kind t.value).length ≤ 259 * l.length
  | [], _ => by simp
  | x :: r, h => by
    have h1 := unkB_le r fun t ht => h t (by simp [ht])
    have h2 := h x (by simp)
    have h3 := putB_le x.kind x.value
    simp only [List.flatMap_cons, List.length_append, List.length_cons]
    omega
theorem ite_len {c : Prop} [Decidable c] {x : List UInt8} : (if c then x else []).length ≤ x.length := by split <;> simp
theorem encB_le {a : Attrs} (v : ValidA a) (wide : Bool) : (encB a wide).length < 2 ^ 20 := by
  have hw := wd_le wide
  have h3 := putB_le 1 [UInt8.ofNat a.origin.toNat]
  have h4 := putB_le 2 (pathB (wd wide) a.path)
  have h4' := pathL_aux (wd wide) hw a.path fun s hs => (v.segs s hs).2.1.2
  have h4'' := v.pathL
  have h5 := putB_le 3 (be 4 a.nextHop.toNat)
  have h6 := Nat.le_trans (ite_len (c := a.hasMED = true)) (putB_le 4 (be 4 a.med.toNat))
  have h7 := Nat.le_trans (ite_len (c := a.hasPref = true)) (putB_le 5 (be 4 a.pref.toNat))
  have h8 := Nat.le_trans (ite_len (c := a.atomic = true)) (putB_le 6 [])
  have h9 := Nat.le_trans (ite_len (c := a.hasAggr = true)) (putB_le 7 (be (wd wide) a.aggrAS.toNat ++ be 4 a.aggrAddr.toNat))
  have h10 := Nat.le_trans (ite_len (c := a.comms.length > 0)) (putB_le 8 (wordsB a.comms))
  have h11 := Nat.le_trans (ite_len (c := a.hasOrig = true)) (putB_le 9 (be 4 a.orig.toNat))
  have h12 := Nat.le_trans (ite_len (c := a.clusters.length > 0)) (putB_le 10 (wordsB a.clusters))
  have h13 := unkB_le a.unknown fun t ht => (v.unknown t ht).2
  have hu := v.unknownL
  have hc := v.comms
  have hcl := v.clusters
  simp only [encB, r3, r4, r5, r6, r7, r8, r9, r10, r11, r12, r13, c3, c4, c5, c6, c7, c8, c9, c10, c11, c12, c13, List.length_append] at *
  simp only [wordsB, fm_length, be_length, List.length_cons, List.length_nil] at *
  omega
theorem badN_eq (wide bad : Bool) (n : Int) : badN wide bad n = (bad || (!wide && decide (n > 65535))) := rfl
theorem badL_eq (wide : Bool) : ∀ (l : List Int) (bad : Bool), badL wide bad l = (bad || (!wide && l.any fun n => decide (n > 65535)))
  | [], bad => by simp [badL]
  | x :: r, bad => by
    have := badL_eq wide r (badN wide bad x)
    simp only [badL, List.foldl_cons, badN_eq] at this ⊢
    rw [this]
    cases bad <;> cases wide <;> simp
theorem badP_eq (wide : Bool) : ∀ (p : List Seg) (bad : Bool), badP wide bad p = (bad || (!wide && (flatS p).any fun n => decide (n > 65535)))
  | [], bad => by simp [badP, flatS]
  | x :: r, bad => by
    have := badP_eq wide r (badL wide bad x.as)
    simp only [badP, List.foldl_cons, flatS, List.flatMap_cons, List.any_append] at this ⊢
    rw [this, badL_eq]
    cases bad <;> cases wide <;> simp
theorem encBad_eq {a : Attrs} (v : ValidA a) (wide : Bool) : encBad a wide = (!wide && (flatS a.path ++ [a.aggrAS]).any fun n => decide (n > 65535)) := by
  unfold encBad bdA
  cases h : a.hasAggr
  · rw [if_neg (by simp), badP_eq, v.aggr.2 h]; simp
  · rw [if_pos rfl, badN_eq, badP_eq]; cases wide <;> simp
def encR (a : Attrs) (wide : Bool) : Ret := if checkS a = 0 then encRet (encBad a wide) (encB a wide) else ⟨.tup [.con (.slice none 0 0), .int .i64 (checkS a)], []⟩
theorem encode67 (a : Attrs) (wide : Bool) (hb : AB a) (ha : a.ok) : Gives G 67 [.agg a.enc, .bool wide] [] (encR a wide) :=
  encode_gives67 a wide (sizeS_le hb) fun h => ⟨encV_of ha h, by have := encB_le (valid_of h) wide; omega⟩
end Go.AM.IR
set_option maxHeartbeats 4000000
set_option maxRecDepth 20000
namespace Go.AM.IR
theorem ofN {n : Nat} (h : n < 256) : ((UInt8.ofNat n).toNat : Int) = n := by rw [show (UInt8.ofNat n).toNat = n by simp; omega]
theorem cap_step (done : List Cap) (x : Cap) (h1 : 1 ≤ x.code ∧ x.code ≤ 255) : byteCells (capsB done) ++ [[.int .u8 x.code], [.int .u8 ((UInt8.ofNat (byteCells x.value).length).toNat : Int)]] ++ byteCells x.value = byteCells (capsB (done ++ [x])) := by
  have e1 : ((UInt8.ofNat x.code.toNat).toNat : Int) = x.code := by rw [ofN (by omega)]; omega
  rw [byteCells_length]
  simp only [capsB, List.flatMap_append, List.flatMap_cons, List.flatMap_nil, List.append_nil, byteCells, List.map_append, List.map_cons, e1, List.append_assoc, List.cons_append, List.nil_append]
theorem cap_loop196 (l : List Cap) (b : List UInt8) (hv : ∀ c ∈ l, (1 ≤ c.code ∧ c.code ≤ 255) ∧ c.value.length ≤ 255) (hcl : (capsB l).length ≤ 253) (hb : b.length < 2 ^ 20) (hl : l.length < 2 ^ 40) (ln : Int) (hln : ln = l.length) : ∀ (rest done : List Cap) (g gb m mb : Nat) (es eb : List (List AV)) (T : List (Nat × AV)) (H : Heap) (c : Nat) (n : Int) (e : l = done ++ rest) (hn : n = done.length) (hm : m = (capsB done).length) (hes : es = byteCells (capsB done)) (hmb : mb = b.length) (heb : eb = byteCells b), Ev G ⟨f196x12LH, ⟨(28, .sl 2 (l.map Cap.enc)) :: (29, .int .i64 ln) :: (30, .int .i64 n) :: (4, .vs 200 g m) :: (3, .vs 90 gb mb) :: T, (200, some (g, .vec 1 es)) :: (90, some (gb, .vec 1 eb)) :: H, c⟩, [.t 2], 0⟩ (rB (b ++ capTail l))
  | [], done, g, gb, m, mb, es, eb, T, H, c, n, e, hn, hm, hes, hmb, heb => by
    have hd : l.length = done.length := by simp [e]
    have hll : (l.map Cap.enc).length = l.length := by simp
    obtain rfl : l = done := by simpa using e
    subst hm hes hmb heb
    unfold capTail
    by_cases h0 : capsB l = []
    · have hz : (capsB l).length = 0 := by simp [h0]
      rw [if_pos h0]
      refine ev_loop' (W_ok 300 _ _ _ _ ?_)
      repeat' (first | refine stpA ?_ | (refine condS ?_ ?_ <;> intro h))
      refine ev_retB 90 ⟨_, _, _, rfl, rfl, (by simp), ?_⟩
      simp [byteCells]
    · have hz : 0 < (capsB l).length := List.length_pos_iff.2 h0
      rw [if_neg h0]
      have e1 : ((UInt8.ofNat ((capsB l).length + 2)).toNat : Int) = ((capsB l).length + 2 : Nat) := ofN (by omega)
      have e2 : ((UInt8.ofNat (capsB l).length).toNat : Int) = ((capsB l).length : Nat) := ofN (by omega)
      refine ev_loop' (W_ok 300 _ _ _ _ ?_)
      repeat' (first | refine stpA ?_ | (refine condS ?_ ?_ <;> intro h))
      refine ev_retB 90 ⟨_, _, _, rfl, rfl, (by simp; omega), ?_⟩
      simp only [byteCells, List.map_append, List.map_cons, e1, e2, List.append_assoc, List.cons_append, List.nil_append]
      simp
  | x :: r, done, g, gb, m, mb, es, eb, T, H, c, n, e, hn, hm, hes, hmb, heb => by
    have hd : l.length = done.length + (r.length + 1) := by simp [e]
    have hll : (l.map Cap.enc).length = l.length := by simp
    have hx : (l.map Cap.enc)[n.toNat]? = some (Cap.enc x) := by simp [e, hn]
    obtain ⟨h1, h2⟩ := hv x (by simp [e])
    subst hm hes hmb heb
    have hcd : (capsB done).length ≤ 253 := by rw [e] at hcl; simp [capsB] at hcl ⊢; omega
    refine ev_loop' (W_ok 300 _ _ _ _ ?_)
    repeat' (first | refine stpA ?_ | (refine condS ?_ ?_ <;> intro h))
    refine ev_keep [28, 29, 30, 4, 3] [200, 90] ?_; exact cap_loop196 l b hv hcl hb hl ln hln r (done ++ [x]) _ _ _ _ _ _ _ _ _ (n + 1) (by simp [e]) (by simp [hn] <;> omega) (by simp [capsB]; omega) (cap_step done x h1) rfl rfl
theorem open_gives196 (m : PMsg) (h : OpenOk m) (hr : okU m.router) : Gives G 196 [.agg m.enc] [] (rB (openB m)) := by
  obtain ⟨c1, c2⟩ := h.caps
  obtain ⟨b1, b2⟩ := h.hold
  obtain ⟨a1, a2⟩ := h.as
  have hver := h.version
  unfold okU at hr
  have hs : 0 ≤ shortI m.as ∧ shortI m.as ≤ 65535 := by unfold shortI; split <;> omega
  have h0 := short_gives204 m.as
  have hp1 := put_gives109 [UInt8.ofNat m.version.toNat] (by simp) 2 (shortI m.as).toNat (by omega)
  have hp2 := put_gives109 ([UInt8.ofNat m.version.toNat] ++ be 2 (shortI m.as).toNat) (by simp) 2 m.hold.toNat (by omega)
  have hp3 := put_gives109 ([UInt8.ofNat m.version.toNat] ++ be 2 (shortI m.as).toNat ++ be 2 m.hold.toNat) (by simp) 4 m.router.toNat (by omega)
  have hcl := capsB_length m.caps
  have hv : ∀ c ∈ m.caps, (1 ≤ c.code ∧ c.code ≤ 255) ∧ c.value.length ≤ 255 := fun c hc => ⟨c1 c hc, by have := capT_mem hc; omega⟩
  have e1 : byteCells [UInt8.ofNat m.version.toNat] = [[.int .u8 m.version]] := by
    have : ((UInt8.ofNat m.version.toNat).toNat : Int) = m.version := by rw [ofN (by omega)]; omega
    simp only [byteCells, List.map_cons, List.map_nil, this]
  rw [e1, show (((shortI m.as).toNat : Nat) : Int) = shortI m.as by omega] at hp1
  rw [show ((m.hold.toNat : Nat) : Int) = m.hold by omega] at hp2
  rw [show ((m.router.toNat : Nat) : Int) = m.router by omega] at hp3
  have hl : (m.caps.map Cap.enc).length = m.caps.length := by simp
  have hlc : m.caps.length ≤ 253 := by
    have : ∀ l : List Cap, (l.length : Int) ≤ capT l := fun l => by
      induction l with
      | nil => simp [capT]
      | cons c r ih => simp only [capT, List.length_cons]; omega
    have := this m.caps; omega
  have key := cap_loop196 m.caps ([UInt8.ofNat m.version.toNat] ++ be 2 (shortI m.as).toNat ++ be 2 m.hold.toNat ++ be 4 m.router.toNat) hv (by omega) (by simp) (by omega) ((m.caps.map Cap.enc).length : Int) (by simp) m.caps []
  rw [show openB m = [UInt8.ofNat m.version.toNat] ++ be 2 (shortI m.as).toNat ++ be 2 m.hold.toNat ++ be 4 m.router.toNat ++ capTail m.caps from by simp [openB]]
  generalize shortI m.as = sa at *
  refine gives_code (F := f196) rfl rfl (W_ok 300 _ _ _ _ ?_)
  repeat' (first | refine stpA ?_ | refine kX [] [(74, _, _)] trivial ⟨rfl, pz trivial⟩ (hp1) ?_ | refine kX [] [(80, _, _)] trivial ⟨rfl, pz trivial⟩ (hp2) ?_ | refine kX [] [(85, _, _)] trivial ⟨rfl, pz trivial⟩ (hp3) ?_ | (refine condS ?_ ?_ <;> intro h))
  refine ev_nil 200 1 [(4, .vs 200 _ 0)] [] ⟨LeP.nilV _ _ _, trivial⟩ trivial ?_
  refine ev_keep [28, 29, 30, 4, 3] [200, 90] ?_
  exact key _ _ _ _ _ _ _ _ _ 0 rfl rfl rfl rfl rfl rfl
end Go.AM.IR
set_option maxHeartbeats 4000000
set_option maxRecDepth 20000
namespace Go.AM.IR
def updR (m : PMsg) (wide : Bool) : Ret := if m.reach ≠ [] ∧ encBad m.attrs wide = true then ⟨.tup [.con (.slice none 0 0), .int .i64 5], []⟩ else if (packP m.withdrawn).length > 65535 ∨ (attsB m wide).length > 65535 then ⟨.tup [.con (.slice none 0 0), .int .i64 4], []⟩ else ⟨.tup [.vs 0 0 (updB m wide).length, .int .i64 0], [(false, .vec 1 (byteCells (updB m wide)))]⟩
theorem tupN_eq {n n' : Nat} {es es' : List (List AV)} (hn : n = n') (he : es = es') : (⟨.tup [.vs 0 0 n, .int .i64 0], [(false, .vec 1 es)]⟩ : Ret) = ⟨.tup [.vs 0 0 n', .int .i64 0], [(false, .vec 1 es')]⟩ := by subst hn he; rfl
theorem upd_gives197 (m : PMsg) (h : UpdOk m) (ho : m.ok) (hb : AB m.attrs) (hw : m.withdrawn.length < 2 ^ 30) (hr : m.reach.length < 2 ^ 30) (wide : Bool) : Gives G 197 [.agg m.enc, .bool wide] [] (updR m wide) := by
  have h1 := put_gives205 m.withdrawn (fun p hp => ⟨ho.withdrawn p hp, h.withdrawn p hp⟩) hw
  have h2 := put_gives205 m.reach (fun p hp => ⟨ho.reach p hp, h.reach p hp⟩) hr
  have l1 := packP_length (l := m.withdrawn) (fun p hp => by have := valid_mul (ho.withdrawn p hp) (h.withdrawn p hp); omega)
  have l2 := packP_length (l := m.reach) (fun p hp => by have := valid_mul (ho.reach p hp) (h.reach p hp); omega)
  have hll : (m.reach.map Pfx.enc).length = m.reach.length := by simp
  have hlm : (m.withdrawn.map Pfx.enc).length = m.withdrawn.length := by simp
  unfold updR updB
  by_cases hz : m.reach = []
  · have hzl : m.reach.length = 0 := by simp [hz]
    have ha : attsB m wide = [] := by unfold attsB; rw [if_pos hz]
    rw [if_neg (fun q => q.1 hz), ha]
    have hq : packP m.reach = [] := by rw [hz]; rfl
    rw [hq] at h2 ⊢
    generalize packP m.withdrawn = g at *
    by_cases hg : g.length > 65535
    · rw [if_pos (.inl hg)]
      refine gives_code (F := f197) rfl rfl (W_ok 300 _ _ _ _ ?_)
      repeat' (first | refine stpA ?_ | (refine condS ?_ ?_ <;> intro h))
      (first | refine fin1 ?_ | refine fin0 ?_); rfl
    · rw [if_neg (by simp; omega)]
      have p1 := put0_gives109 2 g.length (by omega)
      have p2 := put_gives109 (be 2 g.length ++ g) (by simp; omega) 2 0 (by omega)
      rw [byteCells_append] at p2
      refine gives_code (F := f197) rfl rfl (W_ok 300 _ _ _ _ ?_)
      repeat' (first | refine stpA ?_ | refine kX [] [(104, _, _)] trivial ⟨rfl, pz trivial⟩ (p2) ?_ | (refine condS ?_ ?_ <;> intro h))
      refine ev_finN [(111, _, .vec 1 _)] ⟨⟨rfl, (by simp [Blk.pure]), trivial⟩, rfl, rfl, (by simp), ?_⟩
      exact tupN_eq (by simp <;> omega) (by simp [byteCells])
  · have hzl : 0 < m.reach.length := List.length_pos_iff.2 hz
    have hck := h.attrs hz
    have ha : attsB m wide = encB m.attrs wide := by unfold attsB; rw [if_neg hz]
    have h3 := encode67 m.attrs wide hb ho.attrs
    unfold encR encRet at h3
    rw [if_pos hck] at h3
    rw [ha]
    have l3 := encB_le (valid_of hck) wide
    cases hbad : encBad m.attrs wide
    · rw [hbad, if_neg (by simp)] at h3
      rw [if_neg (by simp)]
      generalize encB m.attrs wide = a at *
      generalize packP m.withdrawn = g at *
      generalize packP m.reach = q at *
      by_cases hg : g.length > 65535
      · rw [if_pos (.inl hg)]
        refine gives_code (F := f197) rfl rfl (W_ok 300 _ _ _ _ ?_)
        repeat' (first | refine stpA ?_ | (refine condS ?_ ?_ <;> intro h))
        (first | refine fin1 ?_ | refine fin0 ?_); rfl
      · by_cases hga : a.length > 65535
        · rw [if_pos (.inr hga)]
          refine gives_code (F := f197) rfl rfl (W_ok 300 _ _ _ _ ?_)
          repeat' (first | refine stpA ?_ | (refine condS ?_ ?_ <;> intro h))
          (first | refine fin1 ?_ | refine fin0 ?_); rfl
        · rw [if_neg (by omega)]
          have p1 := put0_gives109 2 g.length (by omega)
          have p2 := put_gives109 (be 2 g.length ++ g) (by simp; omega) 2 a.length (by omega)
          rw [byteCells_append] at p2
          refine gives_code (F := f197) rfl rfl (W_ok 300 _ _ _ _ ?_)
          repeat' (first | refine stpA ?_ | refine kX [] [(104, _, _)] trivial ⟨rfl, pz trivial⟩ (p2) ?_ | (refine condS ?_ ?_ <;> intro h))
          refine ev_finN [(111, _, .vec 1 _)] ⟨⟨rfl, (by simp [Blk.pure]), trivial⟩, rfl, rfl, (by simp), ?_⟩
          exact tupN_eq (by simp <;> omega) (by simp [byteCells])
    · rw [hbad, if_pos rfl] at h3
      rw [if_pos ⟨hz, rfl⟩]
      generalize packP m.withdrawn = g at *
      refine gives_code (F := f197) rfl rfl (W_ok 300 _ _ _ _ ?_)
      repeat' (first | refine stpA ?_ | (refine condS ?_ ?_ <;> intro h))
      (first | refine fin1 ?_ | refine fin0 ?_); rfl
end Go.AM.IR
set_option maxHeartbeats 4000000
set_option maxRecDepth 20000
namespace Go.AM.IR
def wdB (l : List Int) : List UInt8 := l.flatMap fun x => be 4 x.toNat
theorem four_loop90 (l : List Int) (h0 : ∀ x ∈ l, 0 ≤ x ∧ x ≤ 4294967295) (hlen : l.length < 2 ^ 30) (hl : l.length < 2 ^ 40) (ln : Int) (hln : ln = l.length) : ∀ (rest done : List Int) (g m : Nat) (es : List (List AV)) (T : List (Nat × AV)) (H : Heap) (c : Nat) (n : Int) (e : l = done ++ rest) (hn : n = done.length) (hm : m = (wdB done).length) (hes : es = byteCells (wdB done)), Ev G ⟨f90x7LH, ⟨(6, .sl 1 (l.map encU)) :: (7, .int .i64 ln) :: (8, .int .i64 n) :: (3, .vs 79 g m) :: T, (79, some (g, .vec 1 es)) :: H, c⟩, [.t 2], 0⟩ (rB (wdB l))
  | [], done, g, m, es, T, H, c, n, e, hn, hm, hes => by
    have hd : l.length = done.length := by simp [e]
    have hll : (l.map encU).length = l.length := by simp
    obtain rfl : l = done := by simpa using e
    refine ev_loop' (W_ok 300 _ _ _ _ ?_)
    repeat' (first | refine stpA ?_ | (refine condS ?_ ?_ <;> intro h))
    exact ev_retB 79 ⟨_, _, _, rfl, rfl, hm, hes⟩
  | x :: r, done, g, m, es, T, H, c, n, e, hn, hm, hes => by
    have hd : l.length = done.length + (r.length + 1) := by simp [e]
    have hll : (l.map encU).length = l.length := by simp
    have hx : (l.map encU)[n.toNat]? = some (encU x) := by simp [e, hn]
    have hx0 := h0 x (by simp [e])
    subst hm hes
    have hput := put_gives91 (wdB done) (by rw [wdB, fm_length]; omega) 4 x.toNat (by omega)
    rw [show ((x.toNat : Nat) : Int) = x from by omega] at hput
    refine ev_loop' (W_ok 300 _ _ _ _ ?_)
    repeat' (first | refine stpA ?_ | refine kX [] [(79, _, _)] trivial ⟨rfl, pz trivial⟩ (hput) ?_ | (refine condS ?_ ?_ <;> intro h))
    refine ev_keep [6, 7, 8, 3] [79] ?_; exact four_loop90 l h0 hlen hl ln hln r (done ++ [x]) _ _ _ _ _ _ (n + 1) (by simp [e]) (by simp [hn] <;> omega) (by simp [wdB]) (by simp [wdB])
theorem four_gives90 (l : List Int) (hlen : l.length < 2 ^ 30) (h0 : ∀ x ∈ l, 0 ≤ x ∧ x ≤ 4294967295) : Gives G 90 [.sl 1 (l.map encU)] [] (rB (wdB l)) := by
  refine gives_code (F := f90) rfl rfl (W_ok 300 _ _ _ _ ?_)
  repeat' (first | refine stpA ?_ | (refine condS ?_ ?_ <;> intro h))
  refine ev_nil 79 1 [(3, .vs 79 _ 0)] [] ⟨LeP.nilV _ _ _, trivial⟩ trivial ?_
  refine ev_keep [6, 7, 8, 3] [79] ?_
  exact four_loop90 l h0 hlen (by omega) _ (by simp) l [] _ 0 _ _ _ _ 0 rfl rfl rfl rfl
theorem as_loop89 (l : List Int) (p : List Seg) (lp i : Int) (wide : Bool) (acc0 : List UInt8) (R : Ret) (h0 : ∀ x ∈ l, 0 ≤ x ∧ x < 2 ^ 63) (hB : acc0.length + 4 * l.length < 2 ^ 38) (h1 : 0 ≤ i) (h2 : i < 2 ^ 40) (go : ∀ (T : List (Nat × AV)) (H : Heap) (c g m : Nat) (es : List (List AV)), m = (acc0 ++ asB (wd wide) l).length → es = byteCells (acc0 ++ asB (wd wide) l) → Ev G ⟨f89x13LH, ⟨(10, .sl 2 (p.map Seg.enc)) :: (11, .int .i64 lp) :: (12, .int .i64 (i + 1)) :: (1, .bool wide) :: (5, .vs 102 g m) :: T, (102, some (g, .vec 1 es)) :: H, c⟩, [.t 4], 0⟩ R) (hl : l.length < 2 ^ 40) (ln : Int) (hln : ln = l.length) : ∀ (rest done : List Int) (g m : Nat) (es : List (List AV)) (T : List (Nat × AV)) (H : Heap) (c : Nat) (n : Int) (e : l = done ++ rest) (hn : n = done.length) (hm : m = (acc0 ++ asB (wd wide) done).length) (hes : es = byteCells (acc0 ++ asB (wd wide) done)), Ev G ⟨f89x11LH, ⟨(27, .sl 1 (l.map encI)) :: (28, .int .i64 ln) :: (29, .int .i64 n) :: (10, .sl 2 (p.map Seg.enc)) :: (11, .int .i64 lp) :: (12, .int .i64 i) :: (1, .bool wide) :: (5, .vs 102 g m) :: T, (102, some (g, .vec 1 es)) :: H, c⟩, [.t 4], 0⟩ R
  | [], done, g, m, es, T, H, c, n, e, hn, hm, hes => by
    have hd : l.length = done.length := by simp [e]
    have hll : (l.map encI).length = l.length := by simp
    obtain rfl : l = done := by simpa using e
    refine ev_loop' (W_ok 300 _ _ _ _ ?_)
    repeat' (first | refine stpA ?_ | (refine condS ?_ ?_ <;> intro h))
    refine ev_keep [10, 11, 12, 1, 5] [102] ?_
    exact go _ _ _ g m es hm hes
  | x :: r, done, g, m, es, T, H, c, n, e, hn, hm, hes => by
    have hd : l.length = done.length + (r.length + 1) := by simp [e]
    have hll : (l.map encI).length = l.length := by simp
    have hx : (l.map encI)[n.toNat]? = some (encI x) := by simp [e, hn]
    have hx0 := h0 x (by simp [e])
    subst hm hes
    have hw := wd_le wide
    have hml : (acc0 ++ asB (wd wide) done).length ≤ acc0.length + 4 * done.length := by
      have := wd_mul wide done.length
      rw [List.length_append, asB_length]; omega
    have hput := put_gives91 (acc0 ++ asB (wd wide) done) (by omega) (wd wide) x.toNat (by omega)
    rw [show ((x.toNat : Nat) : Int) = x from by omega] at hput
    refine ev_loop' (W_ok 300 _ _ _ _ ?_)
    repeat' (first | refine stpA ?_ | refine kV (width_gives92 wide) ?_ | refine kX [] [(102, _, _)] trivial ⟨rfl, pz trivial⟩ (hput) ?_ | (refine condS ?_ ?_ <;> intro h))
    refine ev_keep [27, 28, 29, 10, 11, 12, 1, 5] [102] ?_; exact as_loop89 l p lp i wide acc0 R h0 hB h1 h2 go hl ln hln r (done ++ [x]) _ _ _ _ _ _ (n + 1) (by simp [e]) (by simp [hn] <;> omega) (by simp [asB]) (by simp [asB])
theorem path_loop89 (l : List Seg) (wide : Bool) (h0 : ∀ s ∈ l, (0 ≤ s.kind ∧ s.kind ≤ 255) ∧ s.as.length ≤ 255 ∧ ∀ x ∈ s.as, 0 ≤ x ∧ x < 2 ^ 63) (hlen : l.length < 2 ^ 20) (hl : l.length < 2 ^ 40) (ln : Int) (hln : ln = l.length) : ∀ (rest done : List Seg) (g m : Nat) (es : List (List AV)) (T : List (Nat × AV)) (H : Heap) (c : Nat) (n : Int) (e : l = done ++ rest) (hn : n = done.length) (hm : m = (pathB (wd wide) done).length) (hes : es = byteCells (pathB (wd wide) done)) (hml : m ≤ 2000 * done.length), Ev G ⟨f89x13LH, ⟨(10, .sl 2 (l.map Seg.enc)) :: (11, .int .i64 ln) :: (12, .int .i64 n) :: (1, .bool wide) :: (5, .vs 102 g m) :: T, (102, some (g, .vec 1 es)) :: H, c⟩, [.t 4], 0⟩ (rB (pathB (wd wide) l))
  | [], done, g, m, es, T, H, c, n, e, hn, hm, hes, hml => by
    have hd : l.length = done.length := by simp [e]
    have hll : (l.map Seg.enc).length = l.length := by simp
    obtain rfl : l = done := by simpa using e
    refine ev_loop' (W_ok 300 _ _ _ _ ?_)
    repeat' (first | refine stpA ?_ | (refine condS ?_ ?_ <;> intro h))
    exact ev_retB 102 ⟨_, _, _, rfl, rfl, hm, hes⟩
  | x :: r, done, g, m, es, T, H, c, n, e, hn, hm, hes, hml => by
    have hd : l.length = done.length + (r.length + 1) := by simp [e]
    have hll : (l.map Seg.enc).length = l.length := by simp
    have hx : (l.map Seg.enc)[n.toNat]? = some (Seg.enc x) := by simp [e, hn]
    obtain ⟨⟨hk0, hk1⟩, hal, hx⟩ := h0 x (by simp [e])
    have hel : m = es.length := by rw [hm, hes]; simp
    have hxl : (x.as.map encI).length = x.as.length := by simp
    have e1 := u8_int hk0 hk1
    have e2 := u8_nat hal
    refine ev_loop' (W_ok 300 _ _ _ _ ?_)
    repeat' (first | refine stpA ?_ | (refine condS ?_ ?_ <;> intro h))
    refine ev_keep [27, 28, 29, 10, 11, 12, 1, 5] [102] ?_
    have hps : (pathB (wd wide) (done ++ [x])) = (pathB (wd wide) done ++ [UInt8.ofNat x.kind.toNat, UInt8.ofNat x.as.length]) ++ asB (wd wide) x.as := by simp [pathB, segB]
    have hwm := wd_mul wide x.as.length
    refine as_loop89 x.as l ln n wide (pathB (wd wide) done ++ [UInt8.ofNat x.kind.toNat, UInt8.ofNat x.as.length]) _ hx (by simp; omega) (by omega) (by omega) ?_ (by omega) _ (by simp) x.as [] _ _ _ _ _ _ 0 rfl rfl ?_ ?_
    · intro T H c g m es q1 q2
      refine path_loop89 l wide h0 hlen hl ln hln r (done ++ [x]) g m es T H c (n + 1) (by simp [e]) (by simp [hn]) ?_ ?_ ?_
      · rw [q1, hps]
      · rw [q2, hps]
      · rw [q1]; simp [asB_length]; omega
    · simp [hm, asB]
    · rw [hes]; simp only [asB, List.flatMap_nil, List.append_nil, byteCells_append]; simp only [byteCells, List.map_cons, List.map_nil, e1, e2, hxl]
theorem path_gives89 (p : List Seg) (wide : Bool) (h0 : ∀ s ∈ p, (0 ≤ s.kind ∧ s.kind ≤ 255) ∧ s.as.length ≤ 255 ∧ ∀ x ∈ s.as, 0 ≤ x ∧ x < 2 ^ 63) (hlen : p.length < 2 ^ 20) : Gives G 89 [.sl 2 (p.map Seg.enc), .bool wide] [] (rB (pathB (wd wide) p)) := by
  refine gives_code (F := f89) rfl rfl (W_ok 300 _ _ _ _ ?_)
  repeat' (first | refine stpA ?_ | (refine condS ?_ ?_ <;> intro h))
  refine ev_nil 102 1 [(5, .vs 102 _ 0)] [] ⟨LeP.nilV _ _ _, trivial⟩ trivial ?_
  refine ev_keep [10, 11, 12, 1, 5] [102] ?_
  exact path_loop89 p wide h0 hlen (by omega) _ (by simp) p [] _ 0 _ _ _ _ 0 rfl rfl rfl rfl (by simp)
theorem flags_gives102 (k : Int) (h0 : 0 ≤ k) : Gives G 102 [.int .i64 k] [] ⟨.int .i64 ((if 0 < k then (flagS k).toNat else 224 : Nat) : Int), []⟩ := by
  by_cases h : k > 10
  · rw [show flagS k = 224 from by simp [flagS, h]]
    refine gives_code (F := f102) rfl rfl (W_ok 300 _ _ _ _ ?_)
    repeat' (first | refine stpA ?_ | (refine condS ?_ ?_ <;> intro h))
    all_goals ((first | refine fin1 ?_ | refine fin0 ?_); simp; try omega)
  · have h2 : k = 0 ∨ k = 1 ∨ k = 2 ∨ k = 3 ∨ k = 4 ∨ k = 5 ∨ k = 6 ∨ k = 7 ∨ k = 8 ∨ k = 9 ∨ k = 10 := by omega
    rcases h2 with rfl | rfl | rfl | rfl | rfl | rfl | rfl | rfl | rfl | rfl | rfl
    all_goals
      refine gives_code (F := f102) rfl rfl (W_ok 300 _ _ _ _ ?_)
      repeat' (first | refine stpA ?_ | (refine condS ?_ ?_ <;> intro h))
      all_goals ((first | refine fin1 ?_ | refine fin0 ?_); rfl)
theorem or16 (k : Int) (h0 : 0 < k) : (((flagS k ||| 16 : UInt8).toNat : Nat) : Int) = (flagS k).toNat + 16 ∧ (flagS k).toNat ≤ 224 := by
  by_cases h : k > 10
  · rw [show flagS k = 224 from by simp [flagS, h]]; decide
  · have h2 : k = 1 ∨ k = 2 ∨ k = 3 ∨ k = 4 ∨ k = 5 ∨ k = 6 ∨ k = 7 ∨ k = 8 ∨ k = 9 ∨ k = 10 := by omega
    rcases h2 with rfl | rfl | rfl | rfl | rfl | rfl | rfl | rfl | rfl | rfl <;> decide
end Go.AM.IR
set_option maxHeartbeats 4000000
set_option maxRecDepth 20000
namespace Go.AM.IR
theorem flags102 (k : Int) (h0 : 0 ≤ k) : Gives G 102 [.int .i64 k] [] ⟨.int .i64 ((flagS k).toNat : Nat), []⟩ := by
  have h := flags_gives102 k h0
  by_cases hk : 0 < k
  · rwa [if_pos hk] at h
  · obtain rfl : k = 0 := by omega
    exact h
theorem retB_eq {n n' : Nat} {es es' : List (List AV)} {x y : List (Bool × Blk)} (hn : n = n') (he : es = es') (hx : x = y) : (⟨.vs 0 0 n, (false, .vec 1 es) :: x⟩ : Ret) = ⟨.vs 0 0 n', (false, .vec 1 es') :: y⟩ := by subst hn he hx; rfl
theorem attr_gives88a (b v : List UInt8) (k : Int) (hk0 : 0 < k) (hk1 : k ≤ 255) (hb : b.length < 2 ^ 38) (hv : v.length < 2 ^ 38) : Gives G 88 [.vs 0 0 b.length, .int .i64 k, .vs 1 0 v.length] [.vec 1 (byteCells b), .vec 1 (byteCells v)] ⟨.vs 0 0 (b ++ putB k v).length, [(false, .vec 1 (byteCells (b ++ putB k v))), (true, .vec 1 (byteCells v))]⟩ := by
  obtain ⟨ho, hf⟩ := or16 k hk0
  have e1 := u8_int (by omega : 0 ≤ k) hk1
  have hvl := byteCells_length v
  by_cases hlong : v.length > 255
  · rw [show b ++ putB k v = b ++ [flagS k ||| 16, UInt8.ofNat k.toNat] ++ be 2 v.length ++ v from by simp [putB, hlong]]
    have hput := put_gives91 (b ++ [flagS k ||| 16, UInt8.ofNat k.toNat]) (by simp; omega) 2 v.length (by omega)
    have hB : byteCells (b ++ [flagS k ||| 16, UInt8.ofNat k.toNat]) = byteCells b ++ [[.int .u8 ((flagS k).toNat + 16)], [.int .u8 k]] := by
      simp only [byteCells, List.map_append, List.map_cons, List.map_nil, ho, e1]
    rw [hB] at hput
    refine gives_code (F := f88) rfl rfl (W_ok 300 _ _ _ _ ?_)
    repeat' (first | refine stpA ?_ | refine kV (flags102 k (by omega)) ?_ | refine kX [] [(0, _, _)] trivial ⟨rfl, pz trivial⟩ (hput) ?_ | (refine condS ?_ ?_ <;> intro h))
    conv => whnf
    refine ev_mvP 92 0 [(6, .vs 0 _ _)] [(1, _)] rfl (by first | rfl | (simp [Blk.pure, pureLL, pureL, AV.pure]; done) | fail) (by decide) ⟨(by show AV.ren _ (.vs 92 _ _) = _; simp only [AV.ren, φM, and_self, if_true]; rfl), trivial⟩ ⟨⟨by decide, by decide, (by show _ = some (0, Blk.ren _ (.vec 1 _)); rw [Blk.ren_pure (by simp [Blk.pure])])⟩, trivial⟩ ?_
    intro T H
    (conv => whnf); first | refine finX1 [(0, _, _), (1, _, _)] [] [false, true] ?_ | refine finX0 [(0, _, _), (1, _, _)] [] [false, true] ?_
    exact retB_eq (by simp <;> omega) (by simp [byteCells]) rfl
  · rw [show b ++ putB k v = b ++ [flagS k, UInt8.ofNat k.toNat] ++ be 1 v.length ++ v from by simp [putB, hlong, be]]
    have hput := put_gives91 (b ++ [flagS k, UInt8.ofNat k.toNat]) (by simp; omega) 1 v.length (by omega)
    have hB : byteCells (b ++ [flagS k, UInt8.ofNat k.toNat]) = byteCells b ++ [[.int .u8 (flagS k).toNat], [.int .u8 k]] := by
      simp only [byteCells, List.map_append, List.map_cons, List.map_nil, e1]
    rw [hB] at hput
    refine gives_code (F := f88) rfl rfl (W_ok 300 _ _ _ _ ?_)
    repeat' (first | refine stpA ?_ | refine kV (flags102 k (by omega)) ?_ | refine kX [] [(0, _, _)] trivial ⟨rfl, pz trivial⟩ (hput) ?_ | (refine condS ?_ ?_ <;> intro h))
    conv => whnf
    refine ev_mvP 92 0 [(6, .vs 0 _ _)] [(1, _)] rfl (by first | rfl | (simp [Blk.pure, pureLL, pureL, AV.pure]; done) | fail) (by decide) ⟨(by show AV.ren _ (.vs 92 _ _) = _; simp only [AV.ren, φM, and_self, if_true]; rfl), trivial⟩ ⟨⟨by decide, by decide, (by show _ = some (0, Blk.ren _ (.vec 1 _)); rw [Blk.ren_pure (by simp [Blk.pure])])⟩, trivial⟩ ?_
    intro T H
    (conv => whnf); first | refine finX1 [(0, _, _), (1, _, _)] [] [false, true] ?_ | refine finX0 [(0, _, _), (1, _, _)] [] [false, true] ?_
    exact retB_eq (by simp <;> omega) (by simp [byteCells]) rfl
theorem attr_gives88b (b v : List UInt8) (k : Int) (hk0 : 0 < k) (hk1 : k ≤ 255) (hb : b.length < 2 ^ 38) (hv : v.length < 2 ^ 38) : Gives G 88 [.vs 0 0 b.length, .int .i64 k, .sl 1 (byteCells v)] [.vec 1 (byteCells b)] ⟨.vs 0 0 (b ++ putB k v).length, [(false, .vec 1 (byteCells (b ++ putB k v)))]⟩ := by
  obtain ⟨ho, hf⟩ := or16 k hk0
  have e1 := u8_int (by omega : 0 ≤ k) hk1
  have hvl := byteCells_length v
  by_cases hlong : v.length > 255
  · rw [show b ++ putB k v = b ++ [flagS k ||| 16, UInt8.ofNat k.toNat] ++ be 2 v.length ++ v from by simp [putB, hlong]]
    have hput := put_gives91 (b ++ [flagS k ||| 16, UInt8.ofNat k.toNat]) (by simp; omega) 2 (byteCells v).length (by omega)
    have hB : byteCells (b ++ [flagS k ||| 16, UInt8.ofNat k.toNat]) = byteCells b ++ [[.int .u8 ((flagS k).toNat + 16)], [.int .u8 k]] := by
      simp only [byteCells, List.map_append, List.map_cons, List.map_nil, ho, e1]
    rw [hB] at hput
    refine gives_code (F := f88) rfl rfl (W_ok 300 _ _ _ _ ?_)
    repeat' (first | refine stpA ?_ | refine kV (flags102 k (by omega)) ?_ | refine kX [] [(0, _, _)] trivial ⟨rfl, pz trivial⟩ (hput) ?_ | (refine condS ?_ ?_ <;> intro h))
    conv => whnf
    refine ev_mvP 92 0 [(6, .vs 0 _ _)] [] rfl (by first | rfl | (simp [Blk.pure, pureLL, pureL, AV.pure]; done) | fail) (by decide) ⟨(by show AV.ren _ (.vs 92 _ _) = _; simp only [AV.ren, φM, and_self, if_true]; rfl), trivial⟩ trivial ?_
    intro T H
    (conv => whnf); first | refine finX1 [(0, _, _)] [] [false] ?_ | refine finX0 [(0, _, _)] [] [false] ?_
    exact retB_eq (by simp <;> omega) (by simp [byteCells]) rfl
  · rw [show b ++ putB k v = b ++ [flagS k, UInt8.ofNat k.toNat] ++ be 1 v.length ++ v from by simp [putB, hlong, be]]
    have hput := put_gives91 (b ++ [flagS k, UInt8.ofNat k.toNat]) (by simp; omega) 1 (byteCells v).length (by omega)
    have hB : byteCells (b ++ [flagS k, UInt8.ofNat k.toNat]) = byteCells b ++ [[.int .u8 (flagS k).toNat], [.int .u8 k]] := by
      simp only [byteCells, List.map_append, List.map_cons, List.map_nil, e1]
    rw [hB] at hput
    refine gives_code (F := f88) rfl rfl (W_ok 300 _ _ _ _ ?_)
    repeat' (first | refine stpA ?_ | refine kV (flags102 k (by omega)) ?_ | refine kX [] [(0, _, _)] trivial ⟨rfl, pz trivial⟩ (hput) ?_ | (refine condS ?_ ?_ <;> intro h))
    conv => whnf
    refine ev_mvP 92 0 [(6, .vs 0 _ _)] [] rfl (by first | rfl | (simp [Blk.pure, pureLL, pureL, AV.pure]; done) | fail) (by decide) ⟨(by show AV.ren _ (.vs 92 _ _) = _; simp only [AV.ren, φM, and_self, if_true]; rfl), trivial⟩ trivial ?_
    intro T H
    (conv => whnf); first | refine finX1 [(0, _, _)] [] [false] ?_ | refine finX0 [(0, _, _)] [] [false] ?_
    exact retB_eq (by simp <;> omega) (by simp [byteCells]) rfl
theorem retC_eq {n n' : Nat} {es es' : List (List AV)} {b : Blk} (hn : n = n') (he : es = es') : (⟨.vs 1 0 n, [(true, b), (false, .vec 1 es)]⟩ : Ret) = ⟨.vs 1 0 n', [(true, b), (false, .vec 1 es')]⟩ := by subst hn he; rfl
theorem attr_gives88c (v : List UInt8) (k : Int) (hk0 : 0 < k) (hk1 : k ≤ 255) (hv : v.length < 2 ^ 38) : Gives G 88 [.con (.slice none 0 0), .int .i64 k, .vs 0 0 v.length] [.vec 1 (byteCells v)] ⟨.vs 1 0 (putB k v).length, [(true, .vec 1 (byteCells v)), (false, .vec 1 (byteCells (putB k v)))]⟩ := by
  obtain ⟨ho, hf⟩ := or16 k hk0
  have e1 := u8_int (by omega : 0 ≤ k) hk1
  have hvl := byteCells_length v
  by_cases hlong : v.length > 255
  · rw [show putB k v = [flagS k ||| 16, UInt8.ofNat k.toNat] ++ be 2 v.length ++ v from by simp [putB, hlong]]
    have hput := put_gives91 [flagS k ||| 16, UInt8.ofNat k.toNat] (by simp) 2 v.length (by omega)
    have hB : byteCells [flagS k ||| 16, UInt8.ofNat k.toNat] = [[.int .u8 ((flagS k).toNat + 16)], [.int .u8 k]] := by
      simp only [byteCells, List.map_cons, List.map_nil, ho, e1]
    rw [hB] at hput
    refine gives_code (F := f88) rfl rfl (W_ok 300 _ _ _ _ ?_)
    repeat' (first | refine stpA ?_ | refine kV (flags102 k (by omega)) ?_ | refine kX [] [(86, _, _)] trivial ⟨rfl, pz trivial⟩ (hput) ?_ | (refine condS ?_ ?_ <;> intro h))
    (conv => whnf); first | refine finX1 [(0, _, _)] [(92, _, _)] [true] ?_ | refine finX0 [(0, _, _)] [(92, _, _)] [true] ?_
    exact retC_eq (by simp <;> omega) (by simp [byteCells])
  · rw [show putB k v = [flagS k, UInt8.ofNat k.toNat] ++ be 1 v.length ++ v from by simp [putB, hlong, be]]
    have hput := put_gives91 [flagS k, UInt8.ofNat k.toNat] (by simp) 1 v.length (by omega)
    have hB : byteCells [flagS k, UInt8.ofNat k.toNat] = [[.int .u8 (flagS k).toNat], [.int .u8 k]] := by
      simp only [byteCells, List.map_cons, List.map_nil, e1]
    rw [hB] at hput
    refine gives_code (F := f88) rfl rfl (W_ok 300 _ _ _ _ ?_)
    repeat' (first | refine stpA ?_ | refine kV (flags102 k (by omega)) ?_ | refine kX [] [(86, _, _)] trivial ⟨rfl, pz trivial⟩ (hput) ?_ | (refine condS ?_ ?_ <;> intro h))
    (conv => whnf); first | refine finX1 [(0, _, _)] [(92, _, _)] [true] ?_ | refine finX0 [(0, _, _)] [(92, _, _)] [true] ?_
    exact retC_eq (by simp <;> omega) (by simp [byteCells])
end Go.AM.IR
set_option maxHeartbeats 4000000
set_option maxRecDepth 20000
namespace Go.AM.IR
theorem wdB_eq (l : List Int) : wdB l = wordsB l := rfl
theorem four1 (x : Int) (h0 : 0 ≤ x) (h1 : x ≤ 4294967295) : Gives G 90 [.sl 1 [[.int .u32 x]]] [] (rB (be 4 x.toNat)) := by
  have h := four_gives90 [x] (by simp) (by simp; omega)
  rw [show wdB [x] = be 4 x.toNat from by simp [wdB]] at h
  exact h
theorem unk_loop68 (l : List TLV) (a : Attrs) (hv : ∀ t ∈ l, (0 < t.kind ∧ t.kind ≤ 255) ∧ t.value.length ≤ 255) (ha : a.unknown = l) (b0 : List UInt8) (hb : (b0 ++ c13 a).length < 2 ^ 37) (hl : l.length < 2 ^ 40) (ln : Int) (hln : ln = l.length) : ∀ (rest done : List TLV) (g n1 : Nat) (es : List (List AV)) (T : List (Nat × AV)) (H : Heap) (c : Nat) (n : Int) (e : l = done ++ rest) (hn : n = done.length) (hn1 : n1 = (b0 ++ done.flatMap fun t => putB t.kind t.value).length) (hes : es = byteCells (b0 ++ done.flatMap fun t => putB t.kind t.value)), Ev G ⟨f68x36LH, ⟨(121, .sl 2 (l.map TLV.enc)) :: (122, .int .i64 ln) :: (123, .int .i64 n) :: (10, .vs 108 g n1) :: T, (108, some (g, .vec 1 es)) :: H, c⟩, [.t 4, .t 5], 0⟩ (encRet false (b0 ++ c13 a))
  | [], done, g, n1, es, T, H, c, n, e, hn, hn1, hes => by
    have hd : l.length = done.length := by simp [e]
    have hll : (l.map TLV.enc).length = l.length := by simp
    obtain rfl : l = done := by simpa using e
    subst hn1 hes
    refine ev_loop' (W_ok 300 _ _ _ _ ?_)
    repeat' (first | refine stpA ?_ | (refine condS ?_ ?_ <;> intro h))
    refine ev_finN [(108, g, .vec 1 (byteCells _))] ⟨⟨rfl, (by simp [Blk.pure]), trivial⟩, rfl, rfl, (by simp), ?_⟩
    simp [AV.ren, renL, φR, encRet, c13, ha]
  | x :: r, done, g, n1, es, T, H, c, n, e, hn, hn1, hes => by
    have hd : l.length = done.length + (r.length + 1) := by simp [e]
    have hll : (l.map TLV.enc).length = l.length := by simp
    have hx : (l.map TLV.enc)[n.toNat]? = some (TLV.enc x) := by simp [e, hn]
    obtain ⟨⟨hk0, hk1⟩, hxl⟩ := hv x (by simp [e])
    subst hn1 hes
    have hb2 : (b0 ++ done.flatMap fun t => putB t.kind t.value).length ≤ (b0 ++ c13 a).length := by simp [c13, ha, e]
    have hput := attr_gives88b (b0 ++ done.flatMap fun t => putB t.kind t.value) x.value x.kind hk0 hk1 (by omega) (by omega)
    refine ev_loop' (W_ok 300 _ _ _ _ ?_)
    repeat' (first | refine stpA ?_ | refine kX [(108, _, _)] [] ⟨rfl, trivial⟩ trivial (hput) ?_ | (refine condS ?_ ?_ <;> intro h))
    refine ev_keep [121, 122, 123, 10] [108] ?_; exact unk_loop68 l a hv ha b0 hb hl ln hln r (done ++ [x]) _ _ _ _ _ _ (n + 1) (by simp [e]) (by simp [hn] <;> omega) (by simp) (by simp)
structure EncV2 (a : Attrs) : Prop where
  unknown : ∀ t ∈ a.unknown, (0 < t.kind ∧ t.kind ≤ 255) ∧ t.value.length ≤ 255
theorem enc68_15 (a : Attrs) (hv : EncV a) (hv2 : EncV2 a) (wide : Bool) (b : List UInt8) (T : List (Nat × AV)) (H : Heap) (c g : Nat) (hb : (b ++ r13 a (wd wide)).length < 2 ^ 37) : Ev G ⟨[.code (suf 15 f68.body)], ⟨(10, .vs 108 g b.length) :: (2, .ref 66 1 0) :: (1, .bool wide) :: T, (66, some (1, .cells a.enc)) :: (108, some (g, .vec 1 (byteCells b))) :: H, c⟩, [.t 4, .t 5], 0⟩ (encRet false (b ++ r13 a (wd wide))) := by
  refine ev_seq (b := suf 16 f68.body) ?_
  refine W_ok 300 _ _ _ _ ?_
  repeat' (first | refine stpA ?_ | (refine condS ?_ ?_ <;> intro h))
  refine ev_keep [121, 122, 123, 10] [108] ?_
  have hu := hv.unknownL
  exact unk_loop68 a.unknown a hv2.unknown rfl b hb (by omega) _ (by simp) a.unknown [] g b.length (byteCells b) _ _ _ 0 rfl rfl (by simp) (by simp)
theorem enc68_14 (a : Attrs) (hv : EncV a) (hv2 : EncV2 a) (wide : Bool) (b : List UInt8) (T : List (Nat × AV)) (H : Heap) (c g : Nat) (hb : (b ++ r12 a (wd wide)).length < 2 ^ 37) : Ev G ⟨[.code (suf 14 f68.body)], ⟨(10, .vs 108 g b.length) :: (2, .ref 66 1 0) :: (1, .bool wide) :: T, (66, some (1, .cells a.enc)) :: (108, some (g, .vec 1 (byteCells b))) :: H, c⟩, [.t 4, .t 5], 0⟩ (encRet false (b ++ r12 a (wd wide))) := by
  have hf := hv.clusters
  have hag := hv.aggrAddr
  have hwd := wd_le wide
  have hcl := hv.clustersL
  have hcm := hv.commsL
  have hll1 : (a.clusters.map encU).length = a.clusters.length := by simp
  have hll2 : (a.comms.map encU).length = a.comms.length := by simp
  have hbl : b.length < 2 ^ 37 := by simp at hb; omega
  by_cases hc : a.clusters.length > 0
  · have hq : b ++ r12 a (wd wide) = (b ++ putB 10 (wdB a.clusters)) ++ r13 a (wd wide) := by simp [r12, c12, hc, wdB_eq]
    have hvl : (wdB a.clusters : List UInt8).length < 2 ^ 38 := by (rw [wdB, fm_length]; omega)
    have hput := attr_gives88a b (wdB a.clusters) 10 (by omega) (by omega) (by omega) hvl
    rw [hq] at hb ⊢
    refine ev_seq (b := suf 15 f68.body) ?_
    refine W_okd 1 300 _ _ _ _ ?_
    repeat' (first | refine stpA ?_ | refine kN (four_gives90 a.clusters (by omega) hv.clusters) ?_ | refine kX [(108, _, _), (182, _, _)] [] ⟨rfl, rfl, trivial⟩ trivial (hput) ?_ | (refine condS ?_ ?_ <;> intro h))
    refine ev_keep [10, 2, 1] [66, 108] ?_
    exact enc68_15 a hv hv2 wide _ _ _ _ _ hb
  · have hq : b ++ r12 a (wd wide) = b ++ r13 a (wd wide) := by simp [r12, c12, hc]
    rw [hq] at hb ⊢
    refine ev_seq (b := suf 15 f68.body) ?_
    try simp only [Bool.not_eq_true] at hc
    refine W_okd 1 300 _ _ _ _ ?_
    repeat' (first | refine stpA ?_ | (refine condS ?_ ?_ <;> intro h))
    refine ev_keep [10, 2, 1] [66, 108] ?_
    exact enc68_15 a hv hv2 wide _ _ _ _ _ hb
theorem enc68_13 (a : Attrs) (hv : EncV a) (hv2 : EncV2 a) (wide : Bool) (b : List UInt8) (T : List (Nat × AV)) (H : Heap) (c g : Nat) (hb : (b ++ r11 a (wd wide)).length < 2 ^ 37) : Ev G ⟨[.code (suf 13 f68.body)], ⟨(10, .vs 108 g b.length) :: (2, .ref 66 1 0) :: (1, .bool wide) :: T, (66, some (1, .cells a.enc)) :: (108, some (g, .vec 1 (byteCells b))) :: H, c⟩, [.t 4, .t 5], 0⟩ (encRet false (b ++ r11 a (wd wide))) := by
  have hf := hv.orig
  have hag := hv.aggrAddr
  have hwd := wd_le wide
  have hcl := hv.clustersL
  have hcm := hv.commsL
  have hll1 : (a.clusters.map encU).length = a.clusters.length := by simp
  have hll2 : (a.comms.map encU).length = a.comms.length := by simp
  have hbl : b.length < 2 ^ 37 := by simp at hb; omega
  by_cases hc : a.hasOrig = true
  · have hq : b ++ r11 a (wd wide) = (b ++ putB 9 (be 4 a.orig.toNat)) ++ r12 a (wd wide) := by simp [r11, c11, hc, wdB_eq]
    have hvl : (be 4 a.orig.toNat : List UInt8).length < 2 ^ 38 := by (rw [be_length]; omega)
    have hput := attr_gives88a b (be 4 a.orig.toNat) 9 (by omega) (by omega) (by omega) hvl
    rw [hq] at hb ⊢
    refine ev_seq (b := suf 14 f68.body) ?_
    refine W_okd 1 300 _ _ _ _ ?_
    repeat' (first | refine stpA ?_ | refine kX [] [(172, _, _)] trivial ⟨rfl, pz trivial⟩ ((four1 a.orig (by omega) (by omega))) ?_ | refine kX [(108, _, _), (173, _, _)] [] ⟨rfl, rfl, trivial⟩ trivial (hput) ?_ | (refine condS ?_ ?_ <;> intro h))
    refine ev_keep [10, 2, 1] [66, 108] ?_
    exact enc68_14 a hv hv2 wide _ _ _ _ _ hb
  · have hq : b ++ r11 a (wd wide) = b ++ r12 a (wd wide) := by simp [r11, c11, hc]
    rw [hq] at hb ⊢
    refine ev_seq (b := suf 14 f68.body) ?_
    try simp only [Bool.not_eq_true] at hc
    refine W_okd 1 300 _ _ _ _ ?_
    repeat' (first | refine stpA ?_ | (refine condS ?_ ?_ <;> intro h))
    refine ev_keep [10, 2, 1] [66, 108] ?_
    exact enc68_14 a hv hv2 wide _ _ _ _ _ hb
theorem enc68_12 (a : Attrs) (hv : EncV a) (hv2 : EncV2 a) (wide : Bool) (b : List UInt8) (T : List (Nat × AV)) (H : Heap) (c g : Nat) (hb : (b ++ r10 a (wd wide)).length < 2 ^ 37) : Ev G ⟨[.code (suf 12 f68.body)], ⟨(10, .vs 108 g b.length) :: (2, .ref 66 1 0) :: (1, .bool wide) :: T, (66, some (1, .cells a.enc)) :: (108, some (g, .vec 1 (byteCells b))) :: H, c⟩, [.t 4, .t 5], 0⟩ (encRet false (b ++ r10 a (wd wide))) := by
  have hf := hv.comms
  have hag := hv.aggrAddr
  have hwd := wd_le wide
  have hcl := hv.clustersL
  have hcm := hv.commsL
  have hll1 : (a.clusters.map encU).length = a.clusters.length := by simp
  have hll2 : (a.comms.map encU).length = a.comms.length := by simp
  have hbl : b.length < 2 ^ 37 := by simp at hb; omega
  by_cases hc : a.comms.length > 0
  · have hq : b ++ r10 a (wd wide) = (b ++ putB 8 (wdB a.comms)) ++ r11 a (wd wide) := by simp [r10, c10, hc, wdB_eq]
    have hvl : (wdB a.comms : List UInt8).length < 2 ^ 38 := by (rw [wdB, fm_length]; omega)
    have hput := attr_gives88a b (wdB a.comms) 8 (by omega) (by omega) (by omega) hvl
    rw [hq] at hb ⊢
    refine ev_seq (b := suf 13 f68.body) ?_
    refine W_okd 1 300 _ _ _ _ ?_
    repeat' (first | refine stpA ?_ | refine kN (four_gives90 a.comms (by omega) hv.comms) ?_ | refine kX [(108, _, _), (165, _, _)] [] ⟨rfl, rfl, trivial⟩ trivial (hput) ?_ | (refine condS ?_ ?_ <;> intro h))
    refine ev_keep [10, 2, 1] [66, 108] ?_
    exact enc68_13 a hv hv2 wide _ _ _ _ _ hb
  · have hq : b ++ r10 a (wd wide) = b ++ r11 a (wd wide) := by simp [r10, c10, hc]
    rw [hq] at hb ⊢
    refine ev_seq (b := suf 13 f68.body) ?_
    try simp only [Bool.not_eq_true] at hc
    refine W_okd 1 300 _ _ _ _ ?_
    repeat' (first | refine stpA ?_ | (refine condS ?_ ?_ <;> intro h))
    refine ev_keep [10, 2, 1] [66, 108] ?_
    exact enc68_13 a hv hv2 wide _ _ _ _ _ hb
theorem enc68_11 (a : Attrs) (hv : EncV a) (hv2 : EncV2 a) (wide : Bool) (b : List UInt8) (T : List (Nat × AV)) (H : Heap) (c g : Nat) (hb : (b ++ r9 a (wd wide)).length < 2 ^ 37) : Ev G ⟨[.code (suf 11 f68.body)], ⟨(10, .vs 108 g b.length) :: (2, .ref 66 1 0) :: (1, .bool wide) :: T, (66, some (1, .cells a.enc)) :: (108, some (g, .vec 1 (byteCells b))) :: H, c⟩, [.t 4, .t 5], 0⟩ (encRet false (b ++ r9 a (wd wide))) := by
  have hf := hv.aggrAS
  have hag := hv.aggrAddr
  have hwd := wd_le wide
  have hcl := hv.clustersL
  have hcm := hv.commsL
  have hll1 : (a.clusters.map encU).length = a.clusters.length := by simp
  have hll2 : (a.comms.map encU).length = a.comms.length := by simp
  have hbl : b.length < 2 ^ 37 := by simp at hb; omega
  by_cases hc : a.hasAggr = true
  · have hq : b ++ r9 a (wd wide) = (b ++ putB 7 (be (wd wide) a.aggrAS.toNat ++ be 4 a.aggrAddr.toNat)) ++ r10 a (wd wide) := by simp [r9, c9, hc, wdB_eq]
    have hvl : (be (wd wide) a.aggrAS.toNat ++ be 4 a.aggrAddr.toNat : List UInt8).length < 2 ^ 38 := by (simp; omega)
    have hput := attr_gives88a b (be (wd wide) a.aggrAS.toNat ++ be 4 a.aggrAddr.toNat) 7 (by omega) (by omega) (by omega) hvl
    have hp1 := put0_gives91 (wd wide) a.aggrAS.toNat (by omega)
    rw [show ((a.aggrAS.toNat : Nat) : Int) = a.aggrAS from by omega] at hp1
    have hp2 := put_gives91 (be (wd wide) a.aggrAS.toNat) (by rw [be_length]; omega) 4 a.aggrAddr.toNat (by omega)
    rw [show ((a.aggrAddr.toNat : Nat) : Int) = a.aggrAddr from by omega] at hp2
    rw [hq] at hb ⊢
    refine ev_seq (b := suf 12 f68.body) ?_
    refine W_okd 1 300 _ _ _ _ ?_
    repeat' (first | refine stpA ?_ | refine kV (width_gives92 wide) ?_ | refine kX [] [(150, _, _)] trivial ⟨rfl, pz trivial⟩ (hp2) ?_ | refine kX [(108, _, _), (156, _, _)] [] ⟨rfl, rfl, trivial⟩ trivial (hput) ?_ | (refine condS ?_ ?_ <;> intro h))
    refine ev_keep [10, 2, 1] [66, 108] ?_
    exact enc68_12 a hv hv2 wide _ _ _ _ _ hb
  · have hq : b ++ r9 a (wd wide) = b ++ r10 a (wd wide) := by simp [r9, c9, hc]
    rw [hq] at hb ⊢
    refine ev_seq (b := suf 12 f68.body) ?_
    try simp only [Bool.not_eq_true] at hc
    refine W_okd 1 300 _ _ _ _ ?_
    repeat' (first | refine stpA ?_ | (refine condS ?_ ?_ <;> intro h))
    refine ev_keep [10, 2, 1] [66, 108] ?_
    exact enc68_12 a hv hv2 wide _ _ _ _ _ hb
theorem enc68_10 (a : Attrs) (hv : EncV a) (hv2 : EncV2 a) (wide : Bool) (b : List UInt8) (T : List (Nat × AV)) (H : Heap) (c g : Nat) (hb : (b ++ r8 a (wd wide)).length < 2 ^ 37) : Ev G ⟨[.code (suf 10 f68.body)], ⟨(10, .vs 108 g b.length) :: (2, .ref 66 1 0) :: (1, .bool wide) :: T, (66, some (1, .cells a.enc)) :: (108, some (g, .vec 1 (byteCells b))) :: H, c⟩, [.t 4, .t 5], 0⟩ (encRet false (b ++ r8 a (wd wide))) := by
  have hf := hv.comms
  have hag := hv.aggrAddr
  have hwd := wd_le wide
  have hcl := hv.clustersL
  have hcm := hv.commsL
  have hll1 : (a.clusters.map encU).length = a.clusters.length := by simp
  have hll2 : (a.comms.map encU).length = a.comms.length := by simp
  have hbl : b.length < 2 ^ 37 := by simp at hb; omega
  by_cases hc : a.atomic = true
  · have hq : b ++ r8 a (wd wide) = (b ++ putB 6 ([])) ++ r9 a (wd wide) := by simp [r8, c8, hc, wdB_eq]
    have hvl : ([] : List UInt8).length < 2 ^ 38 := by simp
    have hput := gives_le rfl (attr_gives88b b [] 6 (by omega) (by omega) (by omega) (by simp)) (show LLe Any [.vs 0 0 b.length, .int .i64 6, .con (.slice none 0 0)] _ from ⟨.refl _, .refl _, LeP.nil 1, trivial⟩)
    rw [hq] at hb ⊢
    refine ev_seq (b := suf 11 f68.body) ?_
    refine W_okd 1 300 _ _ _ _ ?_
    repeat' (first | refine stpA ?_ | refine kX [(108, _, _)] [] ⟨rfl, trivial⟩ trivial (hput) ?_ | (refine condS ?_ ?_ <;> intro h))
    refine ev_keep [10, 2, 1] [66, 108] ?_
    exact enc68_11 a hv hv2 wide _ _ _ _ _ hb
  · have hq : b ++ r8 a (wd wide) = b ++ r9 a (wd wide) := by simp [r8, c8, hc]
    rw [hq] at hb ⊢
    refine ev_seq (b := suf 11 f68.body) ?_
    try simp only [Bool.not_eq_true] at hc
    refine W_okd 1 300 _ _ _ _ ?_
    repeat' (first | refine stpA ?_ | (refine condS ?_ ?_ <;> intro h))
    refine ev_keep [10, 2, 1] [66, 108] ?_
    exact enc68_11 a hv hv2 wide _ _ _ _ _ hb
theorem enc68_9 (a : Attrs) (hv : EncV a) (hv2 : EncV2 a) (wide : Bool) (b : List UInt8) (T : List (Nat × AV)) (H : Heap) (c g : Nat) (hb : (b ++ r7 a (wd wide)).length < 2 ^ 37) : Ev G ⟨[.code (suf 9 f68.body)], ⟨(10, .vs 108 g b.length) :: (2, .ref 66 1 0) :: (1, .bool wide) :: T, (66, some (1, .cells a.enc)) :: (108, some (g, .vec 1 (byteCells b))) :: H, c⟩, [.t 4, .t 5], 0⟩ (encRet false (b ++ r7 a (wd wide))) := by
  have hf := hv.pref
  have hag := hv.aggrAddr
  have hwd := wd_le wide
  have hcl := hv.clustersL
  have hcm := hv.commsL
  have hll1 : (a.clusters.map encU).length = a.clusters.length := by simp
  have hll2 : (a.comms.map encU).length = a.comms.length := by simp
  have hbl : b.length < 2 ^ 37 := by simp at hb; omega
  by_cases hc : a.hasPref = true
  · have hq : b ++ r7 a (wd wide) = (b ++ putB 5 (be 4 a.pref.toNat)) ++ r8 a (wd wide) := by simp [r7, c7, hc, wdB_eq]
    have hvl : (be 4 a.pref.toNat : List UInt8).length < 2 ^ 38 := by (rw [be_length]; omega)
    have hput := attr_gives88a b (be 4 a.pref.toNat) 5 (by omega) (by omega) (by omega) hvl
    rw [hq] at hb ⊢
    refine ev_seq (b := suf 10 f68.body) ?_
    refine W_okd 1 300 _ _ _ _ ?_
    repeat' (first | refine stpA ?_ | refine kX [] [(136, _, _)] trivial ⟨rfl, pz trivial⟩ ((four1 a.pref (by omega) (by omega))) ?_ | refine kX [(108, _, _), (137, _, _)] [] ⟨rfl, rfl, trivial⟩ trivial (hput) ?_ | (refine condS ?_ ?_ <;> intro h))
    refine ev_keep [10, 2, 1] [66, 108] ?_
    exact enc68_10 a hv hv2 wide _ _ _ _ _ hb
  · have hq : b ++ r7 a (wd wide) = b ++ r8 a (wd wide) := by simp [r7, c7, hc]
    rw [hq] at hb ⊢
    refine ev_seq (b := suf 10 f68.body) ?_
    try simp only [Bool.not_eq_true] at hc
    refine W_okd 1 300 _ _ _ _ ?_
    repeat' (first | refine stpA ?_ | (refine condS ?_ ?_ <;> intro h))
    refine ev_keep [10, 2, 1] [66, 108] ?_
    exact enc68_10 a hv hv2 wide _ _ _ _ _ hb
theorem enc68_8 (a : Attrs) (hv : EncV a) (hv2 : EncV2 a) (wide : Bool) (b : List UInt8) (T : List (Nat × AV)) (H : Heap) (c g : Nat) (hb : (b ++ r6 a (wd wide)).length < 2 ^ 37) : Ev G ⟨[.code (suf 8 f68.body)], ⟨(10, .vs 108 g b.length) :: (2, .ref 66 1 0) :: (1, .bool wide) :: T, (66, some (1, .cells a.enc)) :: (108, some (g, .vec 1 (byteCells b))) :: H, c⟩, [.t 4, .t 5], 0⟩ (encRet false (b ++ r6 a (wd wide))) := by
  have hf := hv.med
  have hag := hv.aggrAddr
  have hwd := wd_le wide
  have hcl := hv.clustersL
  have hcm := hv.commsL
  have hll1 : (a.clusters.map encU).length = a.clusters.length := by simp
  have hll2 : (a.comms.map encU).length = a.comms.length := by simp
  have hbl : b.length < 2 ^ 37 := by simp at hb; omega
  by_cases hc : a.hasMED = true
  · have hq : b ++ r6 a (wd wide) = (b ++ putB 4 (be 4 a.med.toNat)) ++ r7 a (wd wide) := by simp [r6, c6, hc, wdB_eq]
    have hvl : (be 4 a.med.toNat : List UInt8).length < 2 ^ 38 := by (rw [be_length]; omega)
    have hput := attr_gives88a b (be 4 a.med.toNat) 4 (by omega) (by omega) (by omega) hvl
    rw [hq] at hb ⊢
    refine ev_seq (b := suf 9 f68.body) ?_
    refine W_okd 1 300 _ _ _ _ ?_
    repeat' (first | refine stpA ?_ | refine kX [] [(127, _, _)] trivial ⟨rfl, pz trivial⟩ ((four1 a.med (by omega) (by omega))) ?_ | refine kX [(108, _, _), (128, _, _)] [] ⟨rfl, rfl, trivial⟩ trivial (hput) ?_ | (refine condS ?_ ?_ <;> intro h))
    refine ev_keep [10, 2, 1] [66, 108] ?_
    exact enc68_9 a hv hv2 wide _ _ _ _ _ hb
  · have hq : b ++ r6 a (wd wide) = b ++ r7 a (wd wide) := by simp [r6, c6, hc]
    rw [hq] at hb ⊢
    refine ev_seq (b := suf 9 f68.body) ?_
    try simp only [Bool.not_eq_true] at hc
    refine W_okd 1 300 _ _ _ _ ?_
    repeat' (first | refine stpA ?_ | (refine condS ?_ ?_ <;> intro h))
    refine ev_keep [10, 2, 1] [66, 108] ?_
    exact enc68_9 a hv hv2 wide _ _ _ _ _ hb
theorem enc68_7 (a : Attrs) (hv : EncV a) (hv2 : EncV2 a) (wide : Bool) (b : List UInt8) (T : List (Nat × AV)) (H : Heap) (c g : Nat) (hb : (b ++ r5 a (wd wide)).length < 2 ^ 37) : Ev G ⟨[.code (suf 7 f68.body)], ⟨(10, .vs 108 g b.length) :: (2, .ref 66 1 0) :: (1, .bool wide) :: T, (66, some (1, .cells a.enc)) :: (108, some (g, .vec 1 (byteCells b))) :: H, c⟩, [.t 4, .t 5], 0⟩ (encRet false (b ++ r5 a (wd wide))) := by
  have hf := hv.nextHop
  have hag := hv.aggrAddr
  have hwd := wd_le wide
  have hcl := hv.clustersL
  have hcm := hv.commsL
  have hll1 : (a.clusters.map encU).length = a.clusters.length := by simp
  have hll2 : (a.comms.map encU).length = a.comms.length := by simp
  have hbl : b.length < 2 ^ 37 := by simp at hb; omega
  have hq : b ++ r5 a (wd wide) = (b ++ putB 3 (be 4 a.nextHop.toNat)) ++ r6 a (wd wide) := by simp [r5, c5, wdB_eq]
  have hvl : (be 4 a.nextHop.toNat : List UInt8).length < 2 ^ 38 := by (rw [be_length]; omega)
  have hput := attr_gives88a b (be 4 a.nextHop.toNat) 3 (by omega) (by omega) (by omega) hvl
  rw [hq] at hb ⊢
  refine ev_seq (b := suf 8 f68.body) ?_
  refine W_okd 1 300 _ _ _ _ ?_
  repeat' (first | refine stpA ?_ | refine kX [] [(118, _, _)] trivial ⟨rfl, pz trivial⟩ ((four1 a.nextHop (by omega) (by omega))) ?_ | refine kX [(108, _, _), (119, _, _)] [] ⟨rfl, rfl, trivial⟩ trivial (hput) ?_ | (refine condS ?_ ?_ <;> intro h))
  refine ev_keep [10, 2, 1] [66, 108] ?_
  exact enc68_8 a hv hv2 wide _ _ _ _ _ hb
theorem enc68_6 (a : Attrs) (hv : EncV a) (hv2 : EncV2 a) (wide : Bool) (b : List UInt8) (T : List (Nat × AV)) (H : Heap) (c g : Nat) (hb : (b ++ r4 a (wd wide)).length < 2 ^ 37) : Ev G ⟨[.code (suf 6 f68.body)], ⟨(10, .vs 108 g b.length) :: (2, .ref 66 1 0) :: (1, .bool wide) :: T, (66, some (1, .cells a.enc)) :: (108, some (g, .vec 1 (byteCells b))) :: H, c⟩, [.t 4, .t 5], 0⟩ (encRet false (b ++ r4 a (wd wide))) := by
  have hf := hv.path
  have hag := hv.aggrAddr
  have hwd := wd_le wide
  have hcl := hv.clustersL
  have hcm := hv.commsL
  have hll1 : (a.clusters.map encU).length = a.clusters.length := by simp
  have hll2 : (a.comms.map encU).length = a.comms.length := by simp
  have hbl : b.length < 2 ^ 37 := by simp at hb; omega
  have hq : b ++ r4 a (wd wide) = (b ++ putB 2 (pathB (wd wide) a.path)) ++ r5 a (wd wide) := by simp [r4, c4, wdB_eq]
  have hvl : (pathB (wd wide) a.path : List UInt8).length < 2 ^ 38 := by (exact pathL wide a hv)
  have hput := attr_gives88a b (pathB (wd wide) a.path) 2 (by omega) (by omega) (by omega) hvl
  rw [hq] at hb ⊢
  refine ev_seq (b := suf 7 f68.body) ?_
  refine W_okd 1 300 _ _ _ _ ?_
  repeat' (first | refine stpA ?_ | refine kN (path_gives89 a.path wide hv.segs hv.path) ?_ | refine kX [(108, _, _), (113, _, _)] [] ⟨rfl, rfl, trivial⟩ trivial (hput) ?_ | (refine condS ?_ ?_ <;> intro h))
  refine ev_keep [10, 2, 1] [66, 108] ?_
  exact enc68_7 a hv hv2 wide _ _ _ _ _ hb
theorem enc68_5 (a : Attrs) (hv : EncV a) (hv2 : EncV2 a) (wide : Bool) (T : List (Nat × AV)) (H : Heap) (c : Nat) (hb : (r3 a (wd wide)).length < 2 ^ 37) : Ev G ⟨[.code (suf 5 f68.body)], ⟨(2, .ref 66 1 0) :: (1, .bool wide) :: T, (66, some (1, .cells a.enc)) :: H, c⟩, [.t 4, .t 5], 0⟩ (encRet false (r3 a (wd wide))) := by
  have hf := hv.origin
  have hf3 := u8_int hf.1 hf.2
  have hq : r3 a (wd wide) = putB 1 [UInt8.ofNat a.origin.toNat] ++ r4 a (wd wide) := by simp [r3, c3]
  have hput := attr_gives88c [UInt8.ofNat a.origin.toNat] 1 (by omega) (by omega) (by simp)
  have hB : byteCells [UInt8.ofNat a.origin.toNat] = [[.int .u8 a.origin]] := by simp only [byteCells, List.map_cons, List.map_nil, hf3]
  rw [hB] at hput
  rw [hq] at hb ⊢
  refine ev_seq (b := suf 6 f68.body) ?_
  refine W_okd 1 300 _ _ _ _ ?_
  repeat' (first | refine stpA ?_ | refine kX [(107, _, _)] [] ⟨rfl, trivial⟩ trivial (hput) ?_ | (refine condS ?_ ?_ <;> intro h))
  refine ev_keep [10, 2, 1] [66, 108] ?_
  exact enc68_6 a hv hv2 wide _ _ _ _ _ hb
theorem any_loop68 (l : List Int) (wide : Bool) (a : Attrs) (R : Ret) (go : ∀ (T : List (Nat × AV)) (H : Heap) (c : Nat), Ev G ⟨[.code (suf 5 f68.body)], ⟨(2, .ref 66 1 0) :: (1, .bool wide) :: T, (66, some (1, .cells a.enc)) :: H, c⟩, [.t 4, .t 5], 0⟩ R) (hl : l.length < 2 ^ 40) (ln : Int) (hln : ln = l.length) : ∀ (rest done : List Int)  (T : List (Nat × AV)) (H : Heap) (c : Nat) (n : Int) (e : l = done ++ rest) (hn : n = done.length) , Ev G ⟨f68x12LH, ⟨(27, .sl 1 (l.map encI)) :: (28, .int .i64 ln) :: (29, .int .i64 n) :: (2, .ref 66 1 0) :: (1, .bool wide) :: T, (66, some (1, .cells a.enc)) :: H, c⟩, [.t 4, .t 5], 0⟩ (if (!wide && rest.any fun n => decide (n > 65535)) = true then ⟨.tup [.con (.slice none 0 0), .int .i64 5], []⟩ else R)
  | [], done,  T, H, c, n, e, hn => by
    have hd : l.length = done.length := by simp [e]
    have hll : (l.map encI).length = l.length := by simp
    rw [if_neg (by simp)]
    refine ev_loop' (W_okd 1 300 _ _ _ _ ?_)
    repeat' (first | refine stpA ?_ | (refine condS ?_ ?_ <;> intro h))
    refine ev_keep [2, 1] [66] ?_
    exact go _ _ _
  | x :: r, done,  T, H, c, n, e, hn => by
    have hd : l.length = done.length + (r.length + 1) := by simp [e]
    have hll : (l.map encI).length = l.length := by simp
    have hx : (l.map encI)[n.toNat]? = some (encI x) := by simp [e, hn]
    by_cases hw : wide = true
    · rw [show (!wide && (x :: r).any fun n => decide (n > 65535)) = (!wide && r.any fun n => decide (n > 65535)) from by simp [hw]]
      refine ev_loop' (W_okd 1 300 _ _ _ _ ?_)
      repeat' (first | refine stpA ?_ | (refine condS ?_ ?_ <;> intro h))
      refine ev_keep [27, 28, 29, 2, 1] [66] ?_; exact any_loop68 l wide a R go hl ln hln r (done ++ [x])  _ _ _ (n + 1) (by simp [e]) (by simp [hn] <;> omega)
    · have hw : wide = false := by simpa using hw
      by_cases hx2 : x > 65535
      · rw [if_pos (by simp [hw, hx2])]
        refine ev_loop' (W_okd 1 300 _ _ _ _ ?_)
        repeat' (first | refine stpA ?_ | (refine condS ?_ ?_ <;> intro h))
        (first | refine fin1 ?_ | refine fin0 ?_)
        rfl
      · rw [show (!wide && (x :: r).any fun n => decide (n > 65535)) = (!wide && r.any fun n => decide (n > 65535)) from by simp [hw]; omega]
        refine ev_loop' (W_okd 1 300 _ _ _ _ ?_)
        repeat' (first | refine stpA ?_ | (refine condS ?_ ?_ <;> intro h))
        refine ev_keep [27, 28, 29, 2, 1] [66] ?_; exact any_loop68 l wide a R go hl ln hln r (done ++ [x])  _ _ _ (n + 1) (by simp [e]) (by simp [hn] <;> omega)
theorem encode_gives68_0 (a : Attrs) (wide : Bool) (hb : LenB a) (hfl : (flatS a.path).length < 2 ^ 39) (hc : checkS a = 0) (hv : EncV a) (hv2 : EncV2 a) (hl : (encB a wide).length < 2 ^ 37) : Gives G 68 [.agg a.enc, .bool wide] [] (if (!wide && (flatS a.path ++ [a.aggrAS]).any fun n => decide (n > 65535)) = true then ⟨.tup [.con (.slice none 0 0), .int .i64 5], []⟩ else encRet false (encB a wide)) := by
  have h66 := check_gives66 a hb
  rw [hc] at h66
  have hpl := hv.path
  have hfll : ((flatS a.path).map encI).length = (flatS a.path).length := by simp
  refine gives_code (F := f68) rfl rfl (W_ok 300 _ _ _ _ ?_)
  repeat' (first | refine stpA ?_ | refine kN (flat_gives57 a.path (by omega) (by omega)) ?_ | (refine condS ?_ ?_ <;> intro h))
  refine ev_frz [(85, _, .vec 1 ((flatS a.path).map encI ++ [[AV.int .i64 a.aggrAS]]))] [(27, .sl 1 ((flatS a.path ++ [a.aggrAS]).map encI)), (28, .int .i64 ((flatS a.path ++ [a.aggrAS]).length : Nat)), (29, .int .i64 0), (2, .ref 66 1 0), (1, .bool wide)] [(66, some (1, .cells a.enc))] ⟨rfl, (by simp [Blk.pure, pureLL, pureL, AV.pure]), trivial⟩ ⟨(by show AV.ren _ (.vs 85 _ _) = _; simp [AV.ren, φF, encI]; exact List.take_of_length_le (by simp)), (by show AV.ren _ (.int _ _) = _; simp [AV.ren]), rfl, rfl, rfl, trivial⟩ ?_ (fun T H => ?_)
  · refine ⟨?_, trivial⟩
    show some (1, Blk.cells a.enc) = some (1, Blk.ren _ (Blk.cells a.enc))
    rw [Blk.ren_pure (by simp [Blk.pure])]
  · refine any_loop68 (flatS a.path ++ [a.aggrAS]) wide a _ (fun T H c => enc68_5 a hv hv2 wide T H c hl) (by simp; omega) _ rfl (flatS a.path ++ [a.aggrAS]) [] _ _ _ 0 rfl rfl
end Go.AM.IR
set_option maxHeartbeats 4000000
set_option maxRecDepth 20000
namespace Go.AM.IR
theorem encV2_of {a : Attrs} (ha : a.ok) (h : checkS a = 0) : EncV2 a := by
  have v := valid_of h
  exact ⟨fun t ht => by have := v.unknown t ht; omega⟩
theorem encode68 (a : Attrs) (wide : Bool) (hb : AB a) (hfl : (flatS a.path).length < 2 ^ 39) (ha : a.ok) : Gives G 68 [.agg a.enc, .bool wide] [] (encR a wide) := by
  unfold encR
  by_cases hc : checkS a = 0
  · rw [if_pos hc]
    have v := valid_of hc
    have h := encode_gives68_0 a wide (sizeS_le hb) hfl hc (encV_of ha hc) (encV2_of ha hc) (by have := encB_le v wide; omega)
    rw [← encBad_eq v] at h
    cases hbad : encBad a wide
    · rw [hbad] at h; exact h
    · rw [hbad] at h; exact h
  · rw [if_neg hc]
    refine gives_code (F := f68) rfl rfl (W_ok 300 _ _ _ _ ?_)
    repeat' (first | refine stpA ?_ | refine kV (check_gives66 a (sizeS_le hb)) ?_ | (refine condS ?_ ?_ <;> intro h))
    all_goals ((first | refine fin1 ?_ | refine fin0 ?_); rfl)
end Go.AM.IR
set_option maxHeartbeats 4000000
set_option maxRecDepth 20000
namespace Go.AM.IR
theorem shrP {a j : Int} {kv : AV → Prop} (h : kv (.int .u32 ((a.toNat / 2 ^ j.toNat : Nat) : Int))) (ha : 0 ≤ a) (h0 : 0 ≤ j := by omega) (h1 : j ≤ 32 := by omega) : ∃ v, binA .shr (.int .u32 a) (.int .i64 j) = some v ∧ kv v := by
  obtain ⟨x, rfl⟩ : ∃ x : Nat, a = x := ⟨a.toNat, by omega⟩
  rw [Int.toNat_natCast] at h
  refine ⟨_, ?_, h⟩
  show (if j < 0 then none else some (AV.int .u32 ((x : Int).fdiv (2 ^ (min j.toNat 32))))) = _
  rw [if_neg (by omega), show min j.toNat 32 = j.toNat by omega]
  congr 2
  rw [Int.fdiv_eq_ediv_of_nonneg _ (by exact Int.le_of_lt (Int.pow_pos (by omega)))]
  simp
theorem be_step (x i : Nat) (hi : i < 4) (acc : List UInt8) (j : Int) (hj : j = 24 - 8 * (i : Int)) : byteCells (acc ++ (be 4 x).take i) ++ [[.int .u8 (UInt8.ofNat (x / 2 ^ j.toNat)).toNat]] = byteCells (acc ++ (be 4 x).take (i + 1)) := by
  subst hj
  have h : i = 0 ∨ i = 1 ∨ i = 2 ∨ i = 3 := by omega
  rcases h with rfl | rfl | rfl | rfl <;> simp [be, byteCells]
theorem bits_loop357 (l : List Pfx) (p : Pfx) (ho : p.ok) (hv : validP p = true) (acc : List UInt8) (hacl : acc.length < 2 ^ 36) (ln n : Int) (hn : 0 ≤ n ∧ n < 2 ^ 40) (R : Ret)
    (go : ∀ (T : List (Nat × AV)) (H : Heap) (c g m : Nat) (es : List (List AV)), m = (acc ++ (be 4 p.addr.toNat).take (len8 p.len)).length → es = byteCells (acc ++ (be 4 p.addr.toNat).take (len8 p.len)) →
      Ev G ⟨f357x12LH, ⟨(7, .sl 2 (l.map Pfx.enc)) :: (8, .int .i64 ln) :: (9, .int .i64 (n + 1)) :: (3, .vs 200 g m) :: T, (200, some (g, .vec 1 es)) :: H, c⟩, [.t 2], 0⟩ R) :
    ∀ (r i : Nat) (T : List (Nat × AV)) (H : Heap) (c g gp m : Nat) (es : List (List AV)) (iI : Int) (hr : i + r = len8 p.len) (hi : iI = i) (hm : m = (acc ++ (be 4 p.addr.toNat).take i).length) (hes : es = byteCells (acc ++ (be 4 p.addr.toNat).take i)),
   Ev G ⟨f357x10LH, ⟨(6, .int .i64 iI) :: (5, .ref 69 gp 0) :: (3, .vs 200 g m) :: (7, .sl 2 (l.map Pfx.enc)) :: (8, .int .i64 ln) :: (9, .int .i64 n) :: T, (69, some (gp, .cells p.enc)) :: (200, some (g, .vec 1 es)) :: H, c⟩, [.t 2], 0⟩ R
  | 0, i, T, H, c, g, gp, m, es, iI, hr, hi, hm, hes => by
    obtain ⟨a, b, _, d⟩ := valid_mul ho hv
    have hk : len8 p.len = (p.len.toNat + 7) / 8 := rfl
    have h8 : ¬ 8 * iI < p.len := by omega
    refine ev_loop' (W_ok 300 _ _ _ _ ?_)
    repeat' (first | refine stpA ?_ | (refine condS ?_ ?_ <;> intro h))
    refine ev_keep [7, 8, 9, 3] [200] ?_
    obtain rfl : i = len8 p.len := by omega
    exact go _ _ _ g m es hm hes
  | r + 1, i, T, H, c, g, gp, m, es, iI, hr, hi, hm, hes => by
    obtain ⟨a, b, _, d⟩ := valid_mul ho hv
    have hk : len8 p.len = (p.len.toNat + 7) / 8 := rfl
    have h8 : 8 * iI < p.len := by omega
    have h4 := len8_le b
    have ha := ho.addr
    unfold okU at ha
    subst hm hes
    refine ev_loop' (W_ok 300 _ _ _ _ ?_)
    repeat' ((conv => whnf); first | refine shrP ?_ ha.1 | refine bslP (by first | rfl | (simp [pureL, pureLL, AV.pure]; done) | fail) rfl ?_ | refine TakeC.full (by first | rfl | omega | (simp; done) | (simp; omega) | fail) ?_ | refine zBs ?_ | refine zBn ?_ | refine zBv rfl rfl ?_ | refine zN ?_ | refine zC ?_ | refine zC4 ?_ | refine zOr16 ?_ | refine zC1 ?_ | refine zByte ?_ | refine zMaxL ?_ | refine zMaxR ?_ | refine zMinL ?_ | refine zMinR ?_ | refine zShr ?_ | refine zC8 ?_ | refine zQ ?_ | refine zR ?_ | refine zS ?_ | refine zA ?_ | refine zM ?_ | refine xr rfl ?_ | refine ai rfl ?_ | refine condT ?_ | refine condF ?_ | refine condG1 ?_ | refine condG0 ?_ | refine cD ?_ | refine dD ?_ | refine cB ?_ | refine dB ?_ | refine cN ?_ | refine dN ?_ | refine cV ?_ | refine dV ?_ | refine cE ?_ | refine dE ?_ | refine condX0 ?_ | refine condX1 ?_ | refine condNot ?_ | refine condAnd ?_ | refine condOr ?_ | refine aO ?_ | refine aB ?_ | refine aR ?_ | refine aR ?_ (by simp; omega) | refine xr (by assumption) ?_ | refine ai (by assumption) ?_ | refine kV (by assumption) ?_ | refine kN (by assumption) ?_ | refine callW (by assumption) ?_ | refine condD (fun h => ?_) (fun h => ?_) | refine condB (fun h => ?_) (fun h => ?_) | refine condN (fun h => ?_) (fun h => ?_) | refine condE (fun h => ?_) (fun h => ?_) | refine condV (fun h => ?_) (fun h => ?_))
    refine ev_keep [6, 5, 3, 7, 8, 9] [69, 200] ?_
    refine bits_loop357 l p ho hv acc hacl ln n hn R go r (i + 1) _ _ _ _ _ _ _ (iI + 1) (by omega) (by omega) ?_ ?_
    · simp; omega
    · exact be_step p.addr.toNat i (by omega) acc _ (by omega)
theorem pack_loop357 (l : List Pfx) (hv : ∀ p ∈ l, p.ok ∧ validP p = true) (hlen : l.length < 2 ^ 30) (hl : l.length < 2 ^ 40) (ln : Int) (hln : ln = l.length) : ∀ (rest done : List Pfx) (g m : Nat) (es : List (List AV)) (T : List (Nat × AV)) (H : Heap) (c : Nat) (n : Int) (e : l = done ++ rest) (hn : n = done.length) (hm : m = (packP done).length) (hes : es = byteCells (packP done)), Ev G ⟨f357x12LH, ⟨(7, .sl 2 (l.map Pfx.enc)) :: (8, .int .i64 ln) :: (9, .int .i64 n) :: (3, .vs 200 g m) :: T, (200, some (g, .vec 1 es)) :: H, c⟩, [.t 2], 0⟩ (rB (packP l))
  | [], done, g, m, es, T, H, c, n, e, hn, hm, hes => by
    have hd : l.length = done.length := by simp [e]
    have hll : (l.map Pfx.enc).length = l.length := by simp
    obtain rfl : l = done := by simpa using e
    refine ev_loop' (W_ok 300 _ _ _ _ ?_)
    repeat' (first | refine stpA ?_ | (refine condS ?_ ?_ <;> intro h))
    exact ev_retB 200 ⟨_, _, _, rfl, rfl, hm, hes⟩
  | x :: r, done, g, m, es, T, H, c, n, e, hn, hm, hes => by
    have hd : l.length = done.length + (r.length + 1) := by simp [e]
    have hll : (l.map Pfx.enc).length = l.length := by simp
    have hx : (l.map Pfx.enc)[n.toNat]? = some (Pfx.enc x) := by simp [e, hn]
    obtain ⟨ho, hvx⟩ := hv x (by simp [e])
    obtain ⟨a, b, _, d⟩ := valid_mul ho hvx
    have hx := ho.addr
    unfold okU at hx
    subst hm hes
    have hpl := packP_length (l := done) (fun p hp => by have := (valid_mul (hv p (by simp [e, hp])).1 (hv p (by simp [e, hp])).2); omega)
    have hn1 : ((UInt8.ofNat x.len.toNat).toNat : Int) = x.len := by rw [ofN (by omega)]; omega
    have hacc : packP (done ++ [x]) = (packP done ++ [UInt8.ofNat x.len.toNat]) ++ (be 4 x.addr.toNat).take (len8 x.len) := by rw [be_take _ _ (len8_le b)]; simp [packP, pack1]
    refine ev_loop' (W_ok 300 _ _ _ _ ?_)
    repeat' (first | refine stpA ?_ | (refine condS ?_ ?_ <;> intro h))
    refine ev_keep [6, 5, 3, 7, 8, 9] [69, 200] ?_
    refine bits_loop357 l x ho hvx (packP done ++ [UInt8.ofNat x.len.toNat]) (by simp <;> omega) _ n (by omega) _ ?_ (len8 x.len) 0 _ _ _ _ _ _ _ 0 (by omega) rfl (by simp) (by simp [byteCells] <;> omega)
    intro T H c g m es hm hes
    exact pack_loop357 l hv hlen hl _ hln r (done ++ [x]) g m es _ _ _ (n + 1) (by simp [e]) (by simp [hn]) (by rw [hacc]; exact hm) (by rw [hacc]; exact hes)
theorem pack_gives357 (l : List Pfx) (hv : ∀ p ∈ l, p.ok ∧ validP p = true) (hlen : l.length < 2 ^ 30) : Gives G 357 [.sl 2 (l.map Pfx.enc)] [] (rB (packP l)) := by
  refine gives_code (F := f357) rfl rfl (W_ok 300 _ _ _ _ ?_)
  repeat' (first | refine stpA ?_ | (refine condS ?_ ?_ <;> intro h))
  refine ev_nil 200 1 [(3, .vs 200 _ 0)] [] ⟨LeP.nilV _ _ _, trivial⟩ trivial ?_
  refine ev_keep [7, 8, 9, 3] [200] ?_
  exact pack_loop357 l hv hlen (by omega) _ (by simp) l [] _ _ _ _ _ _ 0 rfl rfl rfl rfl
theorem rep_snoc (i : Nat) : byteCells (List.replicate i 255) ++ [[.int .u8 255]] = byteCells (List.replicate (i + 1) 255) := by
  rw [List.replicate_succ']; simp [byteCells]
theorem head_loop358 (N : Nat) (k : Int) (hN : N < 2 ^ 30) (hk : 0 ≤ k ∧ k ≤ 255) : ∀ (r i : Nat) (T : List (Nat × AV)) (H : Heap) (c g m : Nat) (es : List (List AV)) (iI : Int) (hr : i + r = 16) (hi : iI = i) (hm : m = i) (hes : es = byteCells (List.replicate i 255)),
   Ev G ⟨f358x6LH, ⟨(6, .int .i64 iI) :: (5, .vs 200 g m) :: (1, .int .i64 k) :: (0, .int .i64 (N : Int)) :: T, (200, some (g, .vec 1 es)) :: H, c⟩, [.t 4], 0⟩ (rB (headB N k.toNat))
  | 0, i, T, H, c, g, m, es, iI, hr, hi, hm, hes => by
    obtain rfl : i = 16 := by omega
    subst hm hes
    have hp := put_gives91 (List.replicate 16 255) (by simp) 2 N (by omega)
    have hl : (byteCells (List.replicate 16 255)).length = 16 := by simp
    have e1 : ((UInt8.ofNat k.toNat).toNat : Int) = k := by rw [ofN (by omega)]; omega
    refine ev_loop' (W_ok 300 _ _ _ _ ?_)
    repeat' (first | refine stpA ?_ | refine kX [] [(200, _, _)] trivial ⟨rfl, pz trivial⟩ (hp) ?_ | (refine condS ?_ ?_ <;> intro h))
    refine ev_retB 79 ⟨_, _, _, rfl, rfl, (by simp [headB]), ?_⟩
    simp [headB, byteCells] <;> omega
  | r + 1, i, T, H, c, g, m, es, iI, hr, hi, hm, hes => by
    have hl : es.length = i := by rw [hes]; simp
    subst hm
    refine ev_loop' (W_ok 300 _ _ _ _ ?_)
    repeat' (first | refine stpA ?_ | (refine condS ?_ ?_ <;> intro h))
    refine ev_keep [6, 5, 1, 0] [200] ?_
    exact head_loop358 N k hN hk r (m + 1) _ _ _ _ _ _ (iI + 1) (by omega) (by omega) (by simp) (by rw [hes]; exact rep_snoc m)
theorem head_gives358 (N : Nat) (k : Int) (hN : N < 2 ^ 30) (hk : 0 ≤ k ∧ k ≤ 255) : Gives G 358 [.int .i64 (N : Int), .int .i64 k] [] (rB (headB N k.toNat)) := by
  refine gives_code (F := f358) rfl rfl (W_ok 300 _ _ _ _ ?_)
  repeat' (first | refine stpA ?_ | (refine condS ?_ ?_ <;> intro h))
  refine ev_nil 200 1 [(5, .vs 200 _ 0)] [] ⟨LeP.nilV _ _ _, trivial⟩ trivial ?_
  refine ev_keep [6, 5, 1, 0] [200] ?_
  exact head_loop358 N k hN hk 16 0 _ _ _ _ _ _ 0 rfl rfl rfl rfl
theorem cap_loop356 (l : List Cap) (b : List UInt8) (hv : ∀ c ∈ l, (1 ≤ c.code ∧ c.code ≤ 255) ∧ c.value.length ≤ 255) (hcl : (capsB l).length ≤ 253) (hb : b.length < 2 ^ 20) (hl : l.length < 2 ^ 40) (ln : Int) (hln : ln = l.length) : ∀ (rest done : List Cap) (g gb m mb : Nat) (es eb : List (List AV)) (T : List (Nat × AV)) (H : Heap) (c : Nat) (n : Int) (e : l = done ++ rest) (hn : n = done.length) (hm : m = (capsB done).length) (hes : es = byteCells (capsB done)) (hmb : mb = b.length) (heb : eb = byteCells b), Ev G ⟨f356x13LH, ⟨(29, .sl 2 (l.map Cap.enc)) :: (30, .int .i64 ln) :: (31, .int .i64 n) :: (5, .vs 200 g m) :: (4, .vs 91 gb mb) :: T, (200, some (g, .vec 1 es)) :: (91, some (gb, .vec 1 eb)) :: H, c⟩, [.t 2], 0⟩ (rB (b ++ capTail l))
  | [], done, g, gb, m, mb, es, eb, T, H, c, n, e, hn, hm, hes, hmb, heb => by
    have hd : l.length = done.length := by simp [e]
    have hll : (l.map Cap.enc).length = l.length := by simp
    obtain rfl : l = done := by simpa using e
    subst hm hes hmb heb
    unfold capTail
    by_cases h0 : capsB l = []
    · have hz : (capsB l).length = 0 := by simp [h0]
      rw [if_pos h0]
      refine ev_loop' (W_ok 300 _ _ _ _ ?_)
      repeat' (first | refine stpA ?_ | (refine condS ?_ ?_ <;> intro h))
      refine ev_retB 91 ⟨_, _, _, rfl, rfl, (by simp), ?_⟩
      simp [byteCells]
    · have hz : 0 < (capsB l).length := List.length_pos_iff.2 h0
      rw [if_neg h0]
      have e1 : ((UInt8.ofNat ((capsB l).length + 2)).toNat : Int) = ((capsB l).length + 2 : Nat) := ofN (by omega)
      have e2 : ((UInt8.ofNat (capsB l).length).toNat : Int) = ((capsB l).length : Nat) := ofN (by omega)
      refine ev_loop' (W_ok 300 _ _ _ _ ?_)
      repeat' (first | refine stpA ?_ | (refine condS ?_ ?_ <;> intro h))
      refine ev_retB 91 ⟨_, _, _, rfl, rfl, (by simp; omega), ?_⟩
      simp only [byteCells, List.map_append, List.map_cons, e1, e2, List.append_assoc, List.cons_append, List.nil_append]
      simp
  | x :: r, done, g, gb, m, mb, es, eb, T, H, c, n, e, hn, hm, hes, hmb, heb => by
    have hd : l.length = done.length + (r.length + 1) := by simp [e]
    have hll : (l.map Cap.enc).length = l.length := by simp
    have hx : (l.map Cap.enc)[n.toNat]? = some (Cap.enc x) := by simp [e, hn]
    obtain ⟨h1, h2⟩ := hv x (by simp [e])
    subst hm hes hmb heb
    have hcd : (capsB done).length ≤ 253 := by rw [e] at hcl; simp [capsB] at hcl ⊢; omega
    refine ev_loop' (W_ok 300 _ _ _ _ ?_)
    repeat' (first | refine stpA ?_ | (refine condS ?_ ?_ <;> intro h))
    refine ev_keep [29, 30, 31, 5, 4] [200, 91] ?_; exact cap_loop356 l b hv hcl hb hl ln hln r (done ++ [x]) _ _ _ _ _ _ _ _ _ (n + 1) (by simp [e]) (by simp [hn] <;> omega) (by simp [capsB]; omega) (cap_step done x h1) rfl rfl
theorem open_gives356 (m : PMsg) (h : OpenOk m) (hr : okU m.router) : Gives G 356 [.agg m.enc] [] (rB (openB m)) := by
  obtain ⟨c1, c2⟩ := h.caps
  obtain ⟨b1, b2⟩ := h.hold
  obtain ⟨a1, a2⟩ := h.as
  have hver := h.version
  unfold okU at hr
  have hs : 0 ≤ shortI m.as ∧ shortI m.as ≤ 65535 := by unfold shortI; split <;> omega
  have hp1 := put_gives91 [UInt8.ofNat m.version.toNat] (by simp) 2 (shortI m.as).toNat (by omega)
  have hp2 := put_gives91 ([UInt8.ofNat m.version.toNat] ++ be 2 (shortI m.as).toNat) (by simp) 2 m.hold.toNat (by omega)
  have hp3 := put_gives91 ([UInt8.ofNat m.version.toNat] ++ be 2 (shortI m.as).toNat ++ be 2 m.hold.toNat) (by simp) 4 m.router.toNat (by omega)
  have hcl := capsB_length m.caps
  have hv : ∀ c ∈ m.caps, (1 ≤ c.code ∧ c.code ≤ 255) ∧ c.value.length ≤ 255 := fun c hc => ⟨c1 c hc, by have := capT_mem hc; omega⟩
  have e1 : byteCells [UInt8.ofNat m.version.toNat] = [[.int .u8 m.version]] := by
    have : ((UInt8.ofNat m.version.toNat).toNat : Int) = m.version := by rw [ofN (by omega)]; omega
    simp only [byteCells, List.map_cons, List.map_nil, this]
  rw [e1, show (((shortI m.as).toNat : Nat) : Int) = shortI m.as by omega] at hp1
  rw [show ((m.hold.toNat : Nat) : Int) = m.hold by omega] at hp2
  rw [show ((m.router.toNat : Nat) : Int) = m.router by omega] at hp3
  have hl : (m.caps.map Cap.enc).length = m.caps.length := by simp
  have hlc : m.caps.length ≤ 253 := by
    have : ∀ l : List Cap, (l.length : Int) ≤ capT l := fun l => by
      induction l with
      | nil => simp [capT]
      | cons c r ih => simp only [capT, List.length_cons]; omega
    have := this m.caps; omega
  have key := cap_loop356 m.caps ([UInt8.ofNat m.version.toNat] ++ be 2 (shortI m.as).toNat ++ be 2 m.hold.toNat ++ be 4 m.router.toNat) hv (by omega) (by simp) (by omega) ((m.caps.map Cap.enc).length : Int) (by simp) m.caps []
  rw [show openB m = [UInt8.ofNat m.version.toNat] ++ be 2 (shortI m.as).toNat ++ be 2 m.hold.toNat ++ be 4 m.router.toNat ++ capTail m.caps from by simp [openB]]
  by_cases has : m.as > 65535
  · rw [show shortI m.as = 23456 from if_pos has] at *
    refine gives_code (F := f356) rfl rfl (W_ok 300 _ _ _ _ ?_)
    repeat' (first | refine stpA ?_ | refine kX [] [(79, _, _)] trivial ⟨rfl, pz trivial⟩ (hp1) ?_ | refine kX [] [(82, _, _)] trivial ⟨rfl, pz trivial⟩ (hp2) ?_ | refine kX [] [(87, _, _)] trivial ⟨rfl, pz trivial⟩ (hp3) ?_ | (refine condS ?_ ?_ <;> intro h))
    refine ev_nil 200 1 [(5, .vs 200 _ 0)] [] ⟨LeP.nilV _ _ _, trivial⟩ trivial ?_
    refine ev_keep [29, 30, 31, 5, 4] [200, 91] ?_
    exact key _ _ _ _ _ _ _ _ _ 0 rfl rfl rfl rfl rfl rfl
  · rw [show shortI m.as = m.as from if_neg has] at *
    refine gives_code (F := f356) rfl rfl (W_ok 300 _ _ _ _ ?_)
    repeat' (first | refine stpA ?_ | refine kX [] [(79, _, _)] trivial ⟨rfl, pz trivial⟩ (hp1) ?_ | refine kX [] [(82, _, _)] trivial ⟨rfl, pz trivial⟩ (hp2) ?_ | refine kX [] [(87, _, _)] trivial ⟨rfl, pz trivial⟩ (hp3) ?_ | (refine condS ?_ ?_ <;> intro h))
    refine ev_nil 200 1 [(5, .vs 200 _ 0)] [] ⟨LeP.nilV _ _ _, trivial⟩ trivial ?_
    refine ev_keep [29, 30, 31, 5, 4] [200, 91] ?_
    exact key _ _ _ _ _ _ _ _ _ 0 rfl rfl rfl rfl rfl rfl
end Go.AM.IR
set_option maxHeartbeats 4000000
set_option maxRecDepth 20000
namespace Go.AM.IR
theorem tupN_ren (K : Nat) {g n n' : Nat} {es es' : List (List AV)} (hn : n = n') (he : es = es') : (⟨AV.ren (φR [(K, g, .vec 1 es)] 0) (.tup [.vs K g n, .int .i64 0]), [(false, .vec 1 es)]⟩ : Ret) = ⟨.tup [.vs 0 0 n', .int .i64 0], [(false, .vec 1 es')]⟩ := by subst hn he; simp [AV.ren, renL, φR]
def ff (j : Nat) : List UInt8 := List.replicate (16 - j) 255 ++ List.replicate j 0
theorem ff_step (j : Nat) (hj : j < 16) : (byteCells (ff (j + 1))).set (16 - (j + 1)) [.int .u8 255] = byteCells (ff j) := by
  have h : j = 0 ∨ j = 1 ∨ j = 2 ∨ j = 3 ∨ j = 4 ∨ j = 5 ∨ j = 6 ∨ j = 7 ∨ j = 8 ∨ j = 9 ∨ j = 10 ∨ j = 11 ∨ j = 12 ∨ j = 13 ∨ j = 14 ∨ j = 15 := by omega
  rcases h with rfl | rfl | rfl | rfl | rfl | rfl | rfl | rfl | rfl | rfl | rfl | rfl | rfl | rfl | rfl | rfl <;> rfl
theorem ff_get (j : Nat) (hj : j < 16) : (byteCells (ff (j + 1)))[16 - (j + 1)]? = some [.int .u8 0] := by
  have h : j = 0 ∨ j = 1 ∨ j = 2 ∨ j = 3 ∨ j = 4 ∨ j = 5 ∨ j = 6 ∨ j = 7 ∨ j = 8 ∨ j = 9 ∨ j = 10 ∨ j = 11 ∨ j = 12 ∨ j = 13 ∨ j = 14 ∨ j = 15 := by omega
  rcases h with rfl | rfl | rfl | rfl | rfl | rfl | rfl | rfl | rfl | rfl | rfl | rfl | rfl | rfl | rfl | rfl <;> rfl
theorem ff_length (j : Nat) (hj : j ≤ 16) : (ff j).length = 16 := by simp [ff]; omega
def encOk (k : Nat) (b : List UInt8) : Ret := ⟨.tup [.vs 0 0 (headB (19 + b.length) k ++ b).length, .int .i64 0], [(false, .vec 1 (byteCells (headB (19 + b.length) k ++ b)))]⟩
theorem ff_loop86 (m : PMsg) (hk : 1 ≤ m.kind ∧ m.kind ≤ 5) (b : List UInt8) (hb : b.length ≤ 65516) : ∀ (j : Nat) (T : List (Nat × AV)) (H : Heap) (c g gb mb n16 : Nat) (es eb : List (List AV)) (n : Int) (hj : j ≤ 16) (hn : n = 16 - j) (h16 : n16 = 16) (hes : es = byteCells (ff j)) (hmb : mb = b.length) (heb : eb = byteCells b),
   Ev G ⟨f193x25LH, ⟨(60, .int .i64 n) :: (10, .vs 121 g n16) :: (7, .vs 86 gb mb) :: (2, .ref 66 1 0) :: (59, .int .i64 16) :: T, (121, some (g, .vec 1 es)) :: (86, some (gb, .vec 1 eb)) :: (66, some (1, .cells m.enc)) :: H, c⟩, [.t 4, .t 5], 0⟩ (encOk m.kind.toNat b)
  | 0, T, H, c, g, gb, mb, n16, es, eb, n, hj, hn, h16, hes, hmb, heb => by
    subst h16 hes hmb heb
    have hp := put_gives109 (List.replicate 16 255) (by simp) 2 (19 + b.length) (by omega)
    have hff : ff 0 = List.replicate 16 255 := rfl
    have hk2 : ((UInt8.ofNat m.kind.toNat).toNat : Int) = m.kind := by rw [ofN (by omega)]; omega
    have hfl : (byteCells (ff 0)).length = 16 := by simp [ff]
    have hf0 : (ff 0).length = 16 := rfl
    rw [← hff] at hp
    refine ev_loop' (W_ok 300 _ _ _ _ ?_)
    repeat' (first | refine stpA ?_ | refine kX [] [(121, _, _)] trivial ⟨rfl, pz trivial⟩ (hp) ?_ | (refine condS ?_ ?_ <;> intro h))
    refine ev_finN [(136, _, .vec 1 _)] ⟨⟨rfl, (by simp [Blk.pure, pureLL, pureL, AV.pure]), trivial⟩, rfl, rfl, (by simp), ?_⟩
    unfold encOk
    refine tupN_ren 136 ?_ ?_
    · simp [headB, hf0] <;> omega
    · simp [headB, hff, byteCells] <;> omega
  | j + 1, T, H, c, g, gb, mb, n16, es, eb, n, hj, hn, h16, hes, hmb, heb => by
    subst h16 hes hmb heb
    have hfl : (byteCells (ff (j + 1))).length = 16 := by rw [byteCells_length, ff_length _ hj]
    have hnn : n.toNat = 16 - (j + 1) := by omega
    have hx : (byteCells (ff (j + 1)))[n.toNat]? = some [.int .u8 0] := by rw [hnn]; exact ff_get j (by omega)
    refine ev_loop' (W_ok 300 _ _ _ _ ?_)
    repeat' (first | refine stpA ?_ | (refine condS ?_ ?_ <;> intro h))
    refine ev_keep [60, 10, 7, 2, 59] [121, 86, 66] ?_
    refine ff_loop86 m hk b hb j _ _ _ _ _ _ _ _ _ (n + 1) (by omega) (by omega) rfl ?_ rfl rfl
    rw [← ff_step j (by omega), ← hnn]; rfl
theorem ff_loop92 (m : PMsg) (hk : 1 ≤ m.kind ∧ m.kind ≤ 5) (b : List UInt8) (hb : b.length ≤ 65516) : ∀ (j : Nat) (T : List (Nat × AV)) (H : Heap) (c g gb mb n16 : Nat) (es eb : List (List AV)) (n : Int) (hj : j ≤ 16) (hn : n = 16 - j) (h16 : n16 = 16) (hes : es = byteCells (ff j)) (hmb : mb = b.length) (heb : eb = byteCells b),
   Ev G ⟨f193x25LH, ⟨(60, .int .i64 n) :: (10, .vs 121 g n16) :: (7, .vs 92 gb mb) :: (2, .ref 66 1 0) :: (59, .int .i64 16) :: T, (121, some (g, .vec 1 es)) :: (92, some (gb, .vec 1 eb)) :: (66, some (1, .cells m.enc)) :: H, c⟩, [.t 4, .t 5], 0⟩ (encOk m.kind.toNat b)
  | 0, T, H, c, g, gb, mb, n16, es, eb, n, hj, hn, h16, hes, hmb, heb => by
    subst h16 hes hmb heb
    have hp := put_gives109 (List.replicate 16 255) (by simp) 2 (19 + b.length) (by omega)
    have hff : ff 0 = List.replicate 16 255 := rfl
    have hk2 : ((UInt8.ofNat m.kind.toNat).toNat : Int) = m.kind := by rw [ofN (by omega)]; omega
    have hfl : (byteCells (ff 0)).length = 16 := by simp [ff]
    have hf0 : (ff 0).length = 16 := rfl
    rw [← hff] at hp
    refine ev_loop' (W_ok 300 _ _ _ _ ?_)
    repeat' (first | refine stpA ?_ | refine kX [] [(121, _, _)] trivial ⟨rfl, pz trivial⟩ (hp) ?_ | (refine condS ?_ ?_ <;> intro h))
    refine ev_finN [(136, _, .vec 1 _)] ⟨⟨rfl, (by simp [Blk.pure, pureLL, pureL, AV.pure]), trivial⟩, rfl, rfl, (by simp), ?_⟩
    unfold encOk
    refine tupN_ren 136 ?_ ?_
    · simp [headB, hf0] <;> omega
    · simp [headB, hff, byteCells] <;> omega
  | j + 1, T, H, c, g, gb, mb, n16, es, eb, n, hj, hn, h16, hes, hmb, heb => by
    subst h16 hes hmb heb
    have hfl : (byteCells (ff (j + 1))).length = 16 := by rw [byteCells_length, ff_length _ hj]
    have hnn : n.toNat = 16 - (j + 1) := by omega
    have hx : (byteCells (ff (j + 1)))[n.toNat]? = some [.int .u8 0] := by rw [hnn]; exact ff_get j (by omega)
    refine ev_loop' (W_ok 300 _ _ _ _ ?_)
    repeat' (first | refine stpA ?_ | (refine condS ?_ ?_ <;> intro h))
    refine ev_keep [60, 10, 7, 2, 59] [121, 92, 66] ?_
    refine ff_loop92 m hk b hb j _ _ _ _ _ _ _ _ _ (n + 1) (by omega) (by omega) rfl ?_ rfl rfl
    rw [← ff_step j (by omega), ← hnn]; rfl
theorem ff_loop107 (m : PMsg) (hk : 1 ≤ m.kind ∧ m.kind ≤ 5) (b : List UInt8) (hb : b.length ≤ 65516) : ∀ (j : Nat) (T : List (Nat × AV)) (H : Heap) (c g gb mb n16 : Nat) (es eb : List (List AV)) (n : Int) (hj : j ≤ 16) (hn : n = 16 - j) (h16 : n16 = 16) (hes : es = byteCells (ff j)) (hmb : mb = b.length) (heb : eb = byteCells b),
   Ev G ⟨f193x25LH, ⟨(60, .int .i64 n) :: (10, .vs 121 g n16) :: (7, .vs 107 gb mb) :: (2, .ref 66 1 0) :: (59, .int .i64 16) :: T, (121, some (g, .vec 1 es)) :: (107, some (gb, .vec 1 eb)) :: (66, some (1, .cells m.enc)) :: H, c⟩, [.t 4, .t 5], 0⟩ (encOk m.kind.toNat b)
  | 0, T, H, c, g, gb, mb, n16, es, eb, n, hj, hn, h16, hes, hmb, heb => by
    subst h16 hes hmb heb
    have hp := put_gives109 (List.replicate 16 255) (by simp) 2 (19 + b.length) (by omega)
    have hff : ff 0 = List.replicate 16 255 := rfl
    have hk2 : ((UInt8.ofNat m.kind.toNat).toNat : Int) = m.kind := by rw [ofN (by omega)]; omega
    have hfl : (byteCells (ff 0)).length = 16 := by simp [ff]
    have hf0 : (ff 0).length = 16 := rfl
    rw [← hff] at hp
    refine ev_loop' (W_ok 300 _ _ _ _ ?_)
    repeat' (first | refine stpA ?_ | refine kX [] [(121, _, _)] trivial ⟨rfl, pz trivial⟩ (hp) ?_ | (refine condS ?_ ?_ <;> intro h))
    refine ev_finN [(136, _, .vec 1 _)] ⟨⟨rfl, (by simp [Blk.pure, pureLL, pureL, AV.pure]), trivial⟩, rfl, rfl, (by simp), ?_⟩
    unfold encOk
    refine tupN_ren 136 ?_ ?_
    · simp [headB, hf0] <;> omega
    · simp [headB, hff, byteCells] <;> omega
  | j + 1, T, H, c, g, gb, mb, n16, es, eb, n, hj, hn, h16, hes, hmb, heb => by
    subst h16 hes hmb heb
    have hfl : (byteCells (ff (j + 1))).length = 16 := by rw [byteCells_length, ff_length _ hj]
    have hnn : n.toNat = 16 - (j + 1) := by omega
    have hx : (byteCells (ff (j + 1)))[n.toNat]? = some [.int .u8 0] := by rw [hnn]; exact ff_get j (by omega)
    refine ev_loop' (W_ok 300 _ _ _ _ ?_)
    repeat' (first | refine stpA ?_ | (refine condS ?_ ?_ <;> intro h))
    refine ev_keep [60, 10, 7, 2, 59] [121, 107, 66] ?_
    refine ff_loop107 m hk b hb j _ _ _ _ _ _ _ _ _ (n + 1) (by omega) (by omega) rfl ?_ rfl rfl
    rw [← ff_step j (by omega), ← hnn]; rfl
theorem ff_loop113 (m : PMsg) (hk : 1 ≤ m.kind ∧ m.kind ≤ 5) (b : List UInt8) (hb : b.length ≤ 65516) : ∀ (j : Nat) (T : List (Nat × AV)) (H : Heap) (c g gb mb n16 : Nat) (es eb : List (List AV)) (n : Int) (hj : j ≤ 16) (hn : n = 16 - j) (h16 : n16 = 16) (hes : es = byteCells (ff j)) (hmb : mb = b.length) (heb : eb = byteCells b),
   Ev G ⟨f193x25LH, ⟨(60, .int .i64 n) :: (10, .vs 121 g n16) :: (7, .vs 113 gb mb) :: (2, .ref 66 1 0) :: (59, .int .i64 16) :: T, (121, some (g, .vec 1 es)) :: (113, some (gb, .vec 1 eb)) :: (66, some (1, .cells m.enc)) :: H, c⟩, [.t 4, .t 5], 0⟩ (encOk m.kind.toNat b)
  | 0, T, H, c, g, gb, mb, n16, es, eb, n, hj, hn, h16, hes, hmb, heb => by
    subst h16 hes hmb heb
    have hp := put_gives109 (List.replicate 16 255) (by simp) 2 (19 + b.length) (by omega)
    have hff : ff 0 = List.replicate 16 255 := rfl
    have hk2 : ((UInt8.ofNat m.kind.toNat).toNat : Int) = m.kind := by rw [ofN (by omega)]; omega
    have hfl : (byteCells (ff 0)).length = 16 := by simp [ff]
    have hf0 : (ff 0).length = 16 := rfl
    rw [← hff] at hp
    refine ev_loop' (W_ok 300 _ _ _ _ ?_)
    repeat' (first | refine stpA ?_ | refine kX [] [(121, _, _)] trivial ⟨rfl, pz trivial⟩ (hp) ?_ | (refine condS ?_ ?_ <;> intro h))
    refine ev_finN [(136, _, .vec 1 _)] ⟨⟨rfl, (by simp [Blk.pure, pureLL, pureL, AV.pure]), trivial⟩, rfl, rfl, (by simp), ?_⟩
    unfold encOk
    refine tupN_ren 136 ?_ ?_
    · simp [headB, hf0] <;> omega
    · simp [headB, hff, byteCells] <;> omega
  | j + 1, T, H, c, g, gb, mb, n16, es, eb, n, hj, hn, h16, hes, hmb, heb => by
    subst h16 hes hmb heb
    have hfl : (byteCells (ff (j + 1))).length = 16 := by rw [byteCells_length, ff_length _ hj]
    have hnn : n.toNat = 16 - (j + 1) := by omega
    have hx : (byteCells (ff (j + 1)))[n.toNat]? = some [.int .u8 0] := by rw [hnn]; exact ff_get j (by omega)
    refine ev_loop' (W_ok 300 _ _ _ _ ?_)
    repeat' (first | refine stpA ?_ | (refine condS ?_ ?_ <;> intro h))
    refine ev_keep [60, 10, 7, 2, 59] [121, 113, 66] ?_
    refine ff_loop113 m hk b hb j _ _ _ _ _ _ _ _ _ (n + 1) (by omega) (by omega) rfl ?_ rfl rfl
    rw [← ff_step j (by omega), ← hnn]; rfl
theorem ff_loop200 (m : PMsg) (hk : 1 ≤ m.kind ∧ m.kind ≤ 5) (b : List UInt8) (hb : b.length ≤ 65516) : ∀ (j : Nat) (T : List (Nat × AV)) (H : Heap) (c g gb mb n16 : Nat) (es eb : List (List AV)) (n : Int) (hj : j ≤ 16) (hn : n = 16 - j) (h16 : n16 = 16) (hes : es = byteCells (ff j)) (hmb : mb = b.length) (heb : eb = byteCells b),
   Ev G ⟨f193x25LH, ⟨(60, .int .i64 n) :: (10, .vs 121 g n16) :: (7, .vs 200 gb mb) :: (2, .ref 66 1 0) :: (59, .int .i64 16) :: T, (121, some (g, .vec 1 es)) :: (200, some (gb, .vec 1 eb)) :: (66, some (1, .cells m.enc)) :: H, c⟩, [.t 4, .t 5], 0⟩ (encOk m.kind.toNat b)
  | 0, T, H, c, g, gb, mb, n16, es, eb, n, hj, hn, h16, hes, hmb, heb => by
    subst h16 hes hmb heb
    have hp := put_gives109 (List.replicate 16 255) (by simp) 2 (19 + b.length) (by omega)
    have hff : ff 0 = List.replicate 16 255 := rfl
    have hk2 : ((UInt8.ofNat m.kind.toNat).toNat : Int) = m.kind := by rw [ofN (by omega)]; omega
    have hfl : (byteCells (ff 0)).length = 16 := by simp [ff]
    have hf0 : (ff 0).length = 16 := rfl
    rw [← hff] at hp
    refine ev_loop' (W_ok 300 _ _ _ _ ?_)
    repeat' (first | refine stpA ?_ | refine kX [] [(121, _, _)] trivial ⟨rfl, pz trivial⟩ (hp) ?_ | (refine condS ?_ ?_ <;> intro h))
    refine ev_finN [(136, _, .vec 1 _)] ⟨⟨rfl, (by simp [Blk.pure, pureLL, pureL, AV.pure]), trivial⟩, rfl, rfl, (by simp), ?_⟩
    unfold encOk
    refine tupN_ren 136 ?_ ?_
    · simp [headB, hf0] <;> omega
    · simp [headB, hff, byteCells] <;> omega
  | j + 1, T, H, c, g, gb, mb, n16, es, eb, n, hj, hn, h16, hes, hmb, heb => by
    subst h16 hes hmb heb
    have hfl : (byteCells (ff (j + 1))).length = 16 := by rw [byteCells_length, ff_length _ hj]
    have hnn : n.toNat = 16 - (j + 1) := by omega
    have hx : (byteCells (ff (j + 1)))[n.toNat]? = some [.int .u8 0] := by rw [hnn]; exact ff_get j (by omega)
    refine ev_loop' (W_ok 300 _ _ _ _ ?_)
    repeat' (first | refine stpA ?_ | (refine condS ?_ ?_ <;> intro h))
    refine ev_keep [60, 10, 7, 2, 59] [121, 200, 66] ?_
    refine ff_loop200 m hk b hb j _ _ _ _ _ _ _ _ _ (n + 1) (by omega) (by omega) rfl ?_ rfl rfl
    rw [← ff_step j (by omega), ← hnn]; rfl
theorem encMR_zero {m : PMsg} {wide : Bool} (h : encE m wide = 0) : encMR m wide = ⟨.tup [.vs 0 0 (msgB m wide).length, .int .i64 0], [(false, .vec 1 (byteCells (msgB m wide)))]⟩ := by unfold encMR; rw [if_pos h]
theorem encMR_ne {m : PMsg} {wide : Bool} {e : Int} (h : encE m wide = e) (he : e ≠ 0) : encMR m wide = ⟨.tup [.con (.slice none 0 0), .int .i64 e], []⟩ := by unfold encMR; rw [h, if_neg he]
theorem encE_check {m : PMsg} {wide : Bool} (h : checkM m ≠ 0) : encE m wide = checkM m := by unfold encE; rw [if_pos h]
theorem encE_bad {m : PMsg} {wide : Bool} (h : checkM m = 0) (hb : badM m wide) : encE m wide = 5 := by unfold encE; rw [if_neg (by simp [h]), if_pos hb]
theorem encE_long {m : PMsg} {wide : Bool} (h : checkM m = 0) (hb : ¬ badM m wide) (hl : 19 + (bodyB m wide).length > 65535) : encE m wide = 4 := by unfold encE; rw [if_neg (by simp [h]), if_neg hb, if_pos hl]
theorem enc_gives193 (m : PMsg) (h : AM m) (ho : m.ok) (hw : m.withdrawn.length < 2 ^ 30) (hr : m.reach.length < 2 ^ 30) (wide : Bool) : Gives G 193 [.agg m.enc, .bool wide] [] (encMR m wide) := by
  have hc := check_gives144 m h.lenO (sizeS_le h.attrs) ⟨ho.withdrawn, ho.reach⟩
  by_cases h0 : checkM m = 0
  · rw [h0] at hc
    obtain ⟨k1, k2, _⟩ := check_parts h0
    have hk : m.kind = 1 ∨ m.kind = 2 ∨ m.kind = 3 ∨ m.kind = 4 ∨ m.kind = 5 := by omega
    rcases hk with hk | hk | hk | hk | hk
    · have ok := open_ok h0 hk
      have h1 := open_gives196 m ok ho.router
      have hl := openB_length ok
      have hb : bodyB m wide = openB m := by unfold bodyB; rw [if_pos hk]
      rw [encMR_zero (zero_encE h0 (fun q => by have := q.1; omega) (by rw [hb]; omega)), msgB, hb]
      have key := ff_loop86 m ⟨k1, k2⟩ (openB m) (by omega) 16
      generalize openB m = b at *
      refine gives_code (F := f193) rfl rfl (W_ok 300 _ _ _ _ ?_)
      repeat' (first | refine stpA ?_ | (refine condS ?_ ?_ <;> intro h))
      refine ev_keep [60, 10, 7, 2, 59] [121, 86, 66] ?_
      exact key _ _ _ _ _ _ _ _ _ 0 (by omega) (by omega) rfl rfl rfl rfl
    · have ok := upd_ok h0 hk
      have h1 := upd_gives197 m ok ho h.attrs hw hr wide
      have hb : bodyB m wide = updB m wide := by unfold bodyB; rw [if_neg (by omega), if_pos hk]
      unfold updR at h1
      by_cases hbd : m.reach ≠ [] ∧ encBad m.attrs wide = true
      · rw [if_pos hbd] at h1
        rw [encMR_ne (encE_bad h0 ⟨hk, hbd⟩) (by decide)]
        refine gives_code (F := f193) rfl rfl (W_ok 300 _ _ _ _ ?_)
        repeat' (first | refine stpA ?_ | (refine condS ?_ ?_ <;> intro h))
        (first | refine fin1 ?_ | refine fin0 ?_); rfl
      · rw [if_neg hbd] at h1
        have hlen : (updB m wide).length = 4 + (packP m.withdrawn).length + (attsB m wide).length + (packP m.reach).length := by unfold updB; simp; omega
        by_cases hl : 19 + (updB m wide).length > 65535
        · rw [encMR_ne (encE_long h0 (fun q => hbd q.2) (by rw [hb]; exact hl)) (by decide)]
          by_cases hl2 : (packP m.withdrawn).length > 65535 ∨ (attsB m wide).length > 65535
          · rw [if_pos hl2] at h1
            refine gives_code (F := f193) rfl rfl (W_ok 300 _ _ _ _ ?_)
            repeat' (first | refine stpA ?_ | (refine condS ?_ ?_ <;> intro h))
            (first | refine fin1 ?_ | refine fin0 ?_); rfl
          · rw [if_neg hl2] at h1
            have l2 := packP_length (l := m.reach) (fun p hp => by have := valid_mul (ho.reach p hp) (ok.reach p hp); omega)
            have hup : (updB m wide).length < 2 ^ 40 := by omega
            clear hlen l2 hl2
            generalize updB m wide = b at *
            refine gives_code (F := f193) rfl rfl (W_ok 300 _ _ _ _ ?_)
            repeat' (first | refine stpA ?_ | (refine condS ?_ ?_ <;> intro h))
            (first | refine fin1 ?_ | refine fin0 ?_); rfl
        · rw [encMR_zero (zero_encE h0 (fun q => hbd q.2) (by rw [hb]; omega)), msgB, hb]
          rw [if_neg (by omega)] at h1
          have key := ff_loop92 m ⟨k1, k2⟩ (updB m wide) (by omega) 16
          clear hlen
          generalize updB m wide = b at *
          refine gives_code (F := f193) rfl rfl (W_ok 300 _ _ _ _ ?_)
          repeat' (first | refine stpA ?_ | (refine condS ?_ ?_ <;> intro h))
          refine ev_keep [60, 10, 7, 2, 59] [121, 92, 66] ?_
          exact key _ _ _ _ _ _ _ _ _ 0 (by omega) (by omega) rfl rfl rfl rfl
    · have ok := note_ok h0 hk
      have hb : bodyB m wide = noteB m := by unfold bodyB; rw [if_neg (by omega), if_neg (by omega), if_pos hk]
      have hl : (noteB m).length = m.data.length + 2 := by simp [noteB]
      have hd := ok.data
      obtain ⟨c1, c2⟩ := ok.code
      obtain ⟨s1, s2⟩ := ok.sub
      have e1 : ((UInt8.ofNat m.code.toNat).toNat : Int) = m.code := by rw [ofN (by omega)]; omega
      have e2 : ((UInt8.ofNat m.sub.toNat).toNat : Int) = m.sub := by rw [ofN (by omega)]; omega
      have hbl : (byteCells m.data).length = m.data.length := by simp
      rw [encMR_zero (zero_encE h0 (fun q => by have := q.1; omega) (by rw [hb]; omega)), msgB, hb]
      have key := ff_loop107 m ⟨k1, k2⟩ (noteB m) (by omega) 16
      refine gives_code (F := f193) rfl rfl (W_ok 300 _ _ _ _ ?_)
      repeat' (first | refine stpA ?_ | (refine condS ?_ ?_ <;> intro h))
      refine ev_keep [60, 10, 7, 2, 59] [121, 107, 66] ?_
      refine key _ _ _ _ _ _ _ _ _ 0 (by omega) (by omega) rfl rfl (by simp [noteB] <;> omega) ?_
      simp only [noteB, byteCells, List.map_cons, e1, e2]; rfl
    · have hb : bodyB m wide = [] := by unfold bodyB; rw [if_neg (by omega), if_neg (by omega), if_neg (by omega), if_neg (by omega)]
      rw [encMR_zero (zero_encE h0 (fun q => by have := q.1; omega) (by rw [hb]; simp)), msgB, hb]
      have key := ff_loop200 m ⟨k1, k2⟩ [] (by simp) 16
      refine gives_code (F := f193) rfl rfl (W_ok 300 _ _ _ _ ?_)
      repeat' (first | refine stpA ?_ | (refine condS ?_ ?_ <;> intro h))
      refine ev_nil 200 1 [(7, .vs 200 _ 0)] [] ⟨LeP.nilV _ _ _, trivial⟩ trivial ?_
      refine ev_keep [60, 10, 7, 2, 59] [121, 200, 66] ?_
      exact key _ _ _ _ _ _ _ _ _ 0 (by omega) (by omega) rfl rfl rfl rfl
    · have hb : bodyB m wide = [0, 1, 0, 1] := by unfold bodyB; rw [if_neg (by omega), if_neg (by omega), if_neg (by omega), if_pos hk]
      rw [encMR_zero (zero_encE h0 (fun q => by have := q.1; omega) (by rw [hb]; simp)), msgB, hb]
      have key := ff_loop113 m ⟨k1, k2⟩ [0, 1, 0, 1] (by simp) 16
      refine gives_code (F := f193) rfl rfl (W_ok 300 _ _ _ _ ?_)
      repeat' (first | refine stpA ?_ | (refine condS ?_ ?_ <;> intro h))
      refine ev_keep [60, 10, 7, 2, 59] [121, 113, 66] ?_
      exact key _ _ _ _ _ _ _ _ _ 0 (by omega) (by omega) rfl rfl rfl rfl
  · rw [encMR_ne (encE_check h0) h0]
    generalize checkM m = k at *
    refine gives_code (F := f193) rfl rfl (W_ok 300 _ _ _ _ ?_)
    repeat' (first | refine stpA ?_ | (refine condS ?_ ?_ <;> intro h))
    (first | refine fin1 ?_ | refine fin0 ?_); rfl
end Go.AM.IR
set_option maxHeartbeats 4000000
set_option maxRecDepth 20000
namespace Go.AM.IR
theorem zA2 {k : AV → Prop} {a b : Int} (h : k (.int .i64 (a + b))) (h1 : -9223372036854775808 ≤ a + b := by first | omega | (simp; omega)) (h2 : a + b ≤ 9223372036854775807 := by first | omega | (simp; omega)) : ∃ v, binA .add (.int .i64 a) (.int .i64 b) = some v ∧ k v := zA h h1 h2
theorem enc353_1 (m : PMsg) (h : AM m) (ho : m.ok) (hw : m.withdrawn.length < 2 ^ 30) (hr : m.reach.length < 2 ^ 30) (hfl : (flatS m.attrs.path).length < 2 ^ 39) (wide : Bool) (h0 : checkM m = 0) (hk : m.kind = 1) : Gives G 353 [.agg m.enc, .bool wide] [] (encMR m wide) := by
  have hc := check_gives148 m h.lenO (sizeS_le h.attrs) ⟨ho.withdrawn, ho.reach⟩
  rw [h0] at hc
  have ok := open_ok h0 hk
  have h1 := open_gives356 m ok ho.router
  have hl := openB_length ok
  have hb : bodyB m wide = openB m := by unfold bodyB; rw [if_pos hk]
  rw [encMR_zero (zero_encE h0 (fun q => by have := q.1; omega) (by rw [hb]; omega)), msgB, hb]
  have h2 := head_gives358 (19 + (openB m).length) m.kind (by omega) (by omega)
  have hh := headB_length (19 + (openB m).length) m.kind.toNat
  generalize openB m = b at *
  rw [show ((19 + b.length : Nat) : Int) = 19 + (b.length : Int) by omega] at h2
  refine gives_code (F := f353) rfl rfl (W_ok 300 _ _ _ _ ?_)
  repeat' (first | refine stpA ?_ | (refine condS ?_ ?_ <;> intro h))
  refine ev_finN [(161, _, .vec 1 _)] ⟨⟨rfl, (by simp [Blk.pure, pureLL, pureL, AV.pure]), trivial⟩, rfl, rfl, (by simp), ?_⟩
  exact tupN_eq (by simp) (by simp)
theorem enc353_2a (m : PMsg) (h : AM m) (ho : m.ok) (hw : m.withdrawn.length < 2 ^ 30) (hr : m.reach.length < 2 ^ 30) (hfl : (flatS m.attrs.path).length < 2 ^ 39) (wide : Bool) (h0 : checkM m = 0) (hk : m.kind = 2 ∧ m.reach = []) : Gives G 353 [.agg m.enc, .bool wide] [] (encMR m wide) := by
  have hc := check_gives148 m h.lenO (sizeS_le h.attrs) ⟨ho.withdrawn, ho.reach⟩
  rw [h0] at hc
  have ok := upd_ok h0 hk.1
  have hk1 := hk.1
  have hb : bodyB m wide = updB m wide := by unfold bodyB; rw [if_neg (by omega), if_pos hk.1]
  have h1 := pack_gives357 m.withdrawn (fun p hp => ⟨ho.withdrawn p hp, ok.withdrawn p hp⟩) hw
  have h2 := pack_gives357 m.reach (fun p hp => ⟨ho.reach p hp, ok.reach p hp⟩) hr
  have l1 := packP_length (l := m.withdrawn) (fun p hp => by have := valid_mul (ho.withdrawn p hp) (ok.withdrawn p hp); omega)
  have l2 := packP_length (l := m.reach) (fun p hp => by have := valid_mul (ho.reach p hp) (ok.reach p hp); omega)
  have hll : (m.reach.map Pfx.enc).length = m.reach.length := by simp
  have hlen : (updB m wide).length = 4 + (packP m.withdrawn).length + (attsB m wide).length + (packP m.reach).length := by unfold updB; simp; omega
  have hu : updB m wide = be 2 (packP m.withdrawn).length ++ packP m.withdrawn ++ be 2 (attsB m wide).length ++ attsB m wide ++ packP m.reach := by simp [updB]
  have hz := hk.2
  have hzl : m.reach.length = 0 := by simp [hz]
  have ha : attsB m wide = [] := by unfold attsB; rw [if_pos hz]
  have hq : packP m.reach = [] := by rw [hz]; rfl
  have hnb : ¬ badM m wide := fun q => q.2.1 hz
  have hql : (packP m.reach).length = 0 := by rw [hq]; rfl
  rw [ha] at hu hlen
  simp only [List.length_nil] at hlen hu
  by_cases hl : 19 + (updB m wide).length > 65535
  · rw [encMR_ne (encE_long h0 hnb (by rw [hb]; exact hl)) (by decide)]
    clear hu l2
    generalize packP m.withdrawn = g at *
    generalize packP m.reach = q at *
    refine gives_code (F := f353) rfl rfl (W_ok 300 _ _ _ _ ?_)
    repeat' (first | refine stpA ?_ | (refine condS ?_ ?_ <;> intro h))
    (first | refine fin1 ?_ | refine fin0 ?_); rfl
  · rw [encMR_zero (zero_encE h0 hnb (by rw [hb]; omega)), msgB, hb]
    have h3 := head_gives358 (19 + (updB m wide).length) m.kind (by omega) (by omega)
    have hh := headB_length (19 + (updB m wide).length) m.kind.toNat
    generalize packP m.withdrawn = g at *
    generalize packP m.reach = q at *
    have p1 := put0_gives91 2 g.length (by omega)
    have p2 := put_gives91 (be 2 g.length ++ g) (by simp; omega) 2 0 (by omega)
    rw [byteCells_append] at p2
    have h5 : ∀ N : Nat, N = (updB m wide).length → Gives G 358 [.int .i64 (19 + (N : Int)), .int .i64 m.kind] [] (rB (headB (19 + (updB m wide).length) m.kind.toNat)) := fun N hN => by rw [hN]; have := h3; rwa [show ((19 + (updB m wide).length : Nat) : Int) = 19 + ((updB m wide).length : Int) by omega] at this
    refine gives_code (F := f353) rfl rfl (W_ok 300 _ _ _ _ ?_)
    repeat' ((conv => whnf); first | refine zA2 ?_ | refine bslP (by first | rfl | (simp [pureL, pureLL, AV.pure]; done) | fail) rfl ?_ | refine TakeC.full (by first | rfl | omega | (simp; done) | (simp; omega) | fail) ?_ | refine zBs ?_ | refine zBn ?_ | refine zBv rfl rfl ?_ | refine zN ?_ | refine zC ?_ | refine zC4 ?_ | refine zOr16 ?_ | refine zC1 ?_ | refine zByte ?_ | refine zMaxL ?_ | refine zMaxR ?_ | refine zMinL ?_ | refine zMinR ?_ | refine zShr ?_ | refine zC8 ?_ | refine zQ ?_ | refine zR ?_ | refine zS ?_ | refine zA ?_ | refine zM ?_ | refine xr rfl ?_ | refine ai rfl ?_ | refine condT ?_ | refine condF ?_ | refine condG1 ?_ | refine condG0 ?_ | refine cD ?_ | refine dD ?_ | refine cB ?_ | refine dB ?_ | refine cN ?_ | refine dN ?_ | refine cV ?_ | refine dV ?_ | refine cE ?_ | refine dE ?_ | refine condX0 ?_ | refine condX1 ?_ | refine condNot ?_ | refine condAnd ?_ | refine condOr ?_ | refine aO ?_ | refine aB ?_ | refine aR ?_ | refine aR ?_ (by simp; omega) | refine xr (by assumption) ?_ | refine ai (by assumption) ?_ | refine kX [] [(126, _, _)] trivial ⟨rfl, pz trivial⟩ (p2) ?_ | refine kN (h5 _ (by simp [hlen] <;> omega)) ?_ | refine kV (by assumption) ?_ | refine kN (by assumption) ?_ | refine callW (by assumption) ?_ | refine condD (fun h => ?_) (fun h => ?_) | refine condB (fun h => ?_) (fun h => ?_) | refine condN (fun h => ?_) (fun h => ?_) | refine condE (fun h => ?_) (fun h => ?_) | refine condV (fun h => ?_) (fun h => ?_))
    refine ev_finN [(161, _, .vec 1 _)] ⟨⟨rfl, (by simp [Blk.pure, pureLL, pureL, AV.pure]), trivial⟩, rfl, rfl, (by simp), ?_⟩
    exact tupN_eq (by simp [hu] <;> omega) (by simp [hu])
theorem enc353_2b (m : PMsg) (h : AM m) (ho : m.ok) (hw : m.withdrawn.length < 2 ^ 30) (hr : m.reach.length < 2 ^ 30) (hfl : (flatS m.attrs.path).length < 2 ^ 39) (wide : Bool) (h0 : checkM m = 0) (hk : m.kind = 2 ∧ m.reach ≠ []) : Gives G 353 [.agg m.enc, .bool wide] [] (encMR m wide) := by
  have hc := check_gives148 m h.lenO (sizeS_le h.attrs) ⟨ho.withdrawn, ho.reach⟩
  rw [h0] at hc
  have ok := upd_ok h0 hk.1
  have hk1 := hk.1
  have hb : bodyB m wide = updB m wide := by unfold bodyB; rw [if_neg (by omega), if_pos hk.1]
  have h1 := pack_gives357 m.withdrawn (fun p hp => ⟨ho.withdrawn p hp, ok.withdrawn p hp⟩) hw
  have h2 := pack_gives357 m.reach (fun p hp => ⟨ho.reach p hp, ok.reach p hp⟩) hr
  have l1 := packP_length (l := m.withdrawn) (fun p hp => by have := valid_mul (ho.withdrawn p hp) (ok.withdrawn p hp); omega)
  have l2 := packP_length (l := m.reach) (fun p hp => by have := valid_mul (ho.reach p hp) (ok.reach p hp); omega)
  have hll : (m.reach.map Pfx.enc).length = m.reach.length := by simp
  have hlen : (updB m wide).length = 4 + (packP m.withdrawn).length + (attsB m wide).length + (packP m.reach).length := by unfold updB; simp; omega
  have hu : updB m wide = be 2 (packP m.withdrawn).length ++ packP m.withdrawn ++ be 2 (attsB m wide).length ++ attsB m wide ++ packP m.reach := by simp [updB]
  have hz := hk.2
  have hzl : 0 < m.reach.length := List.length_pos_iff.2 hz
  have hck := ok.attrs hz
  have ha : attsB m wide = encB m.attrs wide := by unfold attsB; rw [if_neg hz]
  have h4 := encode68 m.attrs wide h.attrs hfl ho.attrs
  unfold encR encRet at h4
  rw [if_pos hck] at h4
  rw [ha] at hu hlen
  have l3 := encB_le (valid_of hck) wide
  cases hbad : encBad m.attrs wide
  · rw [hbad, if_neg (by simp)] at h4
    have hnb : ¬ badM m wide := fun q => by have := q.2.2; rw [hbad] at this; cases this
    by_cases hl : 19 + (updB m wide).length > 65535
    · rw [encMR_ne (encE_long h0 hnb (by rw [hb]; exact hl)) (by decide)]
      clear hu
      generalize encB m.attrs wide = a at *
      generalize packP m.withdrawn = g at *
      generalize packP m.reach = q at *
      refine gives_code (F := f353) rfl rfl (W_ok 300 _ _ _ _ ?_)
      repeat' (first | refine stpA ?_ | (refine condS ?_ ?_ <;> intro h))
      (first | refine fin1 ?_ | refine fin0 ?_); rfl
    · rw [encMR_zero (zero_encE h0 hnb (by rw [hb]; omega)), msgB, hb]
      have h3 := head_gives358 (19 + (updB m wide).length) m.kind (by omega) (by omega)
      have hh := headB_length (19 + (updB m wide).length) m.kind.toNat
      generalize encB m.attrs wide = a at *
      generalize packP m.withdrawn = g at *
      generalize packP m.reach = q at *
      have p1 := put0_gives91 2 g.length (by omega)
      have p2 := put_gives91 (be 2 g.length ++ g) (by simp; omega) 2 a.length (by omega)
      rw [byteCells_append] at p2
      have h5 : ∀ N : Nat, N = (updB m wide).length → Gives G 358 [.int .i64 (19 + (N : Int)), .int .i64 m.kind] [] (rB (headB (19 + (updB m wide).length) m.kind.toNat)) := fun N hN => by rw [hN]; have := h3; rwa [show ((19 + (updB m wide).length : Nat) : Int) = 19 + ((updB m wide).length : Int) by omega] at this
      refine gives_code (F := f353) rfl rfl (W_ok 300 _ _ _ _ ?_)
      repeat' ((conv => whnf); first | refine zA2 ?_ | refine bslP (by first | rfl | (simp [pureL, pureLL, AV.pure]; done) | fail) rfl ?_ | refine TakeC.full (by first | rfl | omega | (simp; done) | (simp; omega) | fail) ?_ | refine zBs ?_ | refine zBn ?_ | refine zBv rfl rfl ?_ | refine zN ?_ | refine zC ?_ | refine zC4 ?_ | refine zOr16 ?_ | refine zC1 ?_ | refine zByte ?_ | refine zMaxL ?_ | refine zMaxR ?_ | refine zMinL ?_ | refine zMinR ?_ | refine zShr ?_ | refine zC8 ?_ | refine zQ ?_ | refine zR ?_ | refine zS ?_ | refine zA ?_ | refine zM ?_ | refine xr rfl ?_ | refine ai rfl ?_ | refine condT ?_ | refine condF ?_ | refine condG1 ?_ | refine condG0 ?_ | refine cD ?_ | refine dD ?_ | refine cB ?_ | refine dB ?_ | refine cN ?_ | refine dN ?_ | refine cV ?_ | refine dV ?_ | refine cE ?_ | refine dE ?_ | refine condX0 ?_ | refine condX1 ?_ | refine condNot ?_ | refine condAnd ?_ | refine condOr ?_ | refine aO ?_ | refine aB ?_ | refine aR ?_ | refine aR ?_ (by simp; omega) | refine xr (by assumption) ?_ | refine ai (by assumption) ?_ | refine kX [] [(126, _, _)] trivial ⟨rfl, pz trivial⟩ (p2) ?_ | refine kN (h5 _ (by simp [hlen] <;> omega)) ?_ | refine kV (by assumption) ?_ | refine kN (by assumption) ?_ | refine callW (by assumption) ?_ | refine condD (fun h => ?_) (fun h => ?_) | refine condB (fun h => ?_) (fun h => ?_) | refine condN (fun h => ?_) (fun h => ?_) | refine condE (fun h => ?_) (fun h => ?_) | refine condV (fun h => ?_) (fun h => ?_))
      refine ev_finN [(161, _, .vec 1 _)] ⟨⟨rfl, (by simp [Blk.pure, pureLL, pureL, AV.pure]), trivial⟩, rfl, rfl, (by simp), ?_⟩
      exact tupN_eq (by simp [hu] <;> omega) (by simp [hu])
  · rw [hbad, if_pos rfl] at h4
    rw [encMR_ne (encE_bad h0 ⟨hk.1, hz, hbad⟩) (by decide)]
    clear hu
    generalize packP m.withdrawn = g at *
    refine gives_code (F := f353) rfl rfl (W_ok 300 _ _ _ _ ?_)
    repeat' (first | refine stpA ?_ | (refine condS ?_ ?_ <;> intro h))
    (first | refine fin1 ?_ | refine fin0 ?_); rfl
theorem enc353_3 (m : PMsg) (h : AM m) (ho : m.ok) (hw : m.withdrawn.length < 2 ^ 30) (hr : m.reach.length < 2 ^ 30) (hfl : (flatS m.attrs.path).length < 2 ^ 39) (wide : Bool) (h0 : checkM m = 0) (hk : m.kind = 3) : Gives G 353 [.agg m.enc, .bool wide] [] (encMR m wide) := by
  have hc := check_gives148 m h.lenO (sizeS_le h.attrs) ⟨ho.withdrawn, ho.reach⟩
  rw [h0] at hc
  have ok := note_ok h0 hk
  have hb : bodyB m wide = noteB m := by unfold bodyB; rw [if_neg (by omega), if_neg (by omega), if_pos hk]
  have hl : (noteB m).length = m.data.length + 2 := by simp [noteB]
  have hd := ok.data
  obtain ⟨c1, c2⟩ := ok.code
  obtain ⟨s1, s2⟩ := ok.sub
  have e1 : ((UInt8.ofNat m.code.toNat).toNat : Int) = m.code := by rw [ofN (by omega)]; omega
  have e2 : ((UInt8.ofNat m.sub.toNat).toNat : Int) = m.sub := by rw [ofN (by omega)]; omega
  have hbl : (byteCells m.data).length = m.data.length := by simp
  rw [encMR_zero (zero_encE h0 (fun q => by have := q.1; omega) (by rw [hb]; omega)), msgB, hb]
  have h2 := head_gives358 (19 + (noteB m).length) m.kind (by omega) (by omega)
  have hh := headB_length (19 + (noteB m).length) m.kind.toNat
  have hnc : byteCells (noteB m) = [.int .u8 m.code] :: [.int .u8 m.sub] :: byteCells m.data := by simp only [noteB, byteCells, List.map_cons, e1, e2]
  rw [show ((19 + (noteB m).length : Nat) : Int) = 19 + ((2 + (byteCells m.data).length : Nat) : Int) by simp; omega] at h2
  refine gives_code (F := f353) rfl rfl (W_ok 300 _ _ _ _ ?_)
  repeat' (first | refine stpA ?_ | (refine condS ?_ ?_ <;> intro h))
  refine ev_finN [(161, _, .vec 1 _)] ⟨⟨rfl, (by simp [Blk.pure, pureLL, pureL, AV.pure]), trivial⟩, rfl, rfl, (by simp), ?_⟩
  exact tupN_eq (by simp [hl] <;> omega) (by rw [byteCells_append, hnc]; rfl)
theorem enc353_4 (m : PMsg) (h : AM m) (ho : m.ok) (hw : m.withdrawn.length < 2 ^ 30) (hr : m.reach.length < 2 ^ 30) (hfl : (flatS m.attrs.path).length < 2 ^ 39) (wide : Bool) (h0 : checkM m = 0) (hk : m.kind = 4) : Gives G 353 [.agg m.enc, .bool wide] [] (encMR m wide) := by
  have hc := check_gives148 m h.lenO (sizeS_le h.attrs) ⟨ho.withdrawn, ho.reach⟩
  rw [h0] at hc
  have hb : bodyB m wide = [] := by unfold bodyB; rw [if_neg (by omega), if_neg (by omega), if_neg (by omega), if_neg (by omega)]
  rw [encMR_zero (zero_encE h0 (fun q => by have := q.1; omega) (by rw [hb]; simp)), msgB, hb]
  have h2 := head_gives358 19 m.kind (by omega) (by omega)
  have hh := headB_length 19 m.kind.toNat
  refine gives_code (F := f353) rfl rfl (W_ok 300 _ _ _ _ ?_)
  repeat' (first | refine stpA ?_ | (refine condS ?_ ?_ <;> intro h))
  refine ev_finN [(161, _, .vec 1 _)] ⟨⟨rfl, (by simp [Blk.pure, pureLL, pureL, AV.pure]), trivial⟩, rfl, rfl, (by simp), ?_⟩
  exact tupN_eq (by simp) (by simp)
theorem enc353_5 (m : PMsg) (h : AM m) (ho : m.ok) (hw : m.withdrawn.length < 2 ^ 30) (hr : m.reach.length < 2 ^ 30) (hfl : (flatS m.attrs.path).length < 2 ^ 39) (wide : Bool) (h0 : checkM m = 0) (hk : m.kind = 5) : Gives G 353 [.agg m.enc, .bool wide] [] (encMR m wide) := by
  have hc := check_gives148 m h.lenO (sizeS_le h.attrs) ⟨ho.withdrawn, ho.reach⟩
  rw [h0] at hc
  have hb : bodyB m wide = [0, 1, 0, 1] := by unfold bodyB; rw [if_neg (by omega), if_neg (by omega), if_neg (by omega), if_pos hk]
  rw [encMR_zero (zero_encE h0 (fun q => by have := q.1; omega) (by rw [hb]; simp)), msgB, hb]
  have h2 := head_gives358 23 m.kind (by omega) (by omega)
  have hh := headB_length 23 m.kind.toNat
  refine gives_code (F := f353) rfl rfl (W_ok 300 _ _ _ _ ?_)
  repeat' (first | refine stpA ?_ | (refine condS ?_ ?_ <;> intro h))
  refine ev_finN [(161, _, .vec 1 _)] ⟨⟨rfl, (by simp [Blk.pure, pureLL, pureL, AV.pure]), trivial⟩, rfl, rfl, (by simp), ?_⟩
  exact tupN_eq (by simp [hh]) (by simp [byteCells])
theorem enc_gives353 (m : PMsg) (h : AM m) (ho : m.ok) (hw : m.withdrawn.length < 2 ^ 30) (hr : m.reach.length < 2 ^ 30) (hfl : (flatS m.attrs.path).length < 2 ^ 39) (wide : Bool) : Gives G 353 [.agg m.enc, .bool wide] [] (encMR m wide) := by
  by_cases h0 : checkM m = 0
  · obtain ⟨k1, k2, _⟩ := check_parts h0
    have hk : m.kind = 1 ∨ m.kind = 2 ∨ m.kind = 3 ∨ m.kind = 4 ∨ m.kind = 5 := by omega
    rcases hk with hk | hk | hk | hk | hk
    · exact enc353_1 m h ho hw hr hfl wide h0 hk
    · by_cases hz : m.reach = []
      · exact enc353_2a m h ho hw hr hfl wide h0 ⟨hk, hz⟩
      · exact enc353_2b m h ho hw hr hfl wide h0 ⟨hk, hz⟩
    · exact enc353_3 m h ho hw hr hfl wide h0 hk
    · exact enc353_4 m h ho hw hr hfl wide h0 hk
    · exact enc353_5 m h ho hw hr hfl wide h0 hk
  · have hc := check_gives148 m h.lenO (sizeS_le h.attrs) ⟨ho.withdrawn, ho.reach⟩
    rw [encMR_ne (encE_check h0) h0]
    generalize checkM m = k at *
    refine gives_code (F := f353) rfl rfl (W_ok 300 _ _ _ _ ?_)
    repeat' (first | refine stpA ?_ | (refine condS ?_ ?_ <;> intro h))
    (first | refine fin1 ?_ | refine fin0 ?_); rfl
end Go.AM.IR
