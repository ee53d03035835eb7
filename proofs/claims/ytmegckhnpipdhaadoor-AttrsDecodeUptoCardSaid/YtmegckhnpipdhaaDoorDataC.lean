/- What the functions of this program give, on the abstract machine. -/
import Derived.Test.YtmegckhnpipdhaaDoorDataB
import Derived.Test.YtmegckhnpipdhaaDoorDataA
import Derived.KernelRfl
import Derived.Test.YtmegckhnpipdhaaDoorMachineC
set_option linter.unusedVariables false
set_option linter.unusedSimpArgs false
set_option maxHeartbeats 4000000
set_option maxRecDepth 20000
namespace Go.AM.IR
theorem unk_loop66 (l : List TLV) (a : Attrs) (ha : a.unknown = l) (hv : ∀ t ∈ l, t.value.length < 2 ^ 40) (hl : l.length < 2 ^ 40) (ln : Int) (hln : ln = l.length) : ∀ (rest done : List TLV) (p : Option Int) (T : List (Nat × AV)) (H : Heap) (c : Nat) (n : Int) (e : l = done ++ rest) (hn : n = done.length) (hp : p = done.getLast?.map (·.kind)), Ev G ⟨f66x46LH, ⟨(121, .sl 2 (l.map TLV.enc)) :: (122, .int .i64 ln) :: (123, .int .i64 n) :: (1, .ref 65 1 0) :: T, (65, some (1, .cells a.enc)) :: H, c⟩, [.t 2], 0⟩ ⟨.int .i64 (unkC p rest), []⟩
  | [], done, p, T, H, c, n, e, hn, hp => by
    have hd : l.length = done.length := by simp [e]
    have hll : (l.map TLV.enc).length = l.length := by simp
    refine ev_loop' (W_ok 300 _ _ _ _ ?_)
    repeat' ((conv => whnf); first | refine bslP (by first | rfl | (simp [pureL, pureLL, AV.pure]; done) | fail) rfl ?_ | refine TakeC.full (by first | rfl | omega | (simp; done) | (simp; omega) | fail) ?_ | refine zBs ?_ | refine zBn ?_ | refine zBv rfl rfl ?_ | refine zN ?_ | refine zC ?_ | refine zC4 ?_ | refine zOr16 ?_ | refine zC1 ?_ | refine zByte ?_ | refine zMaxL ?_ | refine zMaxR ?_ | refine zMinL ?_ | refine zMinR ?_ | refine zShr ?_ | refine zC8 ?_ | refine zQ ?_ | refine zR ?_ | refine zS ?_ | refine zA ?_ | refine zM ?_ | refine xr rfl ?_ | refine ai rfl ?_ | refine condT ?_ | refine condF ?_ | refine condG1 ?_ | refine condG0 ?_ | refine cD ?_ | refine dD ?_ | refine cB ?_ | refine dB ?_ | refine cN ?_ | refine dN ?_ | refine cV ?_ | refine dV ?_ | refine cE ?_ | refine dE ?_ | refine condX0 ?_ | refine condX1 ?_ | refine condNot ?_ | refine condAnd ?_ | refine condOr ?_ | refine aO ?_ | refine aB ?_ | refine aR ?_ | refine aR ?_ (by simp; omega) | refine xr (by assumption) ?_ | refine ai (by assumption) ?_ | refine condD (fun h => ?_) (fun h => ?_) | refine condB (fun h => ?_) (fun h => ?_) | refine condN (fun h => ?_) (fun h => ?_) | refine condE (fun h => ?_) (fun h => ?_) | refine condV (fun h => ?_) (fun h => ?_))
    all_goals try ((first | refine ev_fin (And.intro (by first | rfl | (simp [AV.pure, pureL]; done) | fail) ?_) | refine ev_fin0 (And.intro (by first | rfl | (simp [AV.pure, pureL]; done) | fail) ?_)); first | rfl | (simp [unkC, Bool.cond_eq_ite, *]; done) | (simp [unkC, Bool.cond_eq_ite, *]; omega) | (unfold unkC; repeat' split; all_goals first | rfl | (exfalso; omega) | (simp_all; done) | (simp_all; omega)))
  | x :: r, done, p, T, H, c, n, e, hn, hp => by
    have hd : l.length = done.length + (r.length + 1) := by simp [e]
    have hll : (l.map TLV.enc).length = l.length := by simp
    have hx : (l.map TLV.enc)[n.toNat]? = some (TLV.enc x) := by simp [e, hn]
    subst ha
    have hxv : x.value.length < 2 ^ 40 := hv x (by simp [e])
    have hbl : (byteCells x.value).length = x.value.length := by simp [byteCells]
    rcases List.eq_nil_or_concat done with rfl | ⟨d, q, rfl⟩
    · obtain rfl : p = none := by simp [hp]
      simp only [List.length_nil] at hn hd
      refine ev_loop' (W_ok 300 _ _ _ _ ?_)
      repeat' ((conv => whnf); first | refine bslP (by first | rfl | (simp [pureL, pureLL, AV.pure]; done) | fail) rfl ?_ | refine TakeC.full (by first | rfl | omega | (simp; done) | (simp; omega) | fail) ?_ | refine zBs ?_ | refine zBn ?_ | refine zBv rfl rfl ?_ | refine zN ?_ | refine zC ?_ | refine zC4 ?_ | refine zOr16 ?_ | refine zC1 ?_ | refine zByte ?_ | refine zMaxL ?_ | refine zMaxR ?_ | refine zMinL ?_ | refine zMinR ?_ | refine zShr ?_ | refine zC8 ?_ | refine zQ ?_ | refine zR ?_ | refine zS ?_ | refine zA ?_ | refine zM ?_ | refine xr rfl ?_ | refine ai rfl ?_ | refine condT ?_ | refine condF ?_ | refine condG1 ?_ | refine condG0 ?_ | refine cD ?_ | refine dD ?_ | refine cB ?_ | refine dB ?_ | refine cN ?_ | refine dN ?_ | refine cV ?_ | refine dV ?_ | refine cE ?_ | refine dE ?_ | refine condX0 ?_ | refine condX1 ?_ | refine condNot ?_ | refine condAnd ?_ | refine condOr ?_ | refine aO ?_ | refine aB ?_ | refine aR ?_ | refine aR ?_ (by simp; omega) | refine xr (by assumption) ?_ | refine ai (by assumption) ?_ | refine condD (fun h => ?_) (fun h => ?_) | refine condB (fun h => ?_) (fun h => ?_) | refine condN (fun h => ?_) (fun h => ?_) | refine condE (fun h => ?_) (fun h => ?_) | refine condV (fun h => ?_) (fun h => ?_))
      all_goals try ((first | refine ev_fin (And.intro (by first | rfl | (simp [AV.pure, pureL]; done) | fail) ?_) | refine ev_fin0 (And.intro (by first | rfl | (simp [AV.pure, pureL]; done) | fail) ?_)); first | rfl | (simp [unkC, Bool.cond_eq_ite, *]; done) | (simp [unkC, Bool.cond_eq_ite, *]; omega) | (unfold unkC; repeat' split; all_goals first | rfl | (exfalso; omega) | (simp_all; done) | (simp_all; omega)))
      rw [show unkC none (x :: r) = unkC (some x.kind) r from by simp [unkC]; omega]
      refine ev_keep [121, 122, 123, 1] [65] ?_; exact unk_loop66 a.unknown a rfl hv hl ln hln r [x] (some x.kind) _ _ _ (n + 1) (by simp [e]) (by simp [hn]) (by simp)
    · obtain rfl : p = some q.kind := by simp [hp]
      simp only [List.concat_eq_append, List.length_append, List.length_singleton] at hn hd
      have hn1 : (n - 1).toNat = d.length := by omega
      have hy : (a.unknown.map TLV.enc)[(n - 1).toNat]? = some (TLV.enc q) := by rw [hn1, e]; simp
      refine ev_loop' (W_ok 300 _ _ _ _ ?_)
      repeat' ((conv => whnf); first | refine bslP (by first | rfl | (simp [pureL, pureLL, AV.pure]; done) | fail) rfl ?_ | refine TakeC.full (by first | rfl | omega | (simp; done) | (simp; omega) | fail) ?_ | refine zBs ?_ | refine zBn ?_ | refine zBv rfl rfl ?_ | refine zN ?_ | refine zC ?_ | refine zC4 ?_ | refine zOr16 ?_ | refine zC1 ?_ | refine zByte ?_ | refine zMaxL ?_ | refine zMaxR ?_ | refine zMinL ?_ | refine zMinR ?_ | refine zShr ?_ | refine zC8 ?_ | refine zQ ?_ | refine zR ?_ | refine zS ?_ | refine zA ?_ | refine zM ?_ | refine xr rfl ?_ | refine ai rfl ?_ | refine condT ?_ | refine condF ?_ | refine condG1 ?_ | refine condG0 ?_ | refine cD ?_ | refine dD ?_ | refine cB ?_ | refine dB ?_ | refine cN ?_ | refine dN ?_ | refine cV ?_ | refine dV ?_ | refine cE ?_ | refine dE ?_ | refine condX0 ?_ | refine condX1 ?_ | refine condNot ?_ | refine condAnd ?_ | refine condOr ?_ | refine aO ?_ | refine aB ?_ | refine aR ?_ | refine aR ?_ (by simp; omega) | refine xr (by assumption) ?_ | refine ai (by assumption) ?_ | refine condD (fun h => ?_) (fun h => ?_) | refine condB (fun h => ?_) (fun h => ?_) | refine condN (fun h => ?_) (fun h => ?_) | refine condE (fun h => ?_) (fun h => ?_) | refine condV (fun h => ?_) (fun h => ?_))
      all_goals try ((first | refine ev_fin (And.intro (by first | rfl | (simp [AV.pure, pureL]; done) | fail) ?_) | refine ev_fin0 (And.intro (by first | rfl | (simp [AV.pure, pureL]; done) | fail) ?_)); first | rfl | (simp [unkC, Bool.cond_eq_ite, *]; done) | (simp [unkC, Bool.cond_eq_ite, *]; omega) | (unfold unkC; repeat' split; all_goals first | rfl | (exfalso; omega) | (simp_all; done) | (simp_all; omega)))
      rw [show unkC (some q.kind) (x :: r) = unkC (some x.kind) r from by simp [unkC]; omega]
      refine ev_keep [121, 122, 123, 1] [65] ?_; exact unk_loop66 a.unknown a rfl hv hl ln hln r (d ++ [q] ++ [x]) (some x.kind) _ _ _ (n + 1) (by simp [e]) (by simp [hn] <;> omega) (by simp)
theorem cl_loop66 (l : List Int) (a : Attrs) (ha : a.clusters = l) (hu : a.unknown.length < 2 ^ 40) (hv : ∀ t ∈ a.unknown, t.value.length < 2 ^ 40) (hl : l.length < 2 ^ 40) (ln : Int) (hln : ln = l.length) : ∀ (rest done : List Int)  (T : List (Nat × AV)) (H : Heap) (c : Nat) (n : Int) (e : l = done ++ rest) (hn : n = done.length) , Ev G ⟨f66x33LH, ⟨(107, .sl 1 (l.map encU)) :: (108, .int .i64 ln) :: (109, .int .i64 n) :: (1, .ref 65 1 0) :: T, (65, some (1, .cells a.enc)) :: H, c⟩, [.t 2], 0⟩ ⟨.int .i64 (if clS rest = 0 then unknownE a.unknown else 1), []⟩
  | [], done,  T, H, c, n, e, hn => by
    have hd : l.length = done.length := by simp [e]
    have hll : (l.map encU).length = l.length := by simp
    have hul : (a.unknown.map TLV.enc).length = a.unknown.length := by simp
    rw [show (if clS [] = 0 then unknownE a.unknown else 1) = unknownE a.unknown from by simp [clS]]
    refine ev_loop' (W_ok 300 _ _ _ _ ?_)
    repeat' ((conv => whnf); first | refine bslP (by first | rfl | (simp [pureL, pureLL, AV.pure]; done) | fail) rfl ?_ | refine TakeC.full (by first | rfl | omega | (simp; done) | (simp; omega) | fail) ?_ | refine zBs ?_ | refine zBn ?_ | refine zBv rfl rfl ?_ | refine zN ?_ | refine zC ?_ | refine zC4 ?_ | refine zOr16 ?_ | refine zC1 ?_ | refine zByte ?_ | refine zMaxL ?_ | refine zMaxR ?_ | refine zMinL ?_ | refine zMinR ?_ | refine zShr ?_ | refine zC8 ?_ | refine zQ ?_ | refine zR ?_ | refine zS ?_ | refine zA ?_ | refine zM ?_ | refine xr rfl ?_ | refine ai rfl ?_ | refine condT ?_ | refine condF ?_ | refine condG1 ?_ | refine condG0 ?_ | refine cD ?_ | refine dD ?_ | refine cB ?_ | refine dB ?_ | refine cN ?_ | refine dN ?_ | refine cV ?_ | refine dV ?_ | refine cE ?_ | refine dE ?_ | refine condX0 ?_ | refine condX1 ?_ | refine condNot ?_ | refine condAnd ?_ | refine condOr ?_ | refine aO ?_ | refine aB ?_ | refine aR ?_ | refine aR ?_ (by simp; omega) | refine xr (by assumption) ?_ | refine ai (by assumption) ?_ | refine condD (fun h => ?_) (fun h => ?_) | refine condB (fun h => ?_) (fun h => ?_) | refine condN (fun h => ?_) (fun h => ?_) | refine condE (fun h => ?_) (fun h => ?_) | refine condV (fun h => ?_) (fun h => ?_))
    all_goals try ((first | refine ev_fin (And.intro (by first | rfl | (simp [AV.pure, pureL]; done) | fail) ?_) | refine ev_fin0 (And.intro (by first | rfl | (simp [AV.pure, pureL]; done) | fail) ?_)); first | rfl | (simp [unknownE, Bool.cond_eq_ite, *]; done) | (simp [unknownE, Bool.cond_eq_ite, *]; omega) | (unfold unknownE; repeat' split; all_goals first | rfl | (exfalso; omega) | (simp_all; done) | (simp_all; omega)))
    refine ev_keep [121, 122, 123, 1] [65] ?_
    rw [show unknownE a.unknown = unkC none a.unknown from by simp [unknownE]; omega]
    exact unk_loop66 a.unknown a rfl hv hu _ (by simp) a.unknown [] _ _ _ _ 0 rfl rfl rfl
  | x :: r, done,  T, H, c, n, e, hn => by
    have hd : l.length = done.length + (r.length + 1) := by simp [e]
    have hll : (l.map encU).length = l.length := by simp
    have hx : (l.map encU)[n.toNat]? = some (encU x) := by simp [e, hn]
    refine ev_loop' (W_ok 300 _ _ _ _ ?_)
    repeat' ((conv => whnf); first | refine bslP (by first | rfl | (simp [pureL, pureLL, AV.pure]; done) | fail) rfl ?_ | refine TakeC.full (by first | rfl | omega | (simp; done) | (simp; omega) | fail) ?_ | refine zBs ?_ | refine zBn ?_ | refine zBv rfl rfl ?_ | refine zN ?_ | refine zC ?_ | refine zC4 ?_ | refine zOr16 ?_ | refine zC1 ?_ | refine zByte ?_ | refine zMaxL ?_ | refine zMaxR ?_ | refine zMinL ?_ | refine zMinR ?_ | refine zShr ?_ | refine zC8 ?_ | refine zQ ?_ | refine zR ?_ | refine zS ?_ | refine zA ?_ | refine zM ?_ | refine xr rfl ?_ | refine ai rfl ?_ | refine condT ?_ | refine condF ?_ | refine condG1 ?_ | refine condG0 ?_ | refine cD ?_ | refine dD ?_ | refine cB ?_ | refine dB ?_ | refine cN ?_ | refine dN ?_ | refine cV ?_ | refine dV ?_ | refine cE ?_ | refine dE ?_ | refine condX0 ?_ | refine condX1 ?_ | refine condNot ?_ | refine condAnd ?_ | refine condOr ?_ | refine aO ?_ | refine aB ?_ | refine aR ?_ | refine aR ?_ (by simp; omega) | refine xr (by assumption) ?_ | refine ai (by assumption) ?_ | refine condD (fun h => ?_) (fun h => ?_) | refine condB (fun h => ?_) (fun h => ?_) | refine condN (fun h => ?_) (fun h => ?_) | refine condE (fun h => ?_) (fun h => ?_) | refine condV (fun h => ?_) (fun h => ?_))
    all_goals try ((first | refine ev_fin (And.intro (by first | rfl | (simp [AV.pure, pureL]; done) | fail) ?_) | refine ev_fin0 (And.intro (by first | rfl | (simp [AV.pure, pureL]; done) | fail) ?_)); first | rfl | (simp [clS, Bool.cond_eq_ite, *]; done) | (simp [clS, Bool.cond_eq_ite, *]; omega) | (unfold clS; repeat' split; all_goals first | rfl | (exfalso; omega) | (simp_all; done) | (simp_all; omega)))
    rw [show clS (x :: r) = clS r from by simp [clS, *]]
    refine ev_keep [107, 108, 109, 1] [65] ?_; exact cl_loop66 l a ha hu hv hl ln hln r (done ++ [x])  _ _ _ (n + 1) (by simp [e]) (by simp [hn] <;> omega)
theorem clS01 : ∀ l, clS l = 0 ∨ clS l = 1
  | [] => .inl rfl
  | x :: r => by
    rw [clS]
    split
    · exact .inr rfl
    · exact clS01 r
theorem firstS1 (x : Int) : firstS [x] = x := by
  simp only [firstS]; split <;> simp_all
theorem firstS0 (l : List Int) : firstS (0 :: l) = firstS l := by simp [firstS]
theorem checkS_last (a : Attrs) (h : (checkL a).take 9 = [0, 0, 0, 0, 0, 0, 0, 0, 0]) (hc : ¬ (((a.clusters.map encU).length : Int) > 64)) : checkS a = if clS a.clusters = 0 then unknownE a.unknown else 1 := by
  have e : checkL a = (checkL a).take 9 ++ [clustersE a.clusters, unknownE a.unknown] := rfl
  have hce : clustersE a.clusters = clS a.clusters := by unfold clustersE; rw [if_neg (by simp at hc; omega)]
  unfold checkS
  rw [e, h]
  simp only [List.cons_append, List.nil_append, firstS0, hce]
  rcases clS01 a.clusters with h | h
  · rw [h, firstS0, firstS1, if_pos rfl]
  · rw [h, if_neg (by omega)]; simp [firstS]
theorem orig0 {h : Bool} {x : Int} (q : h = (x != 0)) : origE h x = 0 := by
  subst q
  by_cases h : x = 0
  · simp [origE, h]
  · have e1 : (x != 0) = true := by simpa using h
    have e2 : (x == 0) = false := by simpa using h
    rw [origE, e1, e2]; rfl
theorem orig1 {h : Bool} {x : Int} (q : ¬ h = (x != 0)) : origE h x = 1 := by
  by_cases e : x = 0 <;> cases h <;> simp_all [origE]
theorem check_gives66 (a : Attrs) (h : LenB a) : Gives G 66 [.agg a.enc] [] ⟨.int .i64 (checkS a), []⟩ := by
  obtain ⟨h1, h2, h3, h4, h5, h6⟩ := h
  have hcl : (a.clusters.map encU).length = a.clusters.length := by simp
  refine gives_code (F := f66) rfl rfl (W_ok 300 _ _ _ _ ?_)
  repeat' ((conv => whnf); first | refine bslP (by first | rfl | (simp [pureL, pureLL, AV.pure]; done) | fail) rfl ?_ | refine TakeC.full (by first | rfl | omega | (simp; done) | (simp; omega) | fail) ?_ | refine zBs ?_ | refine zBn ?_ | refine zBv rfl rfl ?_ | refine zN ?_ | refine zC ?_ | refine zC4 ?_ | refine zOr16 ?_ | refine zC1 ?_ | refine zByte ?_ | refine zMaxL ?_ | refine zMaxR ?_ | refine zMinL ?_ | refine zMinR ?_ | refine zShr ?_ | refine zC8 ?_ | refine zQ ?_ | refine zR ?_ | refine zS ?_ | refine zA ?_ | refine zM ?_ | refine xr rfl ?_ | refine ai rfl ?_ | refine condT ?_ | refine condF ?_ | refine condG1 ?_ | refine condG0 ?_ | refine cD ?_ | refine dD ?_ | refine cB ?_ | refine dB ?_ | refine cN ?_ | refine dN ?_ | refine cV ?_ | refine dV ?_ | refine cE ?_ | refine dE ?_ | refine condX0 ?_ | refine condX1 ?_ | refine condNot ?_ | refine condAnd ?_ | refine condOr ?_ | refine aO ?_ | refine aB ?_ | refine aR ?_ | refine aR ?_ (by simp; omega) | refine xr (by assumption) ?_ | refine ai (by assumption) ?_ | refine kV (word_gives81 _) ?_ | refine kV (check_gives80 a.path h1 h2) ?_ | refine kV (comm_gives82 a.comms h3) ?_ | refine condD (fun h => ?_) (fun h => ?_) | refine condB (fun h => ?_) (fun h => ?_) | refine condN (fun h => ?_) (fun h => ?_) | refine condE (fun h => ?_) (fun h => ?_) | refine condV (fun h => ?_) (fun h => ?_))
  all_goals try (have hN : a.clusters.length > 64 := by omega)
  all_goals try (rename (a.hasOrig = (a.orig != 0)) => hq; replace hq := orig0 hq)
  all_goals try (rename (¬ a.hasOrig = (a.orig != 0)) => hq; replace hq := orig1 hq)
  all_goals try ((first | refine ev_fin (And.intro (by first | rfl | (simp [AV.pure, pureL]; done) | fail) ?_) | refine ev_fin0 (And.intro (by first | rfl | (simp [AV.pure, pureL]; done) | fail) ?_)); first | rfl | (simp [checkS, checkL, firstS, optE, clustersE, Bool.cond_eq_ite, *]; done) | (simp [checkS, checkL, firstS, optE, clustersE, Bool.cond_eq_ite, *]; omega) | (unfold checkS checkL firstS optE clustersE; repeat' split; all_goals first | rfl | (exfalso; omega) | (simp_all; done) | (simp_all; omega)))
  all_goals (rw [checkS_last a (by simp [checkL, optE, *]) (by assumption)]; refine ev_keep [107, 108, 109, 1] [65] ?_; exact cl_loop66 a.clusters a rfl h5 h6 h4 _ (by simp) a.clusters [] _ _ _ 0 rfl rfl)
end Go.AM.IR
namespace Go.AM.IR
set_option maxRecDepth 1000000
set_option maxHeartbeats 0
theorem awake36_gives : Gives G 64 [] [] ⟨.bool true, []⟩ := by
  refine gives_run 20000 rfl rfl ?_
  kernel_rfl
end Go.AM.IR
namespace Go.AM.IR
theorem lift_enc {α : Type} {e : List AV → Prop} {enc : α → List AV} {Q : α → Prop} (h : ∀ x, e x → ∃ a, x = enc a ∧ Q a) : ∀ es : List (List AV), (∀ x ∈ es, e x) → ∃ l : List α, es = l.map enc ∧ ∀ a ∈ l, Q a
  | [], _ => ⟨[], rfl, by simp⟩
  | x :: r, hx => by
    obtain ⟨a, rfl, ha⟩ := h x (hx x (by simp))
    obtain ⟨l, rfl, hl⟩ := lift_enc h r fun y hy => hx y (by simp [hy])
    exact ⟨a :: l, rfl, by simpa using ⟨ha, hl⟩⟩
def okI (x : Int) : Prop := -9223372036854775808 ≤ x ∧ x ≤ 9223372036854775807
def okU (x : Int) : Prop := 0 ≤ x ∧ x ≤ 4294967295
theorem T_u8 {as : List AV} (h : Ty.T (.int .u8) as) : ∃ b : UInt8, as = [.int .u8 b.toNat] ∧ True := by
  obtain ⟨n, rfl, h1, h2⟩ := h
  have h1 : 0 ≤ n := by simpa [IntKind.min, IntKind.signed] using h1
  have h2 : n ≤ 255 := by simpa [IntKind.max, IntKind.signed, IntKind.bits] using h2
  refine ⟨UInt8.ofNat n.toNat, ?_, trivial⟩
  have : ((UInt8.ofNat n.toNat).toNat : Int) = n := by simp; omega
  rw [this]
theorem T_sl {α : Type} {τ : Ty} {enc : α → List AV} {Q : α → Prop} (h : ∀ x, τ.T x → ∃ a, x = enc a ∧ Q a) {as : List AV} (hs : Ty.T (.sl τ) as) : ∃ l : List α, as = [.sl τ.cells (l.map enc)] ∧ ∀ a ∈ l, Q a := by
  obtain ⟨es, rfl, h1, _⟩ := hs
  obtain ⟨l, rfl, h2⟩ := lift_enc h es h1
  exact ⟨l, rfl, h2⟩
theorem T_bytes {as : List AV} (hs : Ty.T (.sl (.int .u8)) as) : ∃ l : List UInt8, as = [.sl 1 (byteCells l)] := by
  obtain ⟨l, rfl, _⟩ := T_sl (fun x => T_u8) hs
  exact ⟨l, rfl⟩
structure Seg.ok (s : Seg) : Prop where
  kind : okI s.kind
  as : ∀ x ∈ s.as, okI x
structure TLV.ok (s : TLV) : Prop where
  kind : okI s.kind
structure IGP.ok (s : IGP) : Prop where
  addr : okU s.addr
  cost : okI s.cost
structure Attrs.ok (a : Attrs) : Prop where
  origin : okI a.origin
  path : ∀ s ∈ a.path, s.ok
  nextHop : okU a.nextHop
  med : okI a.med
  pref : okI a.pref
  aggrAS : okI a.aggrAS
  aggrAddr : okU a.aggrAddr
  comms : ∀ x ∈ a.comms, okU x
  orig : okU a.orig
  clusters : ∀ x ∈ a.clusters, okU x
  unknown : ∀ x ∈ a.unknown, x.ok
structure PVRoute.ok (r : PVRoute) : Prop where
  paddr : okU r.paddr
  plen : okI r.plen
  attrs : r.attrs.ok
  peer : okI r.peer
  kind : okI r.kind
  router : okU r.router
end Go.AM.IR
set_option maxHeartbeats 4000000
set_option maxRecDepth 20000
namespace Go.AM.IR
theorem sizeS_le {a : Attrs} (h : AB a) : LenB a where
  path := h.path
  segs s hs := by
    have h1 := h.flat
    have h2 : s.as.length ≤ (flatS a.path).length := by
      unfold flatS
      obtain ⟨p, q, e⟩ := List.append_of_mem hs
      rw [e]; simp; omega
    omega
  comms := h.comms
  clusters := h.clusters
  unknown := h.unknown
  vals := h.vals
end Go.AM.IR
set_option maxHeartbeats 4000000
set_option maxRecDepth 20000
namespace Go.AM.IR
def zeroA : Attrs := ⟨0, [], 0, false, 0, false, 0, false, false, 0, 0, [], false, 0, [], []⟩
structure Att where
  c : UInt8
  k : UInt8
  long : Bool
  v : List UInt8
  rest : List UInt8
def attD : List UInt8 → Option Att
  | c :: k :: n :: r => bif bit16 c then (match r with
      | m :: r' => if r'.length < n.toNat * 256 + m.toNat then none else some ⟨c, k, true, r'.take (n.toNat * 256 + m.toNat), r'.drop (n.toNat * 256 + m.toNat)⟩
      | [] => none)
    else (if r.length < n.toNat then none else some ⟨c, k, false, r.take n.toNat, r.drop n.toNat⟩)
  | _ => none
def stripB (c : UInt8) : Int := bif bit16 c then (c.toNat : Int) - 16 else c.toNat
def badHead (t : Att) : Prop := ¬ stripB t.c = ((flagS (t.k.toNat : Int)).toNat : Int) ∨ (t.long = true ∧ t.v.length ≤ 255)
instance (t : Att) : Decidable (badHead t) := by unfold badHead; infer_instance
def isReq (k : Nat) : Nat := if 1 ≤ k ∧ k ≤ 3 then 1 else 0
def finD (nd : Nat) (a : Attrs) : Int × Attrs := if nd < 3 then (6, zeroA) else if checkS a = 0 then (0, a) else (checkS a, zeroA)
def decF (w : Nat) : Nat → List UInt8 → Int → Nat → Attrs → Int × Attrs
  | _, [], _, nd, a => finD nd a
  | 0, _ :: _, _, _, _ => (3, zeroA)
  | f + 1, c :: r, last, nd, a => match attD (c :: r) with
    | none => (3, zeroA)
    | some t => if (t.k.toNat : Int) ≤ last then (16, zeroA) else if badHead t then (2, zeroA) else match setA w t.k.toNat t.v a with
      | none => (2, zeroA)
      | some a' => decF w f t.rest (t.k.toNat : Int) (nd + isReq t.k.toNat) a'
def decD (w : Nat) (b : List UInt8) : Int × Attrs := decF w b.length b (-1) 0 zeroA
def decR (x : Int × Attrs) : Ret := ⟨.tup [.agg x.2.enc, .int .i64 x.1], []⟩
structure DB (N : Nat) (a : Attrs) : Prop where
  path : a.path.length ≤ N
  segs : ∀ s ∈ a.path, s.as.length ≤ 255
  comms : a.comms.length ≤ N
  clusters : a.clusters.length ≤ N
  vals : ∀ t ∈ a.unknown, t.value.length ≤ N
theorem segsF_len (w : Nat) : ∀ (f : Nat) (b : List UInt8) (l : List Seg), segsF w f b = some l → l.length ≤ b.length ∧ ∀ s ∈ l, s.as.length ≤ 255
  | f, [], l, h => by
    cases f <;> (simp only [segsF, Option.some.injEq] at h; subst h; simp)
  | 0, _ :: _, l, h => by simp [segsF] at h
  | f + 1, [_], l, h => by simp [segsF] at h
  | f + 1, k :: n :: r, l, h => by
    have hn := n.toNat_lt
    simp only [segsF] at h
    split at h
    · cases h
    · obtain ⟨l', h1, rfl⟩ := Option.map_eq_some_iff.1 h
      obtain ⟨q1, q2⟩ := segsF_len w f _ l' h1
      simp only [List.length_drop] at q1
      refine ⟨by simp only [List.length_cons]; omega, fun s hs => ?_⟩
      rcases List.mem_cons.1 hs with rfl | hs
      · simp; omega
      · exact q2 s hs
theorem setA_DB {N w k : Nat} {v : List UInt8} {a a' : Attrs} (h : DB N a) (hv : v.length ≤ N) (e : setA w k v a = some a') : DB N a' ∧ a'.unknown.length ≤ a.unknown.length + 1 := by
  obtain ⟨h1, h2, h3, h4, h5⟩ := h
  have hw : (wordsD v).length ≤ N := by simp [wordsD]; omega
  unfold setA at e
  split at e
  · split at e
    · cases e; exact ⟨⟨h1, h2, h3, h4, h5⟩, by simp⟩
    · cases e
  · obtain ⟨p, hp, rfl⟩ := Option.map_eq_some_iff.1 e
    obtain ⟨q1, q2⟩ := segsF_len w _ v p hp
    exact ⟨⟨by simp only; omega, q2, h3, h4, h5⟩, by simp⟩
  · split at e
    · cases e; exact ⟨⟨h1, h2, h3, h4, h5⟩, by simp⟩
    · cases e
  · split at e
    · cases e; exact ⟨⟨h1, h2, h3, h4, h5⟩, by simp⟩
    · cases e
  · split at e
    · cases e; exact ⟨⟨h1, h2, h3, h4, h5⟩, by simp⟩
    · cases e
  · split at e
    · cases e; exact ⟨⟨h1, h2, h3, h4, h5⟩, by simp⟩
    · cases e
  · split at e
    · cases e; exact ⟨⟨h1, h2, h3, h4, h5⟩, by simp⟩
    · cases e
  · split at e
    · cases e; exact ⟨⟨h1, h2, hw, h4, h5⟩, by simp⟩
    · cases e
  · split at e
    · cases e; exact ⟨⟨h1, h2, h3, h4, h5⟩, by simp⟩
    · cases e
  · split at e
    · cases e; exact ⟨⟨h1, h2, h3, hw, h5⟩, by simp⟩
    · cases e
  · cases e
    refine ⟨⟨h1, h2, h3, h4, fun t ht => ?_⟩, by simp⟩
    rcases List.mem_append.1 ht with ht | ht
    · exact h5 t ht
    · simp only [List.mem_singleton] at ht; subst ht; exact hv
theorem DB.lenB {N : Nat} {a : Attrs} (h : DB N a) (hN : N < 2 ^ 30) (hu : a.unknown.length ≤ N) : LenB a :=
  ⟨by have := h.path; omega, fun s hs => by have := h.segs s hs; omega, by have := h.comms; omega, by have := h.clusters; omega, by omega, fun t ht => by have := h.vals t ht; omega⟩
theorem decF_none {w f : Nat} {c : UInt8} {r : List UInt8} {last : Int} {nd : Nat} {a : Attrs} (h : attD (c :: r) = none) : decF w (f + 1) (c :: r) last nd a = (3, zeroA) := by
  simp only [decF, h]
theorem decF_some {w f : Nat} {c : UInt8} {r : List UInt8} {last : Int} {nd : Nat} {a : Attrs} {t : Att} (h : attD (c :: r) = some t) : decF w (f + 1) (c :: r) last nd a = if (t.k.toNat : Int) ≤ last then (16, zeroA) else if badHead t then (2, zeroA) else match setA w t.k.toNat t.v a with
      | none => (2, zeroA)
      | some a' => decF w f t.rest (t.k.toNat : Int) (nd + isReq t.k.toNat) a' := by
  simp only [decF, h]
def putM (m : Nat → Bool) (k : Nat) : Nat → Bool := fun i => if i = k then true else m i
structure MetOk (m : Nat → Bool) (last : Int) (nd : Nat) : Prop where
  cnt : nd = (m 1).toNat + (m 2).toNat + (m 3).toNat
  le : ∀ j, m j = true → (j : Int) ≤ last
theorem met_put {m : Nat → Bool} {last : Int} {nd k : Nat} (h : MetOk m last nd) (hk : k < 256) (h2 : ¬ (k : Int) ≤ last) : MetOk (putM m k) (k : Int) (nd + isReq k) := by
  obtain ⟨h3, h4⟩ := h
  have hmk : m k = false := by
    cases e : m k
    · rfl
    · exact absurd (h4 k e) h2
  refine ⟨?_, fun j hj => ?_⟩
  · rw [h3]
    unfold putM isReq
    by_cases e1 : k = 1
    · subst e1; simp [hmk]; omega
    · by_cases e2 : k = 2
      · subst e2; simp [hmk]; omega
      · by_cases e3 : k = 3
        · subst e3; simp [hmk]
        · rw [if_neg (Ne.symm e1), if_neg (Ne.symm e2), if_neg (Ne.symm e3), if_neg (by omega)]; rfl
  · unfold putM at hj
    split at hj
    · omega
    · have := h4 j hj; omega
def zeroC : List AV := [.int .i64 0, .con (.slice none 0 0), .int .u32 0, .bool false, .int .i64 0, .bool false, .int .i64 0, .bool false, .bool false, .int .i64 0, .int .u32 0, .con (.slice none 0 0), .bool false, .int .u32 0, .con (.slice none 0 0), .con (.slice none 0 0)]
section
variable {k : AV → Prop} {b : UInt8}
theorem zAndT (hb : bit16 b = true) (h : k (.int .u8 16)) : ∃ v, binA .and (.int .u8 (b.toNat : Int)) (.int .u8 16) = some v ∧ k v := zAnd16 (by rw [if_pos hb]; exact h)
theorem zAndF (hb : bit16 b = false) (h : k (.int .u8 0)) : ∃ v, binA .and (.int .u8 (b.toNat : Int)) (.int .u8 16) = some v ∧ k v := zAnd16 (by rw [if_neg (by simp [hb])]; exact h)
theorem zAndLT (hb : bit16 b = true) (h : k (.int .i64 16)) : ∃ v, binA .and (.int .i64 (b.toNat : Int)) (.int .i64 16) = some v ∧ k v := zAnd16L (by rw [if_pos hb]; exact h)
theorem zAndLF (hb : bit16 b = false) (h : k (.int .i64 0)) : ∃ v, binA .and (.int .i64 (b.toNat : Int)) (.int .i64 16) = some v ∧ k v := zAnd16L (by rw [if_neg (by simp [hb])]; exact h)
theorem strip_if : (if bit16 b = true then (b.toNat : Int) - 16 else b.toNat) = stripB b := by unfold stripB; cases bit16 b <;> rfl
theorem zNotB (h : k (.int .u8 (stripB b))) : ∃ v, binA .andNot (.int .u8 (b.toNat : Int)) (.int .u8 16) = some v ∧ k v := zNot16 (by rw [strip_if]; exact h)
theorem zNotLB (h : k (.int .i64 (stripB b))) : ∃ v, binA .andNot (.int .i64 (b.toNat : Int)) (.int .i64 16) = some v ∧ k v := zNot16L (by rw [strip_if]; exact h)
end
@[simp] theorem pureLL_cut (b : List UInt8) (i n : Nat) : pureLL (((byteCells b).drop i).take n) = true := by
  rw [show byteCells b = b.map encY from rfl, ← List.map_drop, ← List.map_take]
  exact pureLL_bytes _
theorem slice_eq (b : List UInt8) (i n m : Nat) (h : m = i + n) : ((byteCells b).drop i).take (m - i) = byteCells ((b.drop i).take n) := by
  subst h
  simp [byteCells, Nat.add_sub_cancel_left]
end Go.AM.IR
set_option maxHeartbeats 4000000
set_option maxRecDepth 20000
namespace Go.AM.IR
def putB (k : Int) (v : List UInt8) : List UInt8 := if v.length > 255 then (flagS k ||| 16) :: UInt8.ofNat k.toNat :: (be 2 v.length ++ v) else flagS k :: UInt8.ofNat k.toNat :: UInt8.ofNat v.length :: v
theorem retW_eq {n n' : Nat} {es es' : List (List AV)} {wide bad : Bool} (hn : n = n') (he : es = es') : (⟨.tup [], [(true, .cells [.vs 1 0 n, .bool wide, .bool bad]), (false, .vec 1 es)]⟩ : Ret) = ⟨.tup [], [(true, .cells [.vs 1 0 n', .bool wide, .bool bad]), (false, .vec 1 es')]⟩ := by subst hn he; rfl
theorem put_loop83 (l : List (List UInt8)) (k : Int) (wide bad : Bool) (b : List UInt8) (hk0 : 0 ≤ k) (hk1 : k ≤ 255) (hb : b.length < 2 ^ 38) (hc : (cat l).length < 2 ^ 38) (hl : l.length < 2 ^ 40) (ln : Int) (hln : ln = l.length) : ∀ (rest done : List (List UInt8)) (g m : Nat) (es : List (List AV)) (T : List (Nat × AV)) (H : Heap) (c : Nat) (n : Int) (e : l = done ++ rest) (hn : n = done.length) (hm : m = (cat done).length) (hes : es = byteCells (cat done)), Ev G ⟨f83x6LH, ⟨(9, .sl 1 (l.map bEnc)) :: (10, .int .i64 ln) :: (11, .int .i64 n) :: (0, .ref 0 0 0) :: (6, .vs 69 g m) :: (1, .int .i64 k) :: T, (0, some (0, .cells [.vs 1 0 b.length, .bool wide, .bool bad])) :: (1, some (0, .vec 1 (byteCells b))) :: (69, some (g, .vec 1 es)) :: H, c⟩, [], 2⟩ ⟨.tup [], [(true, .cells [.vs 1 0 (b ++ putB k (cat l)).length, .bool wide, .bool bad]), (false, .vec 1 (byteCells (b ++ putB k (cat l))))]⟩
  | [], done, g, m, es, T, H, c, n, e, hn, hm, hes => by
    have hd : l.length = done.length := by simp [e]
    have hll : (l.map bEnc).length = l.length := by simp
    obtain rfl : l = done := by simpa using e
    have hbl := byteCells_length b
    have hcl := byteCells_length (cat l)
    subst hes hm
    have e1 := u8_int hk0 hk1
    by_cases hlong : (cat l).length > 255
    · rw [show putB k (cat l) = (flagS k ||| 16) :: UInt8.ofNat k.toNat :: (be 2 (cat l).length ++ cat l) from by simp [putB, hlong]]
      have hput := put_gives109 (b ++ [flagS k ||| 16, UInt8.ofNat k.toNat]) (by simp; omega) 2 (cat l).length (by omega)
      have hB : byteCells (b ++ [flagS k ||| 16, UInt8.ofNat k.toNat]) = byteCells b ++ [[.int .u8 (flagS k ||| 16 : UInt8).toNat], [.int .u8 k]] := by simp [byteCells]; omega
      rw [hB] at hput
      refine ev_loop' (W_ok 300 _ _ _ _ ?_)
      repeat' ((conv => whnf); first | refine bslP (by first | rfl | (simp [pureL, pureLL, AV.pure]; done) | fail) rfl ?_ | refine TakeC.full (by first | rfl | omega | (simp; done) | (simp; omega) | fail) ?_ | refine zBs ?_ | refine zBn ?_ | refine zBv rfl rfl ?_ | refine zN ?_ | refine zC ?_ | refine zC4 ?_ | refine zOr16 ?_ | refine zC1 ?_ | refine zByte ?_ | refine zMaxL ?_ | refine zMaxR ?_ | refine zMinL ?_ | refine zMinR ?_ | refine zShr ?_ | refine zC8 ?_ | refine zQ ?_ | refine zR ?_ | refine zS ?_ | refine zA ?_ | refine zM ?_ | refine xr rfl ?_ | refine ai rfl ?_ | refine condT ?_ | refine condF ?_ | refine condG1 ?_ | refine condG0 ?_ | refine cD ?_ | refine dD ?_ | refine cB ?_ | refine dB ?_ | refine cN ?_ | refine dN ?_ | refine cV ?_ | refine dV ?_ | refine cE ?_ | refine dE ?_ | refine condX0 ?_ | refine condX1 ?_ | refine condNot ?_ | refine condAnd ?_ | refine condOr ?_ | refine aO ?_ | refine aB ?_ | refine aR ?_ | refine aR ?_ (by simp; omega) | refine xr (by assumption) ?_ | refine ai (by assumption) ?_ | refine kV (flag_gives94 k hk0) ?_ | refine kX [] [(1, _, _)] trivial ⟨rfl, pz trivial⟩ (hput) ?_ | refine condD (fun h => ?_) (fun h => ?_) | refine condB (fun h => ?_) (fun h => ?_) | refine condN (fun h => ?_) (fun h => ?_) | refine condE (fun h => ?_) (fun h => ?_) | refine condV (fun h => ?_) (fun h => ?_))
      conv => whnf
      refine ev_mvP 108 1 [] [(0, some (0, .cells [.vs 1 _ _, .bool wide, .bool bad]))] rfl (by first | rfl | (simp [Blk.pure, pureLL, pureL, AV.pure]; done) | fail) (by decide) trivial ⟨⟨by decide, by decide, (by simp only [hlook, Nat.beq_refl, cond_true, Blk.ren, renL, AV.ren, φM, and_self, if_true]; rfl)⟩, trivial⟩ ?_
      intro T H
      (conv => whnf); first | refine ev_finX [(0, _, _), (1, _, _)] [] [true, false] (Nat.succ_pos _) ⟨rfl, rfl, trivial⟩ rfl (by repeat' (first | exact trivial | rfl | refine And.intro ?_ ?_ | (simp [pureL, pureLL, AV.pure, Blk.renS, Blk.okS, Blk.okX, AV.okS, AV.okX]; done) | omega | fail)) ⟨(by first | rfl | exact (decide_eq_false (by omega)).symm), (by first | rfl | exact (decide_eq_false (by omega)).symm), trivial⟩ ⟨rfl, (by repeat' (first | exact trivial | rfl | refine And.intro ?_ ?_ | (simp [pureL, pureLL, AV.pure, Blk.renS, Blk.okS, Blk.okX, AV.okS, AV.okX]; done) | omega | fail)), ?_⟩ | refine ev_finX0 [(0, _, _), (1, _, _)] [] [true, false] (Nat.succ_pos _) ⟨rfl, rfl, trivial⟩ rfl (by repeat' (first | exact trivial | rfl | refine And.intro ?_ ?_ | (simp [pureL, pureLL, AV.pure, Blk.renS, Blk.okS, Blk.okX, AV.okS, AV.okX]; done) | omega | fail)) ⟨(by first | rfl | exact (decide_eq_false (by omega)).symm), (by first | rfl | exact (decide_eq_false (by omega)).symm), trivial⟩ ⟨rfl, (by repeat' (first | exact trivial | rfl | refine And.intro ?_ ?_ | (simp [pureL, pureLL, AV.pure, Blk.renS, Blk.okS, Blk.okX, AV.okS, AV.okX]; done) | omega | fail)), ?_⟩
      exact retW_eq (by simp; omega) (by simp [byteCells])
    · rw [show putB k (cat l) = flagS k :: UInt8.ofNat k.toNat :: UInt8.ofNat (cat l).length :: cat l from by simp [putB, hlong]]
      have e2 := u8_nat (k := (cat l).length) (by omega)
      refine ev_loop' (W_ok 300 _ _ _ _ ?_)
      repeat' ((conv => whnf); first | refine bslP (by first | rfl | (simp [pureL, pureLL, AV.pure]; done) | fail) rfl ?_ | refine TakeC.full (by first | rfl | omega | (simp; done) | (simp; omega) | fail) ?_ | refine zBs ?_ | refine zBn ?_ | refine zBv rfl rfl ?_ | refine zN ?_ | refine zC ?_ | refine zC4 ?_ | refine zOr16 ?_ | refine zC1 ?_ | refine zByte ?_ | refine zMaxL ?_ | refine zMaxR ?_ | refine zMinL ?_ | refine zMinR ?_ | refine zShr ?_ | refine zC8 ?_ | refine zQ ?_ | refine zR ?_ | refine zS ?_ | refine zA ?_ | refine zM ?_ | refine xr rfl ?_ | refine ai rfl ?_ | refine condT ?_ | refine condF ?_ | refine condG1 ?_ | refine condG0 ?_ | refine cD ?_ | refine dD ?_ | refine cB ?_ | refine dB ?_ | refine cN ?_ | refine dN ?_ | refine cV ?_ | refine dV ?_ | refine cE ?_ | refine dE ?_ | refine condX0 ?_ | refine condX1 ?_ | refine condNot ?_ | refine condAnd ?_ | refine condOr ?_ | refine aO ?_ | refine aB ?_ | refine aR ?_ | refine aR ?_ (by simp; omega) | refine xr (by assumption) ?_ | refine ai (by assumption) ?_ | refine kV (flag_gives94 k hk0) ?_ | refine condD (fun h => ?_) (fun h => ?_) | refine condB (fun h => ?_) (fun h => ?_) | refine condN (fun h => ?_) (fun h => ?_) | refine condE (fun h => ?_) (fun h => ?_) | refine condV (fun h => ?_) (fun h => ?_))
      (conv => whnf); first | refine ev_finX [(0, _, _), (1, _, _)] [] [true, false] (Nat.succ_pos _) ⟨rfl, rfl, trivial⟩ rfl (by repeat' (first | exact trivial | rfl | refine And.intro ?_ ?_ | (simp [pureL, pureLL, AV.pure, Blk.renS, Blk.okS, Blk.okX, AV.okS, AV.okX]; done) | omega | fail)) ⟨(by first | rfl | exact (decide_eq_false (by omega)).symm), (by first | rfl | exact (decide_eq_false (by omega)).symm), trivial⟩ ⟨rfl, (by repeat' (first | exact trivial | rfl | refine And.intro ?_ ?_ | (simp [pureL, pureLL, AV.pure, Blk.renS, Blk.okS, Blk.okX, AV.okS, AV.okX]; done) | omega | fail)), ?_⟩ | refine ev_finX0 [(0, _, _), (1, _, _)] [] [true, false] (Nat.succ_pos _) ⟨rfl, rfl, trivial⟩ rfl (by repeat' (first | exact trivial | rfl | refine And.intro ?_ ?_ | (simp [pureL, pureLL, AV.pure, Blk.renS, Blk.okS, Blk.okX, AV.okS, AV.okX]; done) | omega | fail)) ⟨(by first | rfl | exact (decide_eq_false (by omega)).symm), (by first | rfl | exact (decide_eq_false (by omega)).symm), trivial⟩ ⟨rfl, (by repeat' (first | exact trivial | rfl | refine And.intro ?_ ?_ | (simp [pureL, pureLL, AV.pure, Blk.renS, Blk.okS, Blk.okX, AV.okS, AV.okX]; done) | omega | fail)), ?_⟩
      exact retW_eq (by simp; omega) (by simp [byteCells]; omega)
  | x :: r, done, g, m, es, T, H, c, n, e, hn, hm, hes => by
    have hd : l.length = done.length + (r.length + 1) := by simp [e]
    have hll : (l.map bEnc).length = l.length := by simp
    have hx : (l.map bEnc)[n.toNat]? = some (bEnc x) := by simp [e, hn]
    have hcl : (cat l).length = (cat done).length + (x.length + (cat r).length) := by rw [e]; simp [cat]
    have hbl := byteCells_length x
    have hel : m = es.length := by rw [hm, hes]; simp
    refine ev_loop' (W_ok 300 _ _ _ _ ?_)
    repeat' ((conv => whnf); first | refine bslP (by first | rfl | (simp [pureL, pureLL, AV.pure]; done) | fail) rfl ?_ | refine TakeC.full (by first | rfl | omega | (simp; done) | (simp; omega) | fail) ?_ | refine zBs ?_ | refine zBn ?_ | refine zBv rfl rfl ?_ | refine zN ?_ | refine zC ?_ | refine zC4 ?_ | refine zOr16 ?_ | refine zC1 ?_ | refine zByte ?_ | refine zMaxL ?_ | refine zMaxR ?_ | refine zMinL ?_ | refine zMinR ?_ | refine zShr ?_ | refine zC8 ?_ | refine zQ ?_ | refine zR ?_ | refine zS ?_ | refine zA ?_ | refine zM ?_ | refine xr rfl ?_ | refine ai rfl ?_ | refine condT ?_ | refine condF ?_ | refine condG1 ?_ | refine condG0 ?_ | refine cD ?_ | refine dD ?_ | refine cB ?_ | refine dB ?_ | refine cN ?_ | refine dN ?_ | refine cV ?_ | refine dV ?_ | refine cE ?_ | refine dE ?_ | refine condX0 ?_ | refine condX1 ?_ | refine condNot ?_ | refine condAnd ?_ | refine condOr ?_ | refine aO ?_ | refine aB ?_ | refine aR ?_ | refine aR ?_ (by simp; omega) | refine xr (by assumption) ?_ | refine ai (by assumption) ?_ | refine condD (fun h => ?_) (fun h => ?_) | refine condB (fun h => ?_) (fun h => ?_) | refine condN (fun h => ?_) (fun h => ?_) | refine condE (fun h => ?_) (fun h => ?_) | refine condV (fun h => ?_) (fun h => ?_))
    refine ev_keep [9, 10, 11, 0, 6, 1] [0, 1, 69] ?_; exact put_loop83 l k wide bad b hk0 hk1 hb hc hl ln hln r (done ++ [x]) _ _ _ _ _ _ (n + 1) (by simp [e]) (by simp [hn] <;> omega) (by simp [hm, cat]) (by rw [hes]; simp [cat])
theorem put_gives83 (l : List (List UInt8)) (k : Int) (wide bad : Bool) (b : List UInt8) (hl : l.length < 2 ^ 40) (hk0 : 0 ≤ k) (hk1 : k ≤ 255) (hb : b.length < 2 ^ 38) (hc : (cat l).length < 2 ^ 38) : Gives G 83 [.ref 0 0 0, .int .i64 k, .sl 1 (l.map bEnc)] [.cells [.vs 1 0 b.length, .bool wide, .bool bad], .vec 1 (byteCells b)]
    ⟨.tup [], [(true, .cells [.vs 1 0 (b ++ putB k (cat l)).length, .bool wide, .bool bad]), (false, .vec 1 (byteCells (b ++ putB k (cat l))))]⟩ := by
  refine gives_code (F := f83) rfl rfl (W_ok 300 _ _ _ _ ?_)
  repeat' ((conv => whnf); first | refine bslP (by first | rfl | (simp [pureL, pureLL, AV.pure]; done) | fail) rfl ?_ | refine TakeC.full (by first | rfl | omega | (simp; done) | (simp; omega) | fail) ?_ | refine zBs ?_ | refine zBn ?_ | refine zBv rfl rfl ?_ | refine zN ?_ | refine zC ?_ | refine zC4 ?_ | refine zOr16 ?_ | refine zC1 ?_ | refine zByte ?_ | refine zMaxL ?_ | refine zMaxR ?_ | refine zMinL ?_ | refine zMinR ?_ | refine zShr ?_ | refine zC8 ?_ | refine zQ ?_ | refine zR ?_ | refine zS ?_ | refine zA ?_ | refine zM ?_ | refine xr rfl ?_ | refine ai rfl ?_ | refine condT ?_ | refine condF ?_ | refine condG1 ?_ | refine condG0 ?_ | refine cD ?_ | refine dD ?_ | refine cB ?_ | refine dB ?_ | refine cN ?_ | refine dN ?_ | refine cV ?_ | refine dV ?_ | refine cE ?_ | refine dE ?_ | refine condX0 ?_ | refine condX1 ?_ | refine condNot ?_ | refine condAnd ?_ | refine condOr ?_ | refine aO ?_ | refine aB ?_ | refine aR ?_ | refine aR ?_ (by simp; omega) | refine xr (by assumption) ?_ | refine ai (by assumption) ?_ | refine condD (fun h => ?_) (fun h => ?_) | refine condB (fun h => ?_) (fun h => ?_) | refine condN (fun h => ?_) (fun h => ?_) | refine condE (fun h => ?_) (fun h => ?_) | refine condV (fun h => ?_) (fun h => ?_))
  refine ev_nil 69 1 [(6, .vs 69 _ 0)] [] ⟨LeP.nilV _ _ _, trivial⟩ trivial ?_
  refine ev_keep [9, 10, 11, 0, 6, 1] [0, 1, 69] ?_
  exact put_loop83 l k wide bad b hk0 hk1 hb hc hl _ (by simp) l [] _ 0 _ _ _ _ 0 rfl rfl rfl rfl
end Go.AM.IR
set_option maxHeartbeats 4000000
set_option maxRecDepth 20000
namespace Go.AM.IR
def suf : Nat → ACode → ACode
  | 0, c => c
  | n + 1, .seq _ b => suf n b
  | _, c => c
structure EncV (a : Attrs) : Prop where
  origin : 0 ≤ a.origin ∧ a.origin ≤ 255
  segs : ∀ s ∈ a.path, (0 ≤ s.kind ∧ s.kind ≤ 255) ∧ s.as.length ≤ 255 ∧ ∀ x ∈ s.as, 0 ≤ x ∧ x < 2 ^ 63
  path : a.path.length < 2 ^ 20
  nextHop : 0 ≤ a.nextHop ∧ a.nextHop ≤ 4294967295
  med : 0 ≤ a.med ∧ a.med ≤ 4294967295
  pref : 0 ≤ a.pref ∧ a.pref ≤ 4294967295
  aggrAS : 0 ≤ a.aggrAS ∧ a.aggrAS ≤ 4294967295
  aggrAddr : 0 ≤ a.aggrAddr ∧ a.aggrAddr ≤ 4294967295
  comms : ∀ x ∈ a.comms, 0 ≤ x ∧ x ≤ 4294967295
  commsL : a.comms.length ≤ 255
  orig : 0 ≤ a.orig ∧ a.orig ≤ 4294967295
  clusters : ∀ x ∈ a.clusters, 0 ≤ x ∧ x ≤ 4294967295
  clustersL : a.clusters.length ≤ 64
  unknown : ∀ t ∈ a.unknown, (0 ≤ t.kind ∧ t.kind ≤ 255) ∧ t.value.length ≤ 255
  unknownL : a.unknown.length ≤ 64
def wordsB (l : List Int) : List UInt8 := l.flatMap fun x => be 4 x.toNat
def c13 (a : Attrs) : List UInt8 := a.unknown.flatMap fun t => putB t.kind t.value
def c12 (a : Attrs) : List UInt8 := if a.clusters.length > 0 then putB 10 (wordsB a.clusters) else []
def c11 (a : Attrs) : List UInt8 := if a.hasOrig = true then putB 9 (be 4 a.orig.toNat) else []
def c10 (a : Attrs) : List UInt8 := if a.comms.length > 0 then putB 8 (wordsB a.comms) else []
def c9 (a : Attrs) (w : Nat) : List UInt8 := if a.hasAggr = true then putB 7 (be w a.aggrAS.toNat ++ be 4 a.aggrAddr.toNat) else []
def c8 (a : Attrs) : List UInt8 := if a.atomic = true then putB 6 [] else []
def c7 (a : Attrs) : List UInt8 := if a.hasPref = true then putB 5 (be 4 a.pref.toNat) else []
def c6 (a : Attrs) : List UInt8 := if a.hasMED = true then putB 4 (be 4 a.med.toNat) else []
def c5 (a : Attrs) : List UInt8 := putB 3 (be 4 a.nextHop.toNat)
def c4 (a : Attrs) (w : Nat) : List UInt8 := putB 2 (pathB w a.path)
def c3 (a : Attrs) : List UInt8 := putB 1 [UInt8.ofNat a.origin.toNat]
theorem pathL_aux (w : Nat) (hw : w ≤ 4) : ∀ (p : List Seg), (∀ s ∈ p, s.as.length ≤ 255) → (pathB w p).length ≤ 1022 * p.length
  | [], _ => by simp [pathB]
  | s :: r, h => by
    have h1 := pathL_aux w hw r fun x hx => h x (by simp [hx])
    have h2 := h s (by simp)
    have h3 : w * s.as.length ≤ 4 * s.as.length := Nat.mul_le_mul_right _ hw
    simp only [pathB, List.flatMap_cons, List.length_append, segB, List.length_cons, asB_length] at h1 ⊢
    omega
theorem pathL (wide : Bool) (a : Attrs) (hv : EncV a) : (pathB (wd wide) a.path).length < 2 ^ 38 := by
  have := pathL_aux (wd wide) (wd_le wide) a.path fun s hs => (hv.segs s hs).2.1
  have := hv.path
  omega
def bdA (a : Attrs) (wide bad : Bool) : Bool := if a.hasAggr = true then badN wide bad a.aggrAS else bad
def encRet (bad : Bool) (b : List UInt8) : Ret := if bad = true then ⟨.tup [.con (.slice none 0 0), .int .i64 5], []⟩ else ⟨.tup [.vs 0 0 b.length, .int .i64 0], [(false, .vec 1 (byteCells b))]⟩
def r13 (a : Attrs) (w : Nat) : List UInt8 := c13 a
def r12 (a : Attrs) (w : Nat) : List UInt8 := c12 a ++ r13 a w
def r11 (a : Attrs) (w : Nat) : List UInt8 := c11 a ++ r12 a w
def r10 (a : Attrs) (w : Nat) : List UInt8 := c10 a ++ r11 a w
def r9 (a : Attrs) (w : Nat) : List UInt8 := c9 a w ++ r10 a w
def r8 (a : Attrs) (w : Nat) : List UInt8 := c8 a ++ r9 a w
def r7 (a : Attrs) (w : Nat) : List UInt8 := c7 a ++ r8 a w
def r6 (a : Attrs) (w : Nat) : List UInt8 := c6 a ++ r7 a w
def r5 (a : Attrs) (w : Nat) : List UInt8 := c5 a ++ r6 a w
def r4 (a : Attrs) (w : Nat) : List UInt8 := c4 a w ++ r5 a w
def r3 (a : Attrs) (w : Nat) : List UInt8 := c3 a ++ r4 a w
theorem unk_loop67 (l : List TLV) (a : Attrs) (wide bad : Bool) (gw : Nat) (hv : EncV a) (ha : a.unknown = l) (b0 : List UInt8) (hb : (b0 ++ c13 a).length < 2 ^ 37) (hl : l.length < 2 ^ 40) (ln : Int) (hln : ln = l.length) : ∀ (rest done : List TLV) (g n1 : Nat) (es : List (List AV)) (T : List (Nat × AV)) (H : Heap) (c : Nat) (n : Int) (e : l = done ++ rest) (hn : n = done.length) (hn1 : n1 = (b0 ++ done.flatMap fun t => putB t.kind t.value).length) (hes : es = byteCells (b0 ++ done.flatMap fun t => putB t.kind t.value)), Ev G ⟨f67x27LH, ⟨(102, .sl 2 (l.map TLV.enc)) :: (103, .int .i64 ln) :: (104, .int .i64 n) :: (7, .ref 81 gw 0) :: T, (81, some (gw, .cells [.vs 200 g n1, .bool wide, .bool bad])) :: (200, some (g, .vec 1 es)) :: H, c⟩, [.t 4, .t 5], 0⟩ (encRet bad (b0 ++ c13 a))
  | [], done, g, n1, es, T, H, c, n, e, hn, hn1, hes => by
    have hd : l.length = done.length := by simp [e]
    have hll : (l.map TLV.enc).length = l.length := by simp
    obtain rfl : l = done := by simpa using e
    subst hn1 hes
    cases bad
    · refine ev_loop' (W_ok 300 _ _ _ _ ?_)
      repeat' ((conv => whnf); first | refine bslP (by first | rfl | (simp [pureL, pureLL, AV.pure]; done) | fail) rfl ?_ | refine TakeC.full (by first | rfl | omega | (simp; done) | (simp; omega) | fail) ?_ | refine zBs ?_ | refine zBn ?_ | refine zBv rfl rfl ?_ | refine zN ?_ | refine zC ?_ | refine zC4 ?_ | refine zOr16 ?_ | refine zC1 ?_ | refine zByte ?_ | refine zMaxL ?_ | refine zMaxR ?_ | refine zMinL ?_ | refine zMinR ?_ | refine zShr ?_ | refine zC8 ?_ | refine zQ ?_ | refine zR ?_ | refine zS ?_ | refine zA ?_ | refine zM ?_ | refine xr rfl ?_ | refine ai rfl ?_ | refine condT ?_ | refine condF ?_ | refine condG1 ?_ | refine condG0 ?_ | refine cD ?_ | refine dD ?_ | refine cB ?_ | refine dB ?_ | refine cN ?_ | refine dN ?_ | refine cV ?_ | refine dV ?_ | refine cE ?_ | refine dE ?_ | refine condX0 ?_ | refine condX1 ?_ | refine condNot ?_ | refine condAnd ?_ | refine condOr ?_ | refine aO ?_ | refine aB ?_ | refine aR ?_ | refine aR ?_ (by simp; omega) | refine xr (by assumption) ?_ | refine ai (by assumption) ?_ | refine condD (fun h => ?_) (fun h => ?_) | refine condB (fun h => ?_) (fun h => ?_) | refine condN (fun h => ?_) (fun h => ?_) | refine condE (fun h => ?_) (fun h => ?_) | refine condV (fun h => ?_) (fun h => ?_))
      refine ev_finN [(200, g, .vec 1 (byteCells _))] ⟨⟨rfl, (by simp [Blk.pure]), trivial⟩, rfl, rfl, (by simp), ?_⟩
      simp [AV.ren, renL, φR, encRet, c13, ha]
    · refine ev_loop' (W_ok 300 _ _ _ _ ?_)
      repeat' ((conv => whnf); first | refine bslP (by first | rfl | (simp [pureL, pureLL, AV.pure]; done) | fail) rfl ?_ | refine TakeC.full (by first | rfl | omega | (simp; done) | (simp; omega) | fail) ?_ | refine zBs ?_ | refine zBn ?_ | refine zBv rfl rfl ?_ | refine zN ?_ | refine zC ?_ | refine zC4 ?_ | refine zOr16 ?_ | refine zC1 ?_ | refine zByte ?_ | refine zMaxL ?_ | refine zMaxR ?_ | refine zMinL ?_ | refine zMinR ?_ | refine zShr ?_ | refine zC8 ?_ | refine zQ ?_ | refine zR ?_ | refine zS ?_ | refine zA ?_ | refine zM ?_ | refine xr rfl ?_ | refine ai rfl ?_ | refine condT ?_ | refine condF ?_ | refine condG1 ?_ | refine condG0 ?_ | refine cD ?_ | refine dD ?_ | refine cB ?_ | refine dB ?_ | refine cN ?_ | refine dN ?_ | refine cV ?_ | refine dV ?_ | refine cE ?_ | refine dE ?_ | refine condX0 ?_ | refine condX1 ?_ | refine condNot ?_ | refine condAnd ?_ | refine condOr ?_ | refine aO ?_ | refine aB ?_ | refine aR ?_ | refine aR ?_ (by simp; omega) | refine xr (by assumption) ?_ | refine ai (by assumption) ?_ | refine condD (fun h => ?_) (fun h => ?_) | refine condB (fun h => ?_) (fun h => ?_) | refine condN (fun h => ?_) (fun h => ?_) | refine condE (fun h => ?_) (fun h => ?_) | refine condV (fun h => ?_) (fun h => ?_))
      (first | refine ev_fin (And.intro (by first | rfl | (simp [AV.pure, pureL]; done) | fail) ?_) | refine ev_fin0 (And.intro (by first | rfl | (simp [AV.pure, pureL]; done) | fail) ?_))
      rfl
  | x :: r, done, g, n1, es, T, H, c, n, e, hn, hn1, hes => by
    have hd : l.length = done.length + (r.length + 1) := by simp [e]
    have hll : (l.map TLV.enc).length = l.length := by simp
    have hx : (l.map TLV.enc)[n.toNat]? = some (TLV.enc x) := by simp [e, hn]
    obtain ⟨⟨hk0, hk1⟩, hxl⟩ := hv.unknown x (by rw [ha, e]; simp)
    subst hn1 hes
    have hb2 : (b0 ++ done.flatMap fun t => putB t.kind t.value).length ≤ (b0 ++ c13 a).length := by simp [c13, ha, e]
    have hput := put_gives83 [x.value] x.kind wide bad (b0 ++ done.flatMap fun t => putB t.kind t.value) (by simp) hk0 hk1 (by omega) (by simp [cat]; omega)
    rw [show cat [x.value] = x.value from by simp [cat]] at hput
    refine ev_loop' (W_ok 300 _ _ _ _ ?_)
    repeat' ((conv => whnf); first | refine bslP (by first | rfl | (simp [pureL, pureLL, AV.pure]; done) | fail) rfl ?_ | refine TakeC.full (by first | rfl | omega | (simp; done) | (simp; omega) | fail) ?_ | refine zBs ?_ | refine zBn ?_ | refine zBv rfl rfl ?_ | refine zN ?_ | refine zC ?_ | refine zC4 ?_ | refine zOr16 ?_ | refine zC1 ?_ | refine zByte ?_ | refine zMaxL ?_ | refine zMaxR ?_ | refine zMinL ?_ | refine zMinR ?_ | refine zShr ?_ | refine zC8 ?_ | refine zQ ?_ | refine zR ?_ | refine zS ?_ | refine zA ?_ | refine zM ?_ | refine xr rfl ?_ | refine ai rfl ?_ | refine condT ?_ | refine condF ?_ | refine condG1 ?_ | refine condG0 ?_ | refine cD ?_ | refine dD ?_ | refine cB ?_ | refine dB ?_ | refine cN ?_ | refine dN ?_ | refine cV ?_ | refine dV ?_ | refine cE ?_ | refine dE ?_ | refine condX0 ?_ | refine condX1 ?_ | refine condNot ?_ | refine condAnd ?_ | refine condOr ?_ | refine aO ?_ | refine aB ?_ | refine aR ?_ | refine aR ?_ (by simp; omega) | refine xr (by assumption) ?_ | refine ai (by assumption) ?_ | refine kX [(81, _, _), (200, _, _)] [(177, _, _)] ⟨rfl, rfl, trivial⟩ ⟨rfl, pz trivial⟩ (hput) ?_ | refine condD (fun h => ?_) (fun h => ?_) | refine condB (fun h => ?_) (fun h => ?_) | refine condN (fun h => ?_) (fun h => ?_) | refine condE (fun h => ?_) (fun h => ?_) | refine condV (fun h => ?_) (fun h => ?_))
    refine ev_keep [102, 103, 104, 7] [81, 200] ?_; exact unk_loop67 l a wide bad gw hv ha b0 hb hl ln hln r (done ++ [x]) _ _ _ _ _ _ (n + 1) (by simp [e]) (by simp [hn] <;> omega) (by simp) (by simp)
theorem enc67_13 (a : Attrs) (hv : EncV a) (wide bad : Bool) (b : List UInt8) (T : List (Nat × AV)) (H : Heap) (c gw g : Nat) (hb : (b ++ r13 a (wd wide)).length < 2 ^ 37) : Ev G ⟨[.code (suf 13 f67.body)], ⟨(7, .ref 81 gw 0) :: (2, .ref 66 1 0) :: (1, .bool wide) :: T, (66, some (1, .cells a.enc)) :: (81, some (gw, .cells [.vs 200 g b.length, .bool wide, .bool bad])) :: (200, some (g, .vec 1 (byteCells b))) :: H, c⟩, [.t 4, .t 5], 0⟩ (encRet bad (b ++ r13 a (wd wide))) := by
  refine ev_seq (b := suf 14 f67.body) ?_
  refine W_ok 300 _ _ _ _ ?_
  repeat' ((conv => whnf); first | refine bslP (by first | rfl | (simp [pureL, pureLL, AV.pure]; done) | fail) rfl ?_ | refine TakeC.full (by first | rfl | omega | (simp; done) | (simp; omega) | fail) ?_ | refine zBs ?_ | refine zBn ?_ | refine zBv rfl rfl ?_ | refine zN ?_ | refine zC ?_ | refine zC4 ?_ | refine zOr16 ?_ | refine zC1 ?_ | refine zByte ?_ | refine zMaxL ?_ | refine zMaxR ?_ | refine zMinL ?_ | refine zMinR ?_ | refine zShr ?_ | refine zC8 ?_ | refine zQ ?_ | refine zR ?_ | refine zS ?_ | refine zA ?_ | refine zM ?_ | refine xr rfl ?_ | refine ai rfl ?_ | refine condT ?_ | refine condF ?_ | refine condG1 ?_ | refine condG0 ?_ | refine cD ?_ | refine dD ?_ | refine cB ?_ | refine dB ?_ | refine cN ?_ | refine dN ?_ | refine cV ?_ | refine dV ?_ | refine cE ?_ | refine dE ?_ | refine condX0 ?_ | refine condX1 ?_ | refine condNot ?_ | refine condAnd ?_ | refine condOr ?_ | refine aO ?_ | refine aB ?_ | refine aR ?_ | refine aR ?_ (by simp; omega) | refine xr (by assumption) ?_ | refine ai (by assumption) ?_ | refine condD (fun h => ?_) (fun h => ?_) | refine condB (fun h => ?_) (fun h => ?_) | refine condN (fun h => ?_) (fun h => ?_) | refine condE (fun h => ?_) (fun h => ?_) | refine condV (fun h => ?_) (fun h => ?_))
  refine ev_keep [102, 103, 104, 7] [81, 200] ?_
  have hu := hv.unknownL
  exact unk_loop67 a.unknown a wide bad gw hv rfl b hb (by omega) _ (by simp) a.unknown [] g b.length (byteCells b) _ _ _ 0 rfl rfl (by simp) (by simp)
theorem enc67_12 (a : Attrs) (hv : EncV a) (wide bad : Bool) (b : List UInt8) (T : List (Nat × AV)) (H : Heap) (c gw g : Nat) (hb : (b ++ r12 a (wd wide)).length < 2 ^ 37) : Ev G ⟨[.code (suf 12 f67.body)], ⟨(7, .ref 81 gw 0) :: (2, .ref 66 1 0) :: (1, .bool wide) :: T, (66, some (1, .cells a.enc)) :: (81, some (gw, .cells [.vs 200 g b.length, .bool wide, .bool bad])) :: (200, some (g, .vec 1 (byteCells b))) :: H, c⟩, [.t 4, .t 5], 0⟩ (encRet (bad) (b ++ r12 a (wd wide))) := by
  have hf := hv.clusters
  have hcl := hv.clustersL
  have hcm := hv.commsL
  have hll1 : (a.clusters.map encU).length = a.clusters.length := by simp
  have hll2 : (a.comms.map encU).length = a.comms.length := by simp
  have hbl : b.length < 2 ^ 37 := by simp at hb; omega
  by_cases hc : a.clusters.length > 0
  · have hq : b ++ r12 a (wd wide) = (b ++ putB 10 (wordsB a.clusters)) ++ r13 a (wd wide) := by simp [r12, c12, hc]
    have hcat : cat [wordsB a.clusters] = wordsB a.clusters := by simp [cat]
    have hvl : (wordsB a.clusters).length < 2 ^ 38 := by first | (rw [be_length]; omega) | (rw [wordsB, fm_length]; omega)
    have hput := put_gives83 [wordsB a.clusters] 10 wide bad b (by simp) (by omega) (by omega) (by omega) (by rw [hcat]; exact hvl)
    rw [hcat] at hput
    rw [hq] at hb ⊢
    refine ev_seq (b := suf 13 f67.body) ?_
    refine W_okd 1 300 _ _ _ _ ?_
    repeat' ((conv => whnf); first | refine bslP (by first | rfl | (simp [pureL, pureLL, AV.pure]; done) | fail) rfl ?_ | refine TakeC.full (by first | rfl | omega | (simp; done) | (simp; omega) | fail) ?_ | refine zBs ?_ | refine zBn ?_ | refine zBv rfl rfl ?_ | refine zN ?_ | refine zC ?_ | refine zC4 ?_ | refine zOr16 ?_ | refine zC1 ?_ | refine zByte ?_ | refine zMaxL ?_ | refine zMaxR ?_ | refine zMinL ?_ | refine zMinR ?_ | refine zShr ?_ | refine zC8 ?_ | refine zQ ?_ | refine zR ?_ | refine zS ?_ | refine zA ?_ | refine zM ?_ | refine xr rfl ?_ | refine ai rfl ?_ | refine condT ?_ | refine condF ?_ | refine condG1 ?_ | refine condG0 ?_ | refine cD ?_ | refine dD ?_ | refine cB ?_ | refine dB ?_ | refine cN ?_ | refine dN ?_ | refine cV ?_ | refine dV ?_ | refine cE ?_ | refine dE ?_ | refine condX0 ?_ | refine condX1 ?_ | refine condNot ?_ | refine condAnd ?_ | refine condOr ?_ | refine aO ?_ | refine aB ?_ | refine aR ?_ | refine aR ?_ (by simp; omega) | refine xr (by assumption) ?_ | refine ai (by assumption) ?_ | refine kN (words_gives87 a.clusters (by omega) hv.clusters) ?_ | refine kB [(162, _, _)] ⟨rfl, pz trivial⟩ ?_ | refine kX [(81, _, _), (200, _, _)] [(163, _, _)] ⟨rfl, rfl, trivial⟩ ⟨rfl, pz trivial⟩ (hput) ?_ | refine condD (fun h => ?_) (fun h => ?_) | refine condB (fun h => ?_) (fun h => ?_) | refine condN (fun h => ?_) (fun h => ?_) | refine condE (fun h => ?_) (fun h => ?_) | refine condV (fun h => ?_) (fun h => ?_))
    refine ev_keep [7, 2, 1] [66, 81, 200] ?_
    exact enc67_13 a hv wide bad _ _ _ _ _ _ hb
  · have hq : b ++ r12 a (wd wide) = b ++ r13 a (wd wide) := by simp [r12, c12, hc]
    rw [hq] at hb ⊢
    refine ev_seq (b := suf 13 f67.body) ?_
    try simp only [Bool.not_eq_true] at hc
    refine W_okd 1 300 _ _ _ _ ?_
    repeat' ((conv => whnf); first | refine bslP (by first | rfl | (simp [pureL, pureLL, AV.pure]; done) | fail) rfl ?_ | refine TakeC.full (by first | rfl | omega | (simp; done) | (simp; omega) | fail) ?_ | refine zBs ?_ | refine zBn ?_ | refine zBv rfl rfl ?_ | refine zN ?_ | refine zC ?_ | refine zC4 ?_ | refine zOr16 ?_ | refine zC1 ?_ | refine zByte ?_ | refine zMaxL ?_ | refine zMaxR ?_ | refine zMinL ?_ | refine zMinR ?_ | refine zShr ?_ | refine zC8 ?_ | refine zQ ?_ | refine zR ?_ | refine zS ?_ | refine zA ?_ | refine zM ?_ | refine xr rfl ?_ | refine ai rfl ?_ | refine condT ?_ | refine condF ?_ | refine condG1 ?_ | refine condG0 ?_ | refine cD ?_ | refine dD ?_ | refine cB ?_ | refine dB ?_ | refine cN ?_ | refine dN ?_ | refine cV ?_ | refine dV ?_ | refine cE ?_ | refine dE ?_ | refine condX0 ?_ | refine condX1 ?_ | refine condNot ?_ | refine condAnd ?_ | refine condOr ?_ | refine aO ?_ | refine aB ?_ | refine aR ?_ | refine aR ?_ (by simp; omega) | refine xr (by assumption) ?_ | refine ai (by assumption) ?_ | refine condD (fun h => ?_) (fun h => ?_) | refine condB (fun h => ?_) (fun h => ?_) | refine condN (fun h => ?_) (fun h => ?_) | refine condE (fun h => ?_) (fun h => ?_) | refine condV (fun h => ?_) (fun h => ?_))
    refine ev_keep [7, 2, 1] [66, 81, 200] ?_
    exact enc67_13 a hv wide bad _ _ _ _ _ _ hb
theorem enc67_11 (a : Attrs) (hv : EncV a) (wide bad : Bool) (b : List UInt8) (T : List (Nat × AV)) (H : Heap) (c gw g : Nat) (hb : (b ++ r11 a (wd wide)).length < 2 ^ 37) : Ev G ⟨[.code (suf 11 f67.body)], ⟨(7, .ref 81 gw 0) :: (2, .ref 66 1 0) :: (1, .bool wide) :: T, (66, some (1, .cells a.enc)) :: (81, some (gw, .cells [.vs 200 g b.length, .bool wide, .bool bad])) :: (200, some (g, .vec 1 (byteCells b))) :: H, c⟩, [.t 4, .t 5], 0⟩ (encRet (bad) (b ++ r11 a (wd wide))) := by
  have hf := hv.orig
  have hcl := hv.clustersL
  have hcm := hv.commsL
  have hll1 : (a.clusters.map encU).length = a.clusters.length := by simp
  have hll2 : (a.comms.map encU).length = a.comms.length := by simp
  have hbl : b.length < 2 ^ 37 := by simp at hb; omega
  by_cases hc : a.hasOrig = true
  · have hq : b ++ r11 a (wd wide) = (b ++ putB 9 (be 4 a.orig.toNat)) ++ r12 a (wd wide) := by simp [r11, c11, hc]
    have hcat : cat [be 4 a.orig.toNat] = be 4 a.orig.toNat := by simp [cat]
    have hvl : (be 4 a.orig.toNat).length < 2 ^ 38 := by first | (rw [be_length]; omega) | (rw [wordsB, fm_length]; omega)
    have hput := put_gives83 [be 4 a.orig.toNat] 9 wide bad b (by simp) (by omega) (by omega) (by omega) (by rw [hcat]; exact hvl)
    rw [hcat] at hput
    rw [hq] at hb ⊢
    refine ev_seq (b := suf 12 f67.body) ?_
    refine W_okd 1 300 _ _ _ _ ?_
    repeat' ((conv => whnf); first | refine bslP (by first | rfl | (simp [pureL, pureLL, AV.pure]; done) | fail) rfl ?_ | refine TakeC.full (by first | rfl | omega | (simp; done) | (simp; omega) | fail) ?_ | refine zBs ?_ | refine zBn ?_ | refine zBv rfl rfl ?_ | refine zN ?_ | refine zC ?_ | refine zC4 ?_ | refine zOr16 ?_ | refine zC1 ?_ | refine zByte ?_ | refine zMaxL ?_ | refine zMaxR ?_ | refine zMinL ?_ | refine zMinR ?_ | refine zShr ?_ | refine zC8 ?_ | refine zQ ?_ | refine zR ?_ | refine zS ?_ | refine zA ?_ | refine zM ?_ | refine xr rfl ?_ | refine ai rfl ?_ | refine condT ?_ | refine condF ?_ | refine condG1 ?_ | refine condG0 ?_ | refine cD ?_ | refine dD ?_ | refine cB ?_ | refine dB ?_ | refine cN ?_ | refine dN ?_ | refine cV ?_ | refine dV ?_ | refine cE ?_ | refine dE ?_ | refine condX0 ?_ | refine condX1 ?_ | refine condNot ?_ | refine condAnd ?_ | refine condOr ?_ | refine aO ?_ | refine aB ?_ | refine aR ?_ | refine aR ?_ (by simp; omega) | refine xr (by assumption) ?_ | refine ai (by assumption) ?_ | refine kN (number85 a.orig (by omega) (by omega)) ?_ | refine kB [(152, _, _)] ⟨rfl, pz trivial⟩ ?_ | refine kX [(81, _, _), (200, _, _)] [(153, _, _)] ⟨rfl, rfl, trivial⟩ ⟨rfl, pz trivial⟩ (hput) ?_ | refine condD (fun h => ?_) (fun h => ?_) | refine condB (fun h => ?_) (fun h => ?_) | refine condN (fun h => ?_) (fun h => ?_) | refine condE (fun h => ?_) (fun h => ?_) | refine condV (fun h => ?_) (fun h => ?_))
    refine ev_keep [7, 2, 1] [66, 81, 200] ?_
    exact enc67_12 a hv wide bad _ _ _ _ _ _ hb
  · have hq : b ++ r11 a (wd wide) = b ++ r12 a (wd wide) := by simp [r11, c11, hc]
    rw [hq] at hb ⊢
    refine ev_seq (b := suf 12 f67.body) ?_
    try simp only [Bool.not_eq_true] at hc
    refine W_okd 1 300 _ _ _ _ ?_
    repeat' ((conv => whnf); first | refine bslP (by first | rfl | (simp [pureL, pureLL, AV.pure]; done) | fail) rfl ?_ | refine TakeC.full (by first | rfl | omega | (simp; done) | (simp; omega) | fail) ?_ | refine zBs ?_ | refine zBn ?_ | refine zBv rfl rfl ?_ | refine zN ?_ | refine zC ?_ | refine zC4 ?_ | refine zOr16 ?_ | refine zC1 ?_ | refine zByte ?_ | refine zMaxL ?_ | refine zMaxR ?_ | refine zMinL ?_ | refine zMinR ?_ | refine zShr ?_ | refine zC8 ?_ | refine zQ ?_ | refine zR ?_ | refine zS ?_ | refine zA ?_ | refine zM ?_ | refine xr rfl ?_ | refine ai rfl ?_ | refine condT ?_ | refine condF ?_ | refine condG1 ?_ | refine condG0 ?_ | refine cD ?_ | refine dD ?_ | refine cB ?_ | refine dB ?_ | refine cN ?_ | refine dN ?_ | refine cV ?_ | refine dV ?_ | refine cE ?_ | refine dE ?_ | refine condX0 ?_ | refine condX1 ?_ | refine condNot ?_ | refine condAnd ?_ | refine condOr ?_ | refine aO ?_ | refine aB ?_ | refine aR ?_ | refine aR ?_ (by simp; omega) | refine xr (by assumption) ?_ | refine ai (by assumption) ?_ | refine condD (fun h => ?_) (fun h => ?_) | refine condB (fun h => ?_) (fun h => ?_) | refine condN (fun h => ?_) (fun h => ?_) | refine condE (fun h => ?_) (fun h => ?_) | refine condV (fun h => ?_) (fun h => ?_))
    refine ev_keep [7, 2, 1] [66, 81, 200] ?_
    exact enc67_12 a hv wide bad _ _ _ _ _ _ hb
theorem enc67_10 (a : Attrs) (hv : EncV a) (wide bad : Bool) (b : List UInt8) (T : List (Nat × AV)) (H : Heap) (c gw g : Nat) (hb : (b ++ r10 a (wd wide)).length < 2 ^ 37) : Ev G ⟨[.code (suf 10 f67.body)], ⟨(7, .ref 81 gw 0) :: (2, .ref 66 1 0) :: (1, .bool wide) :: T, (66, some (1, .cells a.enc)) :: (81, some (gw, .cells [.vs 200 g b.length, .bool wide, .bool bad])) :: (200, some (g, .vec 1 (byteCells b))) :: H, c⟩, [.t 4, .t 5], 0⟩ (encRet (bad) (b ++ r10 a (wd wide))) := by
  have hf := hv.comms
  have hcl := hv.clustersL
  have hcm := hv.commsL
  have hll1 : (a.clusters.map encU).length = a.clusters.length := by simp
  have hll2 : (a.comms.map encU).length = a.comms.length := by simp
  have hbl : b.length < 2 ^ 37 := by simp at hb; omega
  by_cases hc : a.comms.length > 0
  · have hq : b ++ r10 a (wd wide) = (b ++ putB 8 (wordsB a.comms)) ++ r11 a (wd wide) := by simp [r10, c10, hc]
    have hcat : cat [wordsB a.comms] = wordsB a.comms := by simp [cat]
    have hvl : (wordsB a.comms).length < 2 ^ 38 := by first | (rw [be_length]; omega) | (rw [wordsB, fm_length]; omega)
    have hput := put_gives83 [wordsB a.comms] 8 wide bad b (by simp) (by omega) (by omega) (by omega) (by rw [hcat]; exact hvl)
    rw [hcat] at hput
    rw [hq] at hb ⊢
    refine ev_seq (b := suf 11 f67.body) ?_
    refine W_okd 1 300 _ _ _ _ ?_
    repeat' ((conv => whnf); first | refine bslP (by first | rfl | (simp [pureL, pureLL, AV.pure]; done) | fail) rfl ?_ | refine TakeC.full (by first | rfl | omega | (simp; done) | (simp; omega) | fail) ?_ | refine zBs ?_ | refine zBn ?_ | refine zBv rfl rfl ?_ | refine zN ?_ | refine zC ?_ | refine zC4 ?_ | refine zOr16 ?_ | refine zC1 ?_ | refine zByte ?_ | refine zMaxL ?_ | refine zMaxR ?_ | refine zMinL ?_ | refine zMinR ?_ | refine zShr ?_ | refine zC8 ?_ | refine zQ ?_ | refine zR ?_ | refine zS ?_ | refine zA ?_ | refine zM ?_ | refine xr rfl ?_ | refine ai rfl ?_ | refine condT ?_ | refine condF ?_ | refine condG1 ?_ | refine condG0 ?_ | refine cD ?_ | refine dD ?_ | refine cB ?_ | refine dB ?_ | refine cN ?_ | refine dN ?_ | refine cV ?_ | refine dV ?_ | refine cE ?_ | refine dE ?_ | refine condX0 ?_ | refine condX1 ?_ | refine condNot ?_ | refine condAnd ?_ | refine condOr ?_ | refine aO ?_ | refine aB ?_ | refine aR ?_ | refine aR ?_ (by simp; omega) | refine xr (by assumption) ?_ | refine ai (by assumption) ?_ | refine kN (words_gives87 a.comms (by omega) hv.comms) ?_ | refine kB [(143, _, _)] ⟨rfl, pz trivial⟩ ?_ | refine kX [(81, _, _), (200, _, _)] [(144, _, _)] ⟨rfl, rfl, trivial⟩ ⟨rfl, pz trivial⟩ (hput) ?_ | refine condD (fun h => ?_) (fun h => ?_) | refine condB (fun h => ?_) (fun h => ?_) | refine condN (fun h => ?_) (fun h => ?_) | refine condE (fun h => ?_) (fun h => ?_) | refine condV (fun h => ?_) (fun h => ?_))
    refine ev_keep [7, 2, 1] [66, 81, 200] ?_
    exact enc67_11 a hv wide bad _ _ _ _ _ _ hb
  · have hq : b ++ r10 a (wd wide) = b ++ r11 a (wd wide) := by simp [r10, c10, hc]
    rw [hq] at hb ⊢
    refine ev_seq (b := suf 11 f67.body) ?_
    try simp only [Bool.not_eq_true] at hc
    refine W_okd 1 300 _ _ _ _ ?_
    repeat' ((conv => whnf); first | refine bslP (by first | rfl | (simp [pureL, pureLL, AV.pure]; done) | fail) rfl ?_ | refine TakeC.full (by first | rfl | omega | (simp; done) | (simp; omega) | fail) ?_ | refine zBs ?_ | refine zBn ?_ | refine zBv rfl rfl ?_ | refine zN ?_ | refine zC ?_ | refine zC4 ?_ | refine zOr16 ?_ | refine zC1 ?_ | refine zByte ?_ | refine zMaxL ?_ | refine zMaxR ?_ | refine zMinL ?_ | refine zMinR ?_ | refine zShr ?_ | refine zC8 ?_ | refine zQ ?_ | refine zR ?_ | refine zS ?_ | refine zA ?_ | refine zM ?_ | refine xr rfl ?_ | refine ai rfl ?_ | refine condT ?_ | refine condF ?_ | refine condG1 ?_ | refine condG0 ?_ | refine cD ?_ | refine dD ?_ | refine cB ?_ | refine dB ?_ | refine cN ?_ | refine dN ?_ | refine cV ?_ | refine dV ?_ | refine cE ?_ | refine dE ?_ | refine condX0 ?_ | refine condX1 ?_ | refine condNot ?_ | refine condAnd ?_ | refine condOr ?_ | refine aO ?_ | refine aB ?_ | refine aR ?_ | refine aR ?_ (by simp; omega) | refine xr (by assumption) ?_ | refine ai (by assumption) ?_ | refine condD (fun h => ?_) (fun h => ?_) | refine condB (fun h => ?_) (fun h => ?_) | refine condN (fun h => ?_) (fun h => ?_) | refine condE (fun h => ?_) (fun h => ?_) | refine condV (fun h => ?_) (fun h => ?_))
    refine ev_keep [7, 2, 1] [66, 81, 200] ?_
    exact enc67_11 a hv wide bad _ _ _ _ _ _ hb
theorem enc67_9 (a : Attrs) (hv : EncV a) (wide bad : Bool) (b : List UInt8) (T : List (Nat × AV)) (H : Heap) (c gw g : Nat) (hb : (b ++ r9 a (wd wide)).length < 2 ^ 37) : Ev G ⟨[.code (suf 9 f67.body)], ⟨(7, .ref 81 gw 0) :: (2, .ref 66 1 0) :: (1, .bool wide) :: T, (66, some (1, .cells a.enc)) :: (81, some (gw, .cells [.vs 200 g b.length, .bool wide, .bool bad])) :: (200, some (g, .vec 1 (byteCells b))) :: H, c⟩, [.t 4, .t 5], 0⟩ (encRet (bdA a wide bad) (b ++ r9 a (wd wide))) := by
  have hf := hv.aggrAS
  have hf2 := hv.aggrAddr
  have hbl : b.length < 2 ^ 37 := by simp at hb; omega
  by_cases hc : a.hasAggr = true
  · have hq : b ++ r9 a (wd wide) = (b ++ putB 7 (be (wd wide) a.aggrAS.toNat ++ be 4 a.aggrAddr.toNat)) ++ r10 a (wd wide) := by simp [r9, c9, hc]
    have hbd : bdA a wide bad = badN wide bad a.aggrAS := by simp [bdA, hc]
    have hcat : cat [be (wd wide) a.aggrAS.toNat, be 4 a.aggrAddr.toNat] = be (wd wide) a.aggrAS.toNat ++ be 4 a.aggrAddr.toNat := by simp [cat]
    have has := as_gives86 a.aggrAS.toNat (by omega) wide bad b
    rw [show ((a.aggrAS.toNat : Nat) : Int) = a.aggrAS from by omega] at has
    have hput := put_gives83 [be (wd wide) a.aggrAS.toNat, be 4 a.aggrAddr.toNat] 7 wide (badN wide bad a.aggrAS) b (by simp) (by omega) (by omega) (by omega) (by rw [hcat]; simp; have := wd_le wide; omega)
    rw [hcat] at hput
    rw [hq] at hb ⊢
    rw [hbd]
    refine ev_seq (b := suf 10 f67.body) ?_
    refine W_okd 1 300 _ _ _ _ ?_
    repeat' ((conv => whnf); first | refine bslP (by first | rfl | (simp [pureL, pureLL, AV.pure]; done) | fail) rfl ?_ | refine TakeC.full (by first | rfl | omega | (simp; done) | (simp; omega) | fail) ?_ | refine zBs ?_ | refine zBn ?_ | refine zBv rfl rfl ?_ | refine zN ?_ | refine zC ?_ | refine zC4 ?_ | refine zOr16 ?_ | refine zC1 ?_ | refine zByte ?_ | refine zMaxL ?_ | refine zMaxR ?_ | refine zMinL ?_ | refine zMinR ?_ | refine zShr ?_ | refine zC8 ?_ | refine zQ ?_ | refine zR ?_ | refine zS ?_ | refine zA ?_ | refine zM ?_ | refine xr rfl ?_ | refine ai rfl ?_ | refine condT ?_ | refine condF ?_ | refine condG1 ?_ | refine condG0 ?_ | refine cD ?_ | refine dD ?_ | refine cB ?_ | refine dB ?_ | refine cN ?_ | refine dN ?_ | refine cV ?_ | refine dV ?_ | refine cE ?_ | refine dE ?_ | refine condX0 ?_ | refine condX1 ?_ | refine condNot ?_ | refine condAnd ?_ | refine condOr ?_ | refine aO ?_ | refine aB ?_ | refine aR ?_ | refine aR ?_ (by simp; omega) | refine xr (by assumption) ?_ | refine ai (by assumption) ?_ | refine kX [(81, _, _), (200, _, _)] [] ⟨rfl, rfl, trivial⟩ trivial (has) ?_ | refine kN (number85 a.aggrAddr (by omega) (by omega)) ?_ | refine kB [(129, _, _), (133, _, _)] ⟨rfl, pz ⟨rfl, pz trivial⟩⟩ ?_ | refine kX [(81, _, _), (200, _, _)] [(134, _, _)] ⟨rfl, rfl, trivial⟩ ⟨rfl, pz trivial⟩ (hput) ?_ | refine condD (fun h => ?_) (fun h => ?_) | refine condB (fun h => ?_) (fun h => ?_) | refine condN (fun h => ?_) (fun h => ?_) | refine condE (fun h => ?_) (fun h => ?_) | refine condV (fun h => ?_) (fun h => ?_))
    refine ev_keep [7, 2, 1] [66, 81, 200] ?_
    exact enc67_10 a hv wide _ _ _ _ _ _ _ hb
  · have hq : b ++ r9 a (wd wide) = b ++ r10 a (wd wide) := by simp [r9, c9, hc]
    have hbd : bdA a wide bad = bad := by simp [bdA, hc]
    rw [hq] at hb ⊢
    rw [hbd]
    refine ev_seq (b := suf 10 f67.body) ?_
    try simp only [Bool.not_eq_true] at hc
    refine W_okd 1 300 _ _ _ _ ?_
    repeat' ((conv => whnf); first | refine bslP (by first | rfl | (simp [pureL, pureLL, AV.pure]; done) | fail) rfl ?_ | refine TakeC.full (by first | rfl | omega | (simp; done) | (simp; omega) | fail) ?_ | refine zBs ?_ | refine zBn ?_ | refine zBv rfl rfl ?_ | refine zN ?_ | refine zC ?_ | refine zC4 ?_ | refine zOr16 ?_ | refine zC1 ?_ | refine zByte ?_ | refine zMaxL ?_ | refine zMaxR ?_ | refine zMinL ?_ | refine zMinR ?_ | refine zShr ?_ | refine zC8 ?_ | refine zQ ?_ | refine zR ?_ | refine zS ?_ | refine zA ?_ | refine zM ?_ | refine xr rfl ?_ | refine ai rfl ?_ | refine condT ?_ | refine condF ?_ | refine condG1 ?_ | refine condG0 ?_ | refine cD ?_ | refine dD ?_ | refine cB ?_ | refine dB ?_ | refine cN ?_ | refine dN ?_ | refine cV ?_ | refine dV ?_ | refine cE ?_ | refine dE ?_ | refine condX0 ?_ | refine condX1 ?_ | refine condNot ?_ | refine condAnd ?_ | refine condOr ?_ | refine aO ?_ | refine aB ?_ | refine aR ?_ | refine aR ?_ (by simp; omega) | refine xr (by assumption) ?_ | refine ai (by assumption) ?_ | refine condD (fun h => ?_) (fun h => ?_) | refine condB (fun h => ?_) (fun h => ?_) | refine condN (fun h => ?_) (fun h => ?_) | refine condE (fun h => ?_) (fun h => ?_) | refine condV (fun h => ?_) (fun h => ?_))
    refine ev_keep [7, 2, 1] [66, 81, 200] ?_
    exact enc67_10 a hv wide _ _ _ _ _ _ _ hb
theorem enc67_8 (a : Attrs) (hv : EncV a) (wide bad : Bool) (b : List UInt8) (T : List (Nat × AV)) (H : Heap) (c gw g : Nat) (hb : (b ++ r8 a (wd wide)).length < 2 ^ 37) : Ev G ⟨[.code (suf 8 f67.body)], ⟨(7, .ref 81 gw 0) :: (2, .ref 66 1 0) :: (1, .bool wide) :: T, (66, some (1, .cells a.enc)) :: (81, some (gw, .cells [.vs 200 g b.length, .bool wide, .bool bad])) :: (200, some (g, .vec 1 (byteCells b))) :: H, c⟩, [.t 4, .t 5], 0⟩ (encRet (bdA a wide bad) (b ++ r8 a (wd wide))) := by
  have hbl : b.length < 2 ^ 37 := by simp at hb; omega
  by_cases hc : a.atomic = true
  · have hq : b ++ r8 a (wd wide) = (b ++ putB 6 []) ++ r9 a (wd wide) := by simp [r8, c8, hc]
    have hput := gives_le rfl (put_gives83 [] 6 wide bad b (by simp) (by omega) (by omega) (by omega) (by simp [cat])) (show LLe Any [.ref 0 0 0, .int .i64 6, .con (.slice none 0 0)] _ from ⟨.refl _, .refl _, LeP.nil 1, trivial⟩)
    rw [show cat [] = [] from rfl] at hput
    rw [hq] at hb ⊢
    refine ev_seq (b := suf 9 f67.body) ?_
    refine W_okd 1 300 _ _ _ _ ?_
    repeat' ((conv => whnf); first | refine bslP (by first | rfl | (simp [pureL, pureLL, AV.pure]; done) | fail) rfl ?_ | refine TakeC.full (by first | rfl | omega | (simp; done) | (simp; omega) | fail) ?_ | refine zBs ?_ | refine zBn ?_ | refine zBv rfl rfl ?_ | refine zN ?_ | refine zC ?_ | refine zC4 ?_ | refine zOr16 ?_ | refine zC1 ?_ | refine zByte ?_ | refine zMaxL ?_ | refine zMaxR ?_ | refine zMinL ?_ | refine zMinR ?_ | refine zShr ?_ | refine zC8 ?_ | refine zQ ?_ | refine zR ?_ | refine zS ?_ | refine zA ?_ | refine zM ?_ | refine xr rfl ?_ | refine ai rfl ?_ | refine condT ?_ | refine condF ?_ | refine condG1 ?_ | refine condG0 ?_ | refine cD ?_ | refine dD ?_ | refine cB ?_ | refine dB ?_ | refine cN ?_ | refine dN ?_ | refine cV ?_ | refine dV ?_ | refine cE ?_ | refine dE ?_ | refine condX0 ?_ | refine condX1 ?_ | refine condNot ?_ | refine condAnd ?_ | refine condOr ?_ | refine aO ?_ | refine aB ?_ | refine aR ?_ | refine aR ?_ (by simp; omega) | refine xr (by assumption) ?_ | refine ai (by assumption) ?_ | refine kX [(81, _, _), (200, _, _)] [] ⟨rfl, rfl, trivial⟩ trivial (hput) ?_ | refine condD (fun h => ?_) (fun h => ?_) | refine condB (fun h => ?_) (fun h => ?_) | refine condN (fun h => ?_) (fun h => ?_) | refine condE (fun h => ?_) (fun h => ?_) | refine condV (fun h => ?_) (fun h => ?_))
    refine ev_keep [7, 2, 1] [66, 81, 200] ?_
    exact enc67_9 a hv wide bad _ _ _ _ _ _ hb
  · have hq : b ++ r8 a (wd wide) = b ++ r9 a (wd wide) := by simp [r8, c8, hc]
    rw [hq] at hb ⊢
    refine ev_seq (b := suf 9 f67.body) ?_
    try simp only [Bool.not_eq_true] at hc
    refine W_okd 1 300 _ _ _ _ ?_
    repeat' ((conv => whnf); first | refine bslP (by first | rfl | (simp [pureL, pureLL, AV.pure]; done) | fail) rfl ?_ | refine TakeC.full (by first | rfl | omega | (simp; done) | (simp; omega) | fail) ?_ | refine zBs ?_ | refine zBn ?_ | refine zBv rfl rfl ?_ | refine zN ?_ | refine zC ?_ | refine zC4 ?_ | refine zOr16 ?_ | refine zC1 ?_ | refine zByte ?_ | refine zMaxL ?_ | refine zMaxR ?_ | refine zMinL ?_ | refine zMinR ?_ | refine zShr ?_ | refine zC8 ?_ | refine zQ ?_ | refine zR ?_ | refine zS ?_ | refine zA ?_ | refine zM ?_ | refine xr rfl ?_ | refine ai rfl ?_ | refine condT ?_ | refine condF ?_ | refine condG1 ?_ | refine condG0 ?_ | refine cD ?_ | refine dD ?_ | refine cB ?_ | refine dB ?_ | refine cN ?_ | refine dN ?_ | refine cV ?_ | refine dV ?_ | refine cE ?_ | refine dE ?_ | refine condX0 ?_ | refine condX1 ?_ | refine condNot ?_ | refine condAnd ?_ | refine condOr ?_ | refine aO ?_ | refine aB ?_ | refine aR ?_ | refine aR ?_ (by simp; omega) | refine xr (by assumption) ?_ | refine ai (by assumption) ?_ | refine condD (fun h => ?_) (fun h => ?_) | refine condB (fun h => ?_) (fun h => ?_) | refine condN (fun h => ?_) (fun h => ?_) | refine condE (fun h => ?_) (fun h => ?_) | refine condV (fun h => ?_) (fun h => ?_))
    refine ev_keep [7, 2, 1] [66, 81, 200] ?_
    exact enc67_9 a hv wide bad _ _ _ _ _ _ hb
theorem enc67_7 (a : Attrs) (hv : EncV a) (wide bad : Bool) (b : List UInt8) (T : List (Nat × AV)) (H : Heap) (c gw g : Nat) (hb : (b ++ r7 a (wd wide)).length < 2 ^ 37) : Ev G ⟨[.code (suf 7 f67.body)], ⟨(7, .ref 81 gw 0) :: (2, .ref 66 1 0) :: (1, .bool wide) :: T, (66, some (1, .cells a.enc)) :: (81, some (gw, .cells [.vs 200 g b.length, .bool wide, .bool bad])) :: (200, some (g, .vec 1 (byteCells b))) :: H, c⟩, [.t 4, .t 5], 0⟩ (encRet (bdA a wide bad) (b ++ r7 a (wd wide))) := by
  have hf := hv.pref
  have hcl := hv.clustersL
  have hcm := hv.commsL
  have hll1 : (a.clusters.map encU).length = a.clusters.length := by simp
  have hll2 : (a.comms.map encU).length = a.comms.length := by simp
  have hbl : b.length < 2 ^ 37 := by simp at hb; omega
  by_cases hc : a.hasPref = true
  · have hq : b ++ r7 a (wd wide) = (b ++ putB 5 (be 4 a.pref.toNat)) ++ r8 a (wd wide) := by simp [r7, c7, hc]
    have hcat : cat [be 4 a.pref.toNat] = be 4 a.pref.toNat := by simp [cat]
    have hvl : (be 4 a.pref.toNat).length < 2 ^ 38 := by first | (rw [be_length]; omega) | (rw [wordsB, fm_length]; omega)
    have hput := put_gives83 [be 4 a.pref.toNat] 5 wide bad b (by simp) (by omega) (by omega) (by omega) (by rw [hcat]; exact hvl)
    rw [hcat] at hput
    rw [hq] at hb ⊢
    refine ev_seq (b := suf 8 f67.body) ?_
    refine W_okd 1 300 _ _ _ _ ?_
    repeat' ((conv => whnf); first | refine bslP (by first | rfl | (simp [pureL, pureLL, AV.pure]; done) | fail) rfl ?_ | refine TakeC.full (by first | rfl | omega | (simp; done) | (simp; omega) | fail) ?_ | refine zBs ?_ | refine zBn ?_ | refine zBv rfl rfl ?_ | refine zN ?_ | refine zC ?_ | refine zC4 ?_ | refine zOr16 ?_ | refine zC1 ?_ | refine zByte ?_ | refine zMaxL ?_ | refine zMaxR ?_ | refine zMinL ?_ | refine zMinR ?_ | refine zShr ?_ | refine zC8 ?_ | refine zQ ?_ | refine zR ?_ | refine zS ?_ | refine zA ?_ | refine zM ?_ | refine xr rfl ?_ | refine ai rfl ?_ | refine condT ?_ | refine condF ?_ | refine condG1 ?_ | refine condG0 ?_ | refine cD ?_ | refine dD ?_ | refine cB ?_ | refine dB ?_ | refine cN ?_ | refine dN ?_ | refine cV ?_ | refine dV ?_ | refine cE ?_ | refine dE ?_ | refine condX0 ?_ | refine condX1 ?_ | refine condNot ?_ | refine condAnd ?_ | refine condOr ?_ | refine aO ?_ | refine aB ?_ | refine aR ?_ | refine aR ?_ (by simp; omega) | refine xr (by assumption) ?_ | refine ai (by assumption) ?_ | refine kN (number85 a.pref (by omega) (by omega)) ?_ | refine kB [(116, _, _)] ⟨rfl, pz trivial⟩ ?_ | refine kX [(81, _, _), (200, _, _)] [(117, _, _)] ⟨rfl, rfl, trivial⟩ ⟨rfl, pz trivial⟩ (hput) ?_ | refine condD (fun h => ?_) (fun h => ?_) | refine condB (fun h => ?_) (fun h => ?_) | refine condN (fun h => ?_) (fun h => ?_) | refine condE (fun h => ?_) (fun h => ?_) | refine condV (fun h => ?_) (fun h => ?_))
    refine ev_keep [7, 2, 1] [66, 81, 200] ?_
    exact enc67_8 a hv wide bad _ _ _ _ _ _ hb
  · have hq : b ++ r7 a (wd wide) = b ++ r8 a (wd wide) := by simp [r7, c7, hc]
    rw [hq] at hb ⊢
    refine ev_seq (b := suf 8 f67.body) ?_
    try simp only [Bool.not_eq_true] at hc
    refine W_okd 1 300 _ _ _ _ ?_
    repeat' ((conv => whnf); first | refine bslP (by first | rfl | (simp [pureL, pureLL, AV.pure]; done) | fail) rfl ?_ | refine TakeC.full (by first | rfl | omega | (simp; done) | (simp; omega) | fail) ?_ | refine zBs ?_ | refine zBn ?_ | refine zBv rfl rfl ?_ | refine zN ?_ | refine zC ?_ | refine zC4 ?_ | refine zOr16 ?_ | refine zC1 ?_ | refine zByte ?_ | refine zMaxL ?_ | refine zMaxR ?_ | refine zMinL ?_ | refine zMinR ?_ | refine zShr ?_ | refine zC8 ?_ | refine zQ ?_ | refine zR ?_ | refine zS ?_ | refine zA ?_ | refine zM ?_ | refine xr rfl ?_ | refine ai rfl ?_ | refine condT ?_ | refine condF ?_ | refine condG1 ?_ | refine condG0 ?_ | refine cD ?_ | refine dD ?_ | refine cB ?_ | refine dB ?_ | refine cN ?_ | refine dN ?_ | refine cV ?_ | refine dV ?_ | refine cE ?_ | refine dE ?_ | refine condX0 ?_ | refine condX1 ?_ | refine condNot ?_ | refine condAnd ?_ | refine condOr ?_ | refine aO ?_ | refine aB ?_ | refine aR ?_ | refine aR ?_ (by simp; omega) | refine xr (by assumption) ?_ | refine ai (by assumption) ?_ | refine condD (fun h => ?_) (fun h => ?_) | refine condB (fun h => ?_) (fun h => ?_) | refine condN (fun h => ?_) (fun h => ?_) | refine condE (fun h => ?_) (fun h => ?_) | refine condV (fun h => ?_) (fun h => ?_))
    refine ev_keep [7, 2, 1] [66, 81, 200] ?_
    exact enc67_8 a hv wide bad _ _ _ _ _ _ hb
theorem enc67_6 (a : Attrs) (hv : EncV a) (wide bad : Bool) (b : List UInt8) (T : List (Nat × AV)) (H : Heap) (c gw g : Nat) (hb : (b ++ r6 a (wd wide)).length < 2 ^ 37) : Ev G ⟨[.code (suf 6 f67.body)], ⟨(7, .ref 81 gw 0) :: (2, .ref 66 1 0) :: (1, .bool wide) :: T, (66, some (1, .cells a.enc)) :: (81, some (gw, .cells [.vs 200 g b.length, .bool wide, .bool bad])) :: (200, some (g, .vec 1 (byteCells b))) :: H, c⟩, [.t 4, .t 5], 0⟩ (encRet (bdA a wide bad) (b ++ r6 a (wd wide))) := by
  have hf := hv.med
  have hcl := hv.clustersL
  have hcm := hv.commsL
  have hll1 : (a.clusters.map encU).length = a.clusters.length := by simp
  have hll2 : (a.comms.map encU).length = a.comms.length := by simp
  have hbl : b.length < 2 ^ 37 := by simp at hb; omega
  by_cases hc : a.hasMED = true
  · have hq : b ++ r6 a (wd wide) = (b ++ putB 4 (be 4 a.med.toNat)) ++ r7 a (wd wide) := by simp [r6, c6, hc]
    have hcat : cat [be 4 a.med.toNat] = be 4 a.med.toNat := by simp [cat]
    have hvl : (be 4 a.med.toNat).length < 2 ^ 38 := by first | (rw [be_length]; omega) | (rw [wordsB, fm_length]; omega)
    have hput := put_gives83 [be 4 a.med.toNat] 4 wide bad b (by simp) (by omega) (by omega) (by omega) (by rw [hcat]; exact hvl)
    rw [hcat] at hput
    rw [hq] at hb ⊢
    refine ev_seq (b := suf 7 f67.body) ?_
    refine W_okd 1 300 _ _ _ _ ?_
    repeat' ((conv => whnf); first | refine bslP (by first | rfl | (simp [pureL, pureLL, AV.pure]; done) | fail) rfl ?_ | refine TakeC.full (by first | rfl | omega | (simp; done) | (simp; omega) | fail) ?_ | refine zBs ?_ | refine zBn ?_ | refine zBv rfl rfl ?_ | refine zN ?_ | refine zC ?_ | refine zC4 ?_ | refine zOr16 ?_ | refine zC1 ?_ | refine zByte ?_ | refine zMaxL ?_ | refine zMaxR ?_ | refine zMinL ?_ | refine zMinR ?_ | refine zShr ?_ | refine zC8 ?_ | refine zQ ?_ | refine zR ?_ | refine zS ?_ | refine zA ?_ | refine zM ?_ | refine xr rfl ?_ | refine ai rfl ?_ | refine condT ?_ | refine condF ?_ | refine condG1 ?_ | refine condG0 ?_ | refine cD ?_ | refine dD ?_ | refine cB ?_ | refine dB ?_ | refine cN ?_ | refine dN ?_ | refine cV ?_ | refine dV ?_ | refine cE ?_ | refine dE ?_ | refine condX0 ?_ | refine condX1 ?_ | refine condNot ?_ | refine condAnd ?_ | refine condOr ?_ | refine aO ?_ | refine aB ?_ | refine aR ?_ | refine aR ?_ (by simp; omega) | refine xr (by assumption) ?_ | refine ai (by assumption) ?_ | refine kN (number85 a.med (by omega) (by omega)) ?_ | refine kB [(108, _, _)] ⟨rfl, pz trivial⟩ ?_ | refine kX [(81, _, _), (200, _, _)] [(109, _, _)] ⟨rfl, rfl, trivial⟩ ⟨rfl, pz trivial⟩ (hput) ?_ | refine condD (fun h => ?_) (fun h => ?_) | refine condB (fun h => ?_) (fun h => ?_) | refine condN (fun h => ?_) (fun h => ?_) | refine condE (fun h => ?_) (fun h => ?_) | refine condV (fun h => ?_) (fun h => ?_))
    refine ev_keep [7, 2, 1] [66, 81, 200] ?_
    exact enc67_7 a hv wide bad _ _ _ _ _ _ hb
  · have hq : b ++ r6 a (wd wide) = b ++ r7 a (wd wide) := by simp [r6, c6, hc]
    rw [hq] at hb ⊢
    refine ev_seq (b := suf 7 f67.body) ?_
    try simp only [Bool.not_eq_true] at hc
    refine W_okd 1 300 _ _ _ _ ?_
    repeat' ((conv => whnf); first | refine bslP (by first | rfl | (simp [pureL, pureLL, AV.pure]; done) | fail) rfl ?_ | refine TakeC.full (by first | rfl | omega | (simp; done) | (simp; omega) | fail) ?_ | refine zBs ?_ | refine zBn ?_ | refine zBv rfl rfl ?_ | refine zN ?_ | refine zC ?_ | refine zC4 ?_ | refine zOr16 ?_ | refine zC1 ?_ | refine zByte ?_ | refine zMaxL ?_ | refine zMaxR ?_ | refine zMinL ?_ | refine zMinR ?_ | refine zShr ?_ | refine zC8 ?_ | refine zQ ?_ | refine zR ?_ | refine zS ?_ | refine zA ?_ | refine zM ?_ | refine xr rfl ?_ | refine ai rfl ?_ | refine condT ?_ | refine condF ?_ | refine condG1 ?_ | refine condG0 ?_ | refine cD ?_ | refine dD ?_ | refine cB ?_ | refine dB ?_ | refine cN ?_ | refine dN ?_ | refine cV ?_ | refine dV ?_ | refine cE ?_ | refine dE ?_ | refine condX0 ?_ | refine condX1 ?_ | refine condNot ?_ | refine condAnd ?_ | refine condOr ?_ | refine aO ?_ | refine aB ?_ | refine aR ?_ | refine aR ?_ (by simp; omega) | refine xr (by assumption) ?_ | refine ai (by assumption) ?_ | refine condD (fun h => ?_) (fun h => ?_) | refine condB (fun h => ?_) (fun h => ?_) | refine condN (fun h => ?_) (fun h => ?_) | refine condE (fun h => ?_) (fun h => ?_) | refine condV (fun h => ?_) (fun h => ?_))
    refine ev_keep [7, 2, 1] [66, 81, 200] ?_
    exact enc67_7 a hv wide bad _ _ _ _ _ _ hb
theorem enc67_5 (a : Attrs) (hv : EncV a) (wide bad : Bool) (b : List UInt8) (T : List (Nat × AV)) (H : Heap) (c gw g : Nat) (hb : (b ++ r5 a (wd wide)).length < 2 ^ 37) : Ev G ⟨[.code (suf 5 f67.body)], ⟨(7, .ref 81 gw 0) :: (2, .ref 66 1 0) :: (1, .bool wide) :: T, (66, some (1, .cells a.enc)) :: (81, some (gw, .cells [.vs 200 g b.length, .bool wide, .bool bad])) :: (200, some (g, .vec 1 (byteCells b))) :: H, c⟩, [.t 4, .t 5], 0⟩ (encRet (bdA a wide bad) (b ++ r5 a (wd wide))) := by
  have hf := hv.nextHop
  have hf2 := hv.origin
  have hf3 := u8_int hf2.1 hf2.2
  have hbl : b.length < 2 ^ 37 := by simp at hb; omega
  have hq : b ++ r5 a (wd wide) = (b ++ putB 3 (be 4 a.nextHop.toNat)) ++ r6 a (wd wide) := by simp [r5, c5]
  have hcat : cat [be 4 a.nextHop.toNat] = be 4 a.nextHop.toNat := by simp [cat]
  have hvl : (be 4 a.nextHop.toNat).length < 2 ^ 38 := by
    have hpl := pathL wide a hv
    first | (rw [be_length]; omega) | (simp; done) | omega
  have hput := put_gives83 [be 4 a.nextHop.toNat] 3 wide bad b (by simp) (by omega) (by omega) (by omega) (by rw [hcat]; exact hvl)
  rw [hcat] at hput
  rw [hq] at hb ⊢
  refine ev_seq (b := suf 6 f67.body) ?_
  refine W_okd 1 300 _ _ _ _ ?_
  repeat' ((conv => whnf); first | refine bslP (by first | rfl | (simp [pureL, pureLL, AV.pure]; done) | fail) rfl ?_ | refine TakeC.full (by first | rfl | omega | (simp; done) | (simp; omega) | fail) ?_ | refine zBs ?_ | refine zBn ?_ | refine zBv rfl rfl ?_ | refine zN ?_ | refine zC ?_ | refine zC4 ?_ | refine zOr16 ?_ | refine zC1 ?_ | refine zByte ?_ | refine zMaxL ?_ | refine zMaxR ?_ | refine zMinL ?_ | refine zMinR ?_ | refine zShr ?_ | refine zC8 ?_ | refine zQ ?_ | refine zR ?_ | refine zS ?_ | refine zA ?_ | refine zM ?_ | refine xr rfl ?_ | refine ai rfl ?_ | refine condT ?_ | refine condF ?_ | refine condG1 ?_ | refine condG0 ?_ | refine cD ?_ | refine dD ?_ | refine cB ?_ | refine dB ?_ | refine cN ?_ | refine dN ?_ | refine cV ?_ | refine dV ?_ | refine cE ?_ | refine dE ?_ | refine condX0 ?_ | refine condX1 ?_ | refine condNot ?_ | refine condAnd ?_ | refine condOr ?_ | refine aO ?_ | refine aB ?_ | refine aR ?_ | refine aR ?_ (by simp; omega) | refine xr (by assumption) ?_ | refine ai (by assumption) ?_ | refine kN (number85 a.nextHop (by omega) (by omega)) ?_ | refine kB [(100, _, _)] ⟨rfl, pz trivial⟩ ?_ | refine kX [(81, _, _), (200, _, _)] [(101, _, _)] ⟨rfl, rfl, trivial⟩ ⟨rfl, pz trivial⟩ (hput) ?_ | refine condD (fun h => ?_) (fun h => ?_) | refine condB (fun h => ?_) (fun h => ?_) | refine condN (fun h => ?_) (fun h => ?_) | refine condE (fun h => ?_) (fun h => ?_) | refine condV (fun h => ?_) (fun h => ?_))
  refine ev_keep [7, 2, 1] [66, 81, 200] ?_
  exact enc67_6 a hv wide _ _ _ _ _ _ _ hb
theorem enc67_4 (a : Attrs) (hv : EncV a) (wide bad : Bool) (b : List UInt8) (T : List (Nat × AV)) (H : Heap) (c gw g : Nat) (hb : (b ++ r4 a (wd wide)).length < 2 ^ 37) : Ev G ⟨[.code (suf 4 f67.body)], ⟨(7, .ref 81 gw 0) :: (2, .ref 66 1 0) :: (1, .bool wide) :: T, (66, some (1, .cells a.enc)) :: (81, some (gw, .cells [.vs 200 g b.length, .bool wide, .bool bad])) :: (200, some (g, .vec 1 (byteCells b))) :: H, c⟩, [.t 4, .t 5], 0⟩ (encRet (bdA a wide (badP wide bad a.path)) (b ++ r4 a (wd wide))) := by
  have hf := hv.nextHop
  have hf2 := hv.origin
  have hf3 := u8_int hf2.1 hf2.2
  have hbl : b.length < 2 ^ 37 := by simp at hb; omega
  have hq : b ++ r4 a (wd wide) = (b ++ putB 2 (pathB (wd wide) a.path)) ++ r5 a (wd wide) := by simp [r4, c4]
  have hcat : cat [pathB (wd wide) a.path] = pathB (wd wide) a.path := by simp [cat]
  have hvl : (pathB (wd wide) a.path).length < 2 ^ 38 := by
    have hpl := pathL wide a hv
    first | (rw [be_length]; omega) | (simp; done) | omega
  have hput := put_gives83 [pathB (wd wide) a.path] 2 wide (badP wide bad a.path) b (by simp) (by omega) (by omega) (by omega) (by rw [hcat]; exact hvl)
  rw [hcat] at hput
  rw [hq] at hb ⊢
  refine ev_seq (b := suf 5 f67.body) ?_
  refine W_okd 1 300 _ _ _ _ ?_
  repeat' ((conv => whnf); first | refine bslP (by first | rfl | (simp [pureL, pureLL, AV.pure]; done) | fail) rfl ?_ | refine TakeC.full (by first | rfl | omega | (simp; done) | (simp; omega) | fail) ?_ | refine zBs ?_ | refine zBn ?_ | refine zBv rfl rfl ?_ | refine zN ?_ | refine zC ?_ | refine zC4 ?_ | refine zOr16 ?_ | refine zC1 ?_ | refine zByte ?_ | refine zMaxL ?_ | refine zMaxR ?_ | refine zMinL ?_ | refine zMinR ?_ | refine zShr ?_ | refine zC8 ?_ | refine zQ ?_ | refine zR ?_ | refine zS ?_ | refine zA ?_ | refine zM ?_ | refine xr rfl ?_ | refine ai rfl ?_ | refine condT ?_ | refine condF ?_ | refine condG1 ?_ | refine condG0 ?_ | refine cD ?_ | refine dD ?_ | refine cB ?_ | refine dB ?_ | refine cN ?_ | refine dN ?_ | refine cV ?_ | refine dV ?_ | refine cE ?_ | refine dE ?_ | refine condX0 ?_ | refine condX1 ?_ | refine condNot ?_ | refine condAnd ?_ | refine condOr ?_ | refine aO ?_ | refine aB ?_ | refine aR ?_ | refine aR ?_ (by simp; omega) | refine xr (by assumption) ?_ | refine ai (by assumption) ?_ | refine kX [(81, _, _), (200, _, _)] [] ⟨rfl, rfl, trivial⟩ trivial ((path_gives84 a.path wide bad b hv.segs hv.path)) ?_ | refine kB [(93, _, _)] ⟨rfl, pz trivial⟩ ?_ | refine kX [(81, _, _), (200, _, _)] [(94, _, _)] ⟨rfl, rfl, trivial⟩ ⟨rfl, pz trivial⟩ (hput) ?_ | refine condD (fun h => ?_) (fun h => ?_) | refine condB (fun h => ?_) (fun h => ?_) | refine condN (fun h => ?_) (fun h => ?_) | refine condE (fun h => ?_) (fun h => ?_) | refine condV (fun h => ?_) (fun h => ?_))
  refine ev_keep [7, 2, 1] [66, 81, 200] ?_
  exact enc67_5 a hv wide _ _ _ _ _ _ _ hb
theorem enc67_3 (a : Attrs) (hv : EncV a) (wide bad : Bool) (b : List UInt8) (T : List (Nat × AV)) (H : Heap) (c gw g : Nat) (hb : (b ++ r3 a (wd wide)).length < 2 ^ 37) : Ev G ⟨[.code (suf 3 f67.body)], ⟨(7, .ref 81 gw 0) :: (2, .ref 66 1 0) :: (1, .bool wide) :: T, (66, some (1, .cells a.enc)) :: (81, some (gw, .cells [.vs 200 g b.length, .bool wide, .bool bad])) :: (200, some (g, .vec 1 (byteCells b))) :: H, c⟩, [.t 4, .t 5], 0⟩ (encRet (bdA a wide (badP wide bad a.path)) (b ++ r3 a (wd wide))) := by
  have hf := hv.nextHop
  have hf2 := hv.origin
  have hf3 := u8_int hf2.1 hf2.2
  have hbl : b.length < 2 ^ 37 := by simp at hb; omega
  have hq : b ++ r3 a (wd wide) = (b ++ putB 1 ([UInt8.ofNat a.origin.toNat])) ++ r4 a (wd wide) := by simp [r3, c3]
  have hcat : cat [[UInt8.ofNat a.origin.toNat]] = [UInt8.ofNat a.origin.toNat] := by simp [cat]
  have hvl : ([UInt8.ofNat a.origin.toNat]).length < 2 ^ 38 := by
    have hpl := pathL wide a hv
    first | (rw [be_length]; omega) | (simp; done) | omega
  have hput := put_gives83 [[UInt8.ofNat a.origin.toNat]] 1 wide bad b (by simp) (by omega) (by omega) (by omega) (by rw [hcat]; exact hvl)
  rw [hcat] at hput
  rw [show List.map bEnc [[UInt8.ofNat a.origin.toNat]] = [[.sl 1 [[.int .u8 a.origin]]]] from by simp only [List.map_cons, List.map_nil, bEnc, byteCells, hf3]] at hput
  rw [hq] at hb ⊢
  refine ev_seq (b := suf 4 f67.body) ?_
  refine W_okd 1 300 _ _ _ _ ?_
  repeat' ((conv => whnf); first | refine bslP (by first | rfl | (simp [pureL, pureLL, AV.pure]; done) | fail) rfl ?_ | refine TakeC.full (by first | rfl | omega | (simp; done) | (simp; omega) | fail) ?_ | refine zBs ?_ | refine zBn ?_ | refine zBv rfl rfl ?_ | refine zN ?_ | refine zC ?_ | refine zC4 ?_ | refine zOr16 ?_ | refine zC1 ?_ | refine zByte ?_ | refine zMaxL ?_ | refine zMaxR ?_ | refine zMinL ?_ | refine zMinR ?_ | refine zShr ?_ | refine zC8 ?_ | refine zQ ?_ | refine zR ?_ | refine zS ?_ | refine zA ?_ | refine zM ?_ | refine xr rfl ?_ | refine ai rfl ?_ | refine condT ?_ | refine condF ?_ | refine condG1 ?_ | refine condG0 ?_ | refine cD ?_ | refine dD ?_ | refine cB ?_ | refine dB ?_ | refine cN ?_ | refine dN ?_ | refine cV ?_ | refine dV ?_ | refine cE ?_ | refine dE ?_ | refine condX0 ?_ | refine condX1 ?_ | refine condNot ?_ | refine condAnd ?_ | refine condOr ?_ | refine aO ?_ | refine aB ?_ | refine aR ?_ | refine aR ?_ (by simp; omega) | refine xr (by assumption) ?_ | refine ai (by assumption) ?_ | refine kB [(86, _, _)] ⟨rfl, pz trivial⟩ ?_ | refine kX [(81, _, _), (200, _, _)] [(87, _, _)] ⟨rfl, rfl, trivial⟩ ⟨rfl, pz trivial⟩ (hput) ?_ | refine condD (fun h => ?_) (fun h => ?_) | refine condB (fun h => ?_) (fun h => ?_) | refine condN (fun h => ?_) (fun h => ?_) | refine condE (fun h => ?_) (fun h => ?_) | refine condV (fun h => ?_) (fun h => ?_))
  refine ev_keep [7, 2, 1] [66, 81, 200] ?_
  exact enc67_4 a hv wide _ _ _ _ _ _ _ hb
def encB (a : Attrs) (wide : Bool) : List UInt8 := r3 a (wd wide)
def encBad (a : Attrs) (wide : Bool) : Bool := bdA a wide (badP wide false a.path)
theorem encode_gives67 (a : Attrs) (wide : Bool) (hb : LenB a) (hv : checkS a = 0 → EncV a ∧ (encB a wide).length < 2 ^ 37) : Gives G 67 [.agg a.enc, .bool wide] [] (if checkS a = 0 then encRet (encBad a wide) (encB a wide) else ⟨.tup [.con (.slice none 0 0), .int .i64 (checkS a)], []⟩) := by
  by_cases hc : checkS a = 0
  · obtain ⟨h1, h2⟩ := hv hc
    have h65 := check_gives65 a hb
    rw [hc] at h65
    rw [if_pos hc]
    refine gives_code (F := f67) rfl rfl ?_
    refine ev_seq (b := suf 1 f67.body) ?_
    refine W_okd 1 300 _ _ _ _ ?_
    repeat' ((conv => whnf); first | refine bslP (by first | rfl | (simp [pureL, pureLL, AV.pure]; done) | fail) rfl ?_ | refine TakeC.full (by first | rfl | omega | (simp; done) | (simp; omega) | fail) ?_ | refine zBs ?_ | refine zBn ?_ | refine zBv rfl rfl ?_ | refine zN ?_ | refine zC ?_ | refine zC4 ?_ | refine zOr16 ?_ | refine zC1 ?_ | refine zByte ?_ | refine zMaxL ?_ | refine zMaxR ?_ | refine zMinL ?_ | refine zMinR ?_ | refine zShr ?_ | refine zC8 ?_ | refine zQ ?_ | refine zR ?_ | refine zS ?_ | refine zA ?_ | refine zM ?_ | refine xr rfl ?_ | refine ai rfl ?_ | refine condT ?_ | refine condF ?_ | refine condG1 ?_ | refine condG0 ?_ | refine cD ?_ | refine dD ?_ | refine cB ?_ | refine dB ?_ | refine cN ?_ | refine dN ?_ | refine cV ?_ | refine dV ?_ | refine cE ?_ | refine dE ?_ | refine condX0 ?_ | refine condX1 ?_ | refine condNot ?_ | refine condAnd ?_ | refine condOr ?_ | refine aO ?_ | refine aB ?_ | refine aR ?_ | refine aR ?_ (by simp; omega) | refine xr (by assumption) ?_ | refine ai (by assumption) ?_ | refine condD (fun h => ?_) (fun h => ?_) | refine condB (fun h => ?_) (fun h => ?_) | refine condN (fun h => ?_) (fun h => ?_) | refine condE (fun h => ?_) (fun h => ?_) | refine condV (fun h => ?_) (fun h => ?_))
    refine ev_seq (b := suf 2 f67.body) ?_
    refine W_okd 1 300 _ _ _ _ ?_
    repeat' ((conv => whnf); first | refine bslP (by first | rfl | (simp [pureL, pureLL, AV.pure]; done) | fail) rfl ?_ | refine TakeC.full (by first | rfl | omega | (simp; done) | (simp; omega) | fail) ?_ | refine zBs ?_ | refine zBn ?_ | refine zBv rfl rfl ?_ | refine zN ?_ | refine zC ?_ | refine zC4 ?_ | refine zOr16 ?_ | refine zC1 ?_ | refine zByte ?_ | refine zMaxL ?_ | refine zMaxR ?_ | refine zMinL ?_ | refine zMinR ?_ | refine zShr ?_ | refine zC8 ?_ | refine zQ ?_ | refine zR ?_ | refine zS ?_ | refine zA ?_ | refine zM ?_ | refine xr rfl ?_ | refine ai rfl ?_ | refine condT ?_ | refine condF ?_ | refine condG1 ?_ | refine condG0 ?_ | refine cD ?_ | refine dD ?_ | refine cB ?_ | refine dB ?_ | refine cN ?_ | refine dN ?_ | refine cV ?_ | refine dV ?_ | refine cE ?_ | refine dE ?_ | refine condX0 ?_ | refine condX1 ?_ | refine condNot ?_ | refine condAnd ?_ | refine condOr ?_ | refine aO ?_ | refine aB ?_ | refine aR ?_ | refine aR ?_ (by simp; omega) | refine xr (by assumption) ?_ | refine ai (by assumption) ?_ | refine kV (h65) ?_ | refine condD (fun h => ?_) (fun h => ?_) | refine condB (fun h => ?_) (fun h => ?_) | refine condN (fun h => ?_) (fun h => ?_) | refine condE (fun h => ?_) (fun h => ?_) | refine condV (fun h => ?_) (fun h => ?_))
    refine ev_seq (b := suf 3 f67.body) ?_
    refine W_okd 1 300 _ _ _ _ ?_
    repeat' ((conv => whnf); first | refine bslP (by first | rfl | (simp [pureL, pureLL, AV.pure]; done) | fail) rfl ?_ | refine TakeC.full (by first | rfl | omega | (simp; done) | (simp; omega) | fail) ?_ | refine zBs ?_ | refine zBn ?_ | refine zBv rfl rfl ?_ | refine zN ?_ | refine zC ?_ | refine zC4 ?_ | refine zOr16 ?_ | refine zC1 ?_ | refine zByte ?_ | refine zMaxL ?_ | refine zMaxR ?_ | refine zMinL ?_ | refine zMinR ?_ | refine zShr ?_ | refine zC8 ?_ | refine zQ ?_ | refine zR ?_ | refine zS ?_ | refine zA ?_ | refine zM ?_ | refine xr rfl ?_ | refine ai rfl ?_ | refine condT ?_ | refine condF ?_ | refine condG1 ?_ | refine condG0 ?_ | refine cD ?_ | refine dD ?_ | refine cB ?_ | refine dB ?_ | refine cN ?_ | refine dN ?_ | refine cV ?_ | refine dV ?_ | refine cE ?_ | refine dE ?_ | refine condX0 ?_ | refine condX1 ?_ | refine condNot ?_ | refine condAnd ?_ | refine condOr ?_ | refine aO ?_ | refine aB ?_ | refine aR ?_ | refine aR ?_ (by simp; omega) | refine xr (by assumption) ?_ | refine ai (by assumption) ?_ | refine condD (fun h => ?_) (fun h => ?_) | refine condB (fun h => ?_) (fun h => ?_) | refine condN (fun h => ?_) (fun h => ?_) | refine condE (fun h => ?_) (fun h => ?_) | refine condV (fun h => ?_) (fun h => ?_))
    refine ev_nil 200 1 [] [(81, some (_, .cells [.vs 200 _ 0, .bool wide, .bool false]))] trivial ⟨⟨rfl, LeP.nilV _ _ _, .refl _, .refl _, trivial⟩, trivial⟩ ?_
    refine ev_keep [7, 2, 1] [66, 81, 200] ?_
    exact enc67_3 a h1 wide false [] _ _ _ _ _ h2
  · rw [if_neg hc]
    refine gives_code (F := f67) rfl rfl (W_ok 300 _ _ _ _ ?_)
    repeat' ((conv => whnf); first | refine bslP (by first | rfl | (simp [pureL, pureLL, AV.pure]; done) | fail) rfl ?_ | refine TakeC.full (by first | rfl | omega | (simp; done) | (simp; omega) | fail) ?_ | refine zBs ?_ | refine zBn ?_ | refine zBv rfl rfl ?_ | refine zN ?_ | refine zC ?_ | refine zC4 ?_ | refine zOr16 ?_ | refine zC1 ?_ | refine zByte ?_ | refine zMaxL ?_ | refine zMaxR ?_ | refine zMinL ?_ | refine zMinR ?_ | refine zShr ?_ | refine zC8 ?_ | refine zQ ?_ | refine zR ?_ | refine zS ?_ | refine zA ?_ | refine zM ?_ | refine xr rfl ?_ | refine ai rfl ?_ | refine condT ?_ | refine condF ?_ | refine condG1 ?_ | refine condG0 ?_ | refine cD ?_ | refine dD ?_ | refine cB ?_ | refine dB ?_ | refine cN ?_ | refine dN ?_ | refine cV ?_ | refine dV ?_ | refine cE ?_ | refine dE ?_ | refine condX0 ?_ | refine condX1 ?_ | refine condNot ?_ | refine condAnd ?_ | refine condOr ?_ | refine aO ?_ | refine aB ?_ | refine aR ?_ | refine aR ?_ (by simp; omega) | refine xr (by assumption) ?_ | refine ai (by assumption) ?_ | refine kV (check_gives65 a hb) ?_ | refine condD (fun h => ?_) (fun h => ?_) | refine condB (fun h => ?_) (fun h => ?_) | refine condN (fun h => ?_) (fun h => ?_) | refine condE (fun h => ?_) (fun h => ?_) | refine condV (fun h => ?_) (fun h => ?_))
    all_goals ((first | refine ev_fin (And.intro (by first | rfl | (simp [AV.pure, pureL]; done) | fail) ?_) | refine ev_fin0 (And.intro (by first | rfl | (simp [AV.pure, pureL]; done) | fail) ?_)); rfl)
end Go.AM.IR
set_option maxHeartbeats 4000000
set_option maxRecDepth 20000
namespace Go.AM.IR
theorem rd_cons (x : UInt8) (l : List UInt8) : rd (x :: l) = x.toNat * 256 ^ l.length + rd l := by
  suffices h : ∀ (l : List UInt8) (a : Nat), l.foldl (fun x b => x * 256 + b.toNat) a = a * 256 ^ l.length + rd l by
    have := h l x.toNat; simpa [rd] using this
  intro l
  induction l with
  | nil => intro a; simp [rd]
  | cons y r ih =>
    intro a
    have h1 := ih (a * 256 + y.toNat)
    have h2 := ih y.toNat
    simp only [List.foldl_cons, rd, Nat.zero_mul, Nat.zero_add, List.length_cons, Nat.pow_succ] at h1 h2 ⊢
    rw [h1, h2, Nat.add_mul, Nat.mul_assoc, Nat.mul_comm 256 _]
    omega
theorem be_add : ∀ (j y x : Nat), be j (y * 256 ^ j + x) = be j x
  | 0, _, _ => rfl
  | j + 1, y, x => by
    have h := be_add j (y * 256) x
    rw [show y * 256 ^ (j + 1) = y * 256 * 256 ^ j from by rw [Nat.pow_succ, Nat.mul_comm (256 ^ j) 256, Nat.mul_assoc]]
    simp only [be]
    rw [h]
    congr 1
    rw [Nat.add_comm, Nat.add_mul_div_right _ _ (Nat.pow_pos (by omega))]
    apply UInt8.toNat_inj.1
    simp
theorem be_rd : ∀ l : List UInt8, be l.length (rd l) = l
  | [] => rfl
  | x :: l => by
    have h := be_rd l
    have hl := rd_lt l
    rw [rd_cons, List.length_cons]
    simp only [be]
    rw [be_add, h]
    congr 1
    rw [Nat.add_comm, Nat.add_mul_div_right _ _ (Nat.pow_pos (by omega)), Nat.div_eq_of_lt hl, Nat.zero_add]
    simp
theorem be_rd' {l : List UInt8} {n : Nat} (h : l.length = n) : be n (rd l) = l := by subst h; exact be_rd l
theorem asB_nums (w : Nat) (r : List UInt8) : ∀ n : Nat, n * w ≤ r.length → asB w (numsD w n r) = r.take (n * w)
  | 0, _ => by simp [numsD, asB]
  | n + 1, h => by
    rw [Nat.add_mul] at h
    have ih := asB_nums w r n (by omega)
    unfold asB at ih ⊢
    rw [numsD_succ, List.flatMap_append, ih]
    simp only [List.flatMap_cons, List.flatMap_nil, List.append_nil, Int.toNat_natCast]
    rw [be_rd' (by simp; omega), Nat.add_mul, List.take_add, Nat.one_mul]
theorem path_back (w : Nat) : ∀ (f : Nat) (b : List UInt8) (p : List Seg), segsF w f b = some p → pathB w p = b
  | f, [], p, h => by
    cases f <;> (simp only [segsF, Option.some.injEq] at h; subst h; rfl)
  | 0, _ :: _, p, h => by simp [segsF] at h
  | f + 1, [_], p, h => by simp [segsF] at h
  | f + 1, k :: n :: r, p, h => by
    simp only [segsF] at h
    split at h
    · cases h
    · rename_i hc
      obtain ⟨l, h1, rfl⟩ := Option.map_eq_some_iff.1 h
      have ih := path_back w f _ l h1
      unfold pathB at ih ⊢
      rw [List.flatMap_cons, ih]
      simp only [segB, numsD_length, Int.toNat_natCast]
      rw [asB_nums w r _ (by omega)]
      simp
theorem words_back {v : List UInt8} (h : wordsOk v = true) : wordsB (wordsD v) = v := by
  simp only [wordsOk, decide_eq_true_eq] at h
  have := asB_nums 4 v (v.length / 4) (by omega)
  rw [List.take_of_length_le (by omega)] at this
  exact this
theorem or16' (k : Int) (h0 : 0 ≤ k) : (flagS k ||| 16 : UInt8).toNat = (flagS k).toNat + 16 ∧ bit16 (flagS k) = false ∧ bit16 (flagS k ||| 16) = true := by
  by_cases h : k > 10
  · rw [show flagS k = 224 from by simp [flagS, h]]; decide
  · have h2 : k = 0 ∨ k = 1 ∨ k = 2 ∨ k = 3 ∨ k = 4 ∨ k = 5 ∨ k = 6 ∨ k = 7 ∨ k = 8 ∨ k = 9 ∨ k = 10 := by omega
    rcases h2 with rfl | rfl | rfl | rfl | rfl | rfl | rfl | rfl | rfl | rfl | rfl <;> decide
theorem att_put {b : List UInt8} {t : Att} (h : attD b = some t) (hb : ¬ badHead t) : b = putB (t.k.toNat : Int) t.v ++ t.rest ∧ t.v.length ≤ 65535 := by
  unfold attD at h
  split at h
  · rename_i c k n r
    obtain ⟨o1, o2, o3⟩ := or16' (k.toNat : Int) (by omega)
    have hn := n.toNat_lt
    cases hbit : bit16 c
    · rw [hbit, cond_false] at h
      split at h
      · cases h
      · rename_i hl
        cases h
        simp only [badHead, Bool.false_eq_true, false_and, or_false, Decidable.not_not, stripB, hbit, cond_false] at hb
        have hc : c = flagS (k.toNat : Int) := UInt8.toNat_inj.1 (by omega)
        have hv : (r.take n.toNat).length = n.toNat := by simp; omega
        refine ⟨?_, by simp only; omega⟩
        unfold putB
        rw [if_neg (by simp only [hv]; omega)]
        simp only [hv, hc, Int.toNat_natCast]
        simp
    · rw [hbit, cond_true] at h
      split at h
      · rename_i m r'
        have hm := m.toNat_lt
        split at h
        · cases h
        · rename_i hl
          cases h
          have hv : (r'.take (n.toNat * 256 + m.toNat)).length = n.toNat * 256 + m.toNat := by simp; omega
          simp only [badHead, true_and, not_or, Decidable.not_not, stripB, hbit, cond_true, hv] at hb
          have hc : c = flagS (k.toNat : Int) ||| 16 := UInt8.toNat_inj.1 (by omega)
          refine ⟨?_, by simp only; omega⟩
          unfold putB
          rw [if_pos (by simp only [hv]; omega)]
          have hbe : be 2 (n.toNat * 256 + m.toNat) = [n, m] := by
            have := be_rd [n, m]
            simpa [rd] using this
          simp only [hv, hc, Int.toNat_natCast, hbe]
          simp
      · cases h
  · cases h
def preB (w : Nat) (m : Nat → Bool) (a : Attrs) : List UInt8 :=
  (if m 1 = true then c3 a else []) ++ ((if m 2 = true then c4 a w else []) ++ ((if m 3 = true then c5 a else []) ++ (c6 a ++ (c7 a ++ (c8 a ++ (c9 a w ++ (c10 a ++ (c11 a ++ (c12 a ++ c13 a)))))))))
structure Inv (last : Int) (m : Nat → Bool) (a : Attrs) : Prop where
  met : ∀ j, m j = true → (j : Int) ≤ last
  h4 : last < 4 → a.hasMED = false
  h5 : last < 5 → a.hasPref = false
  h6 : last < 6 → a.atomic = false
  h7 : last < 7 → a.hasAggr = false
  h8 : last < 8 → a.comms = []
  h9 : last < 9 → a.hasOrig = false
  h10 : last < 10 → a.clusters = []
  h11 : last < 11 → a.unknown = []
theorem put_step {w k : Nat} {v : List UInt8} {a a' : Attrs} {last : Int} {m : Nat → Bool} (hi : Inv last m a) (hk : last < k) (h1 : 1 ≤ k) (e : setA w k v a = some a') : preB w (putM m k) a' = preB w m a ++ putB (k : Int) v ∧ Inv (k : Int) (putM m k) a' := by
  obtain ⟨g0, g4, g5, g6, g7, g8, g9, g10, g11⟩ := hi
  have hm : ∀ j : Nat, last < j → m j = false := fun j hj => by
    cases q : m j
    · rfl
    · have := g0 j q; omega
  have hme : ∀ j, putM m k j = true → (j : Int) ≤ k := fun j hj => by
    unfold putM at hj
    split at hj
    · omega
    · have := g0 j hj; omega
  by_cases ho : 11 ≤ k
  · rw [setA_other (.inr ho)] at e
    cases e
    have q1 : putM m k 1 = m 1 := by simp only [putM]; rw [if_neg (by omega)]
    have q2 : putM m k 2 = m 2 := by simp only [putM]; rw [if_neg (by omega)]
    have q3 : putM m k 3 = m 3 := by simp only [putM]; rw [if_neg (by omega)]
    refine ⟨?_, hme, fun h => absurd h (by omega), fun h => absurd h (by omega), fun h => absurd h (by omega), fun h => absurd h (by omega), fun h => absurd h (by omega), fun h => absurd h (by omega), fun h => absurd h (by omega), fun h => absurd h (by omega)⟩
    simp only [preB, q1, q2, q3, c3, c4, c5, c6, c7, c8, c9, c10, c11, c12, c13, List.flatMap_append, List.flatMap_cons, List.flatMap_nil, List.append_nil, List.append_assoc]
  · have hkk : k = 1 ∨ k = 2 ∨ k = 3 ∨ k = 4 ∨ k = 5 ∨ k = 6 ∨ k = 7 ∨ k = 8 ∨ k = 9 ∨ k = 10 := by omega
    rcases hkk with rfl | rfl | rfl | rfl | rfl | rfl | rfl | rfl | rfl | rfl
    · match v, e with
      | [x], e =>
        simp only [setA] at e; cases e
        have z1 := hm 1 hk; have z2 := hm 2 (by omega); have z3 := hm 3 (by omega)
        have z4 := g4 (by omega); have z5 := g5 (by omega); have z6 := g6 (by omega); have z7 := g7 (by omega); have z8 := g8 (by omega); have z9 := g9 (by omega); have z10 := g10 (by omega); have z11 := g11 (by omega)
        refine ⟨?_, hme, fun _ => z4, fun _ => z5, fun _ => z6, fun _ => z7, fun _ => z8, fun _ => z9, fun _ => z10, fun _ => z11⟩
        simp [preB, putM, c3, c4, c5, c6, c7, c8, c9, c10, c11, c12, c13, *]
    · simp only [setA] at e
      obtain ⟨p, hp, rfl⟩ := Option.map_eq_some_iff.1 e
      have hpb := path_back w _ _ _ hp
      have z2 := hm 2 hk; have z3 := hm 3 (by omega)
      have z4 := g4 (by omega); have z5 := g5 (by omega); have z6 := g6 (by omega); have z7 := g7 (by omega); have z8 := g8 (by omega); have z9 := g9 (by omega); have z10 := g10 (by omega); have z11 := g11 (by omega)
      refine ⟨?_, hme, fun _ => z4, fun _ => z5, fun _ => z6, fun _ => z7, fun _ => z8, fun _ => z9, fun _ => z10, fun _ => z11⟩
      simp [preB, putM, c3, c4, c5, c6, c7, c8, c9, c10, c11, c12, c13, *]
    · simp only [setA] at e
      split at e <;> cases e
      rename_i hv
      have hbe := be_rd' hv
      have z3 := hm 3 hk
      have z4 := g4 (by omega); have z5 := g5 (by omega); have z6 := g6 (by omega); have z7 := g7 (by omega); have z8 := g8 (by omega); have z9 := g9 (by omega); have z10 := g10 (by omega); have z11 := g11 (by omega)
      refine ⟨?_, hme, fun _ => z4, fun _ => z5, fun _ => z6, fun _ => z7, fun _ => z8, fun _ => z9, fun _ => z10, fun _ => z11⟩
      simp [preB, putM, c3, c4, c5, c6, c7, c8, c9, c10, c11, c12, c13, z3, z4, z5, z6, z7, z8, z9, z10, z11, hbe]
    · simp only [setA] at e
      split at e <;> cases e
      rename_i hv
      have hbe := be_rd' hv
      have z4 := g4 hk; have z5 := g5 (by omega); have z6 := g6 (by omega); have z7 := g7 (by omega); have z8 := g8 (by omega); have z9 := g9 (by omega); have z10 := g10 (by omega); have z11 := g11 (by omega)
      refine ⟨?_, hme, fun h => absurd h (by omega), fun _ => z5, fun _ => z6, fun _ => z7, fun _ => z8, fun _ => z9, fun _ => z10, fun _ => z11⟩
      simp [preB, putM, c3, c4, c5, c6, c7, c8, c9, c10, c11, c12, c13, z4, z5, z6, z7, z8, z9, z10, z11, hbe]
    · simp only [setA] at e
      split at e <;> cases e
      rename_i hv
      have hbe := be_rd' hv
      have z5 := g5 hk; have z6 := g6 (by omega); have z7 := g7 (by omega); have z8 := g8 (by omega); have z9 := g9 (by omega); have z10 := g10 (by omega); have z11 := g11 (by omega)
      refine ⟨?_, hme, fun h => absurd h (by omega), fun h => absurd h (by omega), fun _ => z6, fun _ => z7, fun _ => z8, fun _ => z9, fun _ => z10, fun _ => z11⟩
      simp [preB, putM, c3, c4, c5, c6, c7, c8, c9, c10, c11, c12, c13, z5, z6, z7, z8, z9, z10, z11, hbe]
    · simp only [setA] at e
      split at e <;> cases e
      rename_i hv
      have hv : v = [] := List.eq_nil_of_length_eq_zero hv
      have z6 := g6 hk; have z7 := g7 (by omega); have z8 := g8 (by omega); have z9 := g9 (by omega); have z10 := g10 (by omega); have z11 := g11 (by omega)
      refine ⟨?_, hme, fun h => absurd h (by omega), fun h => absurd h (by omega), fun h => absurd h (by omega), fun _ => z7, fun _ => z8, fun _ => z9, fun _ => z10, fun _ => z11⟩
      simp [preB, putM, c3, c4, c5, c6, c7, c8, c9, c10, c11, c12, c13, z6, z7, z8, z9, z10, z11, hv]
    · simp only [setA] at e
      split at e <;> cases e
      rename_i hv
      have hbe := be_rd' (l := v.take w) (n := w) (by simp; omega)
      have hbe2 := be_rd' (l := v.drop w) (n := 4) (by simp; omega)
      have z7 := g7 hk; have z8 := g8 (by omega); have z9 := g9 (by omega); have z10 := g10 (by omega); have z11 := g11 (by omega)
      refine ⟨?_, hme, fun h => absurd h (by omega), fun h => absurd h (by omega), fun h => absurd h (by omega), fun h => absurd h (by omega), fun _ => z8, fun _ => z9, fun _ => z10, fun _ => z11⟩
      simp [preB, putM, c3, c4, c5, c6, c7, c8, c9, c10, c11, c12, c13, z7, z8, z9, z10, z11, hbe, hbe2]
    · simp only [setA] at e
      split at e <;> cases e
      rename_i hv
      have hbe := words_back hv
      have hlen : 0 < (wordsD v).length := by simp only [wordsOk, decide_eq_true_eq] at hv; simp [wordsD]; omega
      have z8 := g8 hk; have z9 := g9 (by omega); have z10 := g10 (by omega); have z11 := g11 (by omega)
      refine ⟨?_, hme, fun h => absurd h (by omega), fun h => absurd h (by omega), fun h => absurd h (by omega), fun h => absurd h (by omega), fun h => absurd h (by omega), fun _ => z9, fun _ => z10, fun _ => z11⟩
      simp [preB, putM, c3, c4, c5, c6, c7, c8, c9, c10, c11, c12, c13, z8, z9, z10, z11, hbe, hlen]
    · simp only [setA] at e
      split at e <;> cases e
      rename_i hv
      have hbe := be_rd' hv
      have z9 := g9 hk; have z10 := g10 (by omega); have z11 := g11 (by omega)
      refine ⟨?_, hme, fun h => absurd h (by omega), fun h => absurd h (by omega), fun h => absurd h (by omega), fun h => absurd h (by omega), fun h => absurd h (by omega), fun h => absurd h (by omega), fun _ => z10, fun _ => z11⟩
      simp [preB, putM, c3, c4, c5, c6, c7, c8, c9, c10, c11, c12, c13, z9, z10, z11, hbe]
    · simp only [setA] at e
      split at e <;> cases e
      rename_i hv
      have hbe := words_back hv
      have hlen : 0 < (wordsD v).length := by simp only [wordsOk, decide_eq_true_eq] at hv; simp [wordsD]; omega
      have z10 := g10 hk; have z11 := g11 (by omega)
      refine ⟨?_, hme, fun h => absurd h (by omega), fun h => absurd h (by omega), fun h => absurd h (by omega), fun h => absurd h (by omega), fun h => absurd h (by omega), fun h => absurd h (by omega), fun h => absurd h (by omega), fun _ => z11⟩
      simp [preB, putM, c3, c4, c5, c6, c7, c8, c9, c10, c11, c12, c13, z10, z11, hbe, hlen]
end Go.AM.IR
namespace Go.AM.IR
set_option maxHeartbeats 2000000
theorem bkLL_map_le {α : Type} (f : α → List AV) (g : α → Nat) (h : ∀ x, g x ≤ bkL (f x)) : ∀ l : List α, (l.map g).sum ≤ bkLL (l.map f)
  | [] => by simp
  | x :: r => by
    have := bkLL_map_le f g h r
    have := h x
    simp only [List.map_cons, List.sum_cons, bkLL]
    omega
theorem sum_one {α : Type} : ∀ l : List α, (l.map fun _ => 1).sum = l.length
  | [] => rfl
  | x :: r => by simp only [List.map_cons, List.sum_cons, List.length_cons, sum_one r]; omega
theorem len_bk {α : Type} (f : α → List AV) (h : ∀ x, 1 ≤ bkL (f x)) (l : List α) : l.length ≤ bkLL (l.map f) := by
  have := bkLL_map_le f (fun _ => 1) h l
  rwa [sum_one] at this
theorem bk_bytes (l : List UInt8) : l.length ≤ bkLL (byteCells l) := len_bk (f := fun b : UInt8 => [AV.int .u8 (b.toNat : Int)]) (fun _ => by simp [bkL, AV.bk]) l
end Go.AM.IR
set_option maxHeartbeats 4000000
set_option maxRecDepth 20000
namespace Go.AM.IR
theorem firstS_zero : ∀ l : List Int, firstS l = 0 → ∀ x ∈ l, x = 0
  | [], _, _, h => by simp at h
  | y :: r, h, x, hx => by
    simp only [firstS] at h
    split at h
    · rename_i e
      rcases List.mem_cons.1 hx with rfl | hx
      · exact e
      · exact firstS_zero r h x hx
    · rename_i e; exact absurd h e
theorem optE_zero {has : Bool} {n low : Int} (h : optE has n low = 0) : (has = true → low ≤ n ∧ n ≤ 4294967295) ∧ (has = false → n = 0) := by
  unfold optE at h
  cases has
  · simp at h ⊢; exact h
  · simp at h ⊢; omega
theorem rngS_all : ∀ l : List Int, rngS l = true → ∀ x ∈ l, 1 ≤ x ∧ x ≤ 4294967295
  | [], _, _, h => by simp at h
  | y :: r, h, x, hx => by
    simp [rngS] at h
    rcases List.mem_cons.1 hx with rfl | hx
    · exact h.1
    · exact rngS_all r h.2 x hx
theorem segE_zero {s : Seg} (h : segE s = 0) : (1 ≤ s.kind ∧ s.kind ≤ 4) ∧ (1 ≤ s.as.length ∧ s.as.length ≤ 255) ∧ ∀ x ∈ s.as, 1 ≤ x ∧ x ≤ 4294967295 := by
  unfold segE at h
  split at h
  · omega
  · split at h
    · omega
    · split at h
      · omega
      · split at h
        · omega
        · rename_i h1 h2 h3 h4
          exact ⟨by omega, by omega, rngS_all _ (by simpa using h4)⟩
theorem pathC_zero : ∀ (l : List Seg) (pl : Bool) (p : Option Seg), pathC pl p l = 0 → ∀ s ∈ l, segE s = 0
  | [], _, _, _, _, h => by simp at h
  | x :: r, pl, p, h, s, hs => by
    rw [pathC] at h
    split at h
    · rename_i h1; exact absurd h h1
    · rename_i h1
      split at h
      · omega
      · split at h
        · omega
        · rcases List.mem_cons.1 hs with rfl | hs
          · simpa using h1
          · exact pathC_zero r _ _ h s hs
theorem unkC_zero : ∀ (l : List TLV) (p : Option Int), unkC p l = 0 → ∀ t ∈ l, (11 ≤ t.kind ∧ t.kind ≤ 255) ∧ t.value.length ≤ 255
  | [], _, _, _, h => by simp at h
  | x :: r, none, h, t, ht => by
    rw [unkC] at h
    split at h
    · omega
    · split at h
      · omega
      · rcases List.mem_cons.1 ht with rfl | ht
        · omega
        · exact unkC_zero r _ h t ht
  | x :: r, some q, h, t, ht => by
    rw [unkC] at h
    split at h
    · omega
    · split at h
      · omega
      · split at h
        · omega
        · rcases List.mem_cons.1 ht with rfl | ht
          · omega
          · exact unkC_zero r _ h t ht
structure ValidA (a : Attrs) : Prop where
  origin : 0 ≤ a.origin ∧ a.origin ≤ 2
  pathL : a.path.length ≤ 64
  segs : ∀ s ∈ a.path, (1 ≤ s.kind ∧ s.kind ≤ 4) ∧ (1 ≤ s.as.length ∧ s.as.length ≤ 255) ∧ ∀ x ∈ s.as, 1 ≤ x ∧ x ≤ 4294967295
  nextHop : a.nextHop ≠ 0
  med : (a.hasMED = true → 0 ≤ a.med ∧ a.med ≤ 4294967295) ∧ (a.hasMED = false → a.med = 0)
  pref : (a.hasPref = true → 0 ≤ a.pref ∧ a.pref ≤ 4294967295) ∧ (a.hasPref = false → a.pref = 0)
  aggr : (a.hasAggr = true → 1 ≤ a.aggrAS ∧ a.aggrAS ≤ 4294967295) ∧ (a.hasAggr = false → a.aggrAS = 0)
  aggrAddr : a.hasAggr = false → a.aggrAddr = 0
  comms : a.comms.length ≤ 255
  orig : a.hasOrig = (a.orig != 0)
  clusters : a.clusters.length ≤ 64
  unknownL : a.unknown.length ≤ 64
  unknown : ∀ t ∈ a.unknown, (11 ≤ t.kind ∧ t.kind ≤ 255) ∧ t.value.length ≤ 255
theorem valid_of {a : Attrs} (h : checkS a = 0) : ValidA a := by
  have z := firstS_zero (checkL a) h
  simp only [checkL, List.mem_cons, List.not_mem_nil, or_false, forall_eq_or_imp, forall_eq] at z
  obtain ⟨z1, z2, z3, z4, z5, z6, z7, z8, z9, z10, z11⟩ := z
  have hp : a.path.length ≤ 64 ∧ pathC false none a.path = 0 := by
    unfold pathE at z2
    split at z2
    · omega
    · exact ⟨by omega, z2⟩
  have hu : a.unknown.length ≤ 64 ∧ unkC none a.unknown = 0 := by
    unfold unknownE at z11
    split at z11
    · omega
    · exact ⟨by omega, z11⟩
  refine ⟨?_, hp.1, fun s hs => segE_zero (pathC_zero _ _ _ hp.2 s hs), ?_, optE_zero z4, optE_zero z5, optE_zero z6, ?_, ?_, ?_, ?_, hu.1, unkC_zero _ _ hu.2⟩
  · split at z1 <;> omega
  · intro e; rw [if_pos e] at z3; omega
  · intro e
    split at z7
    · omega
    · rename_i hh
      simp only [e, true_and, ne_eq, Decidable.not_not] at hh
      exact hh
  · unfold commE at z8; split at z8 <;> omega
  · unfold origE at z9
    split at z9
    · omega
    · rename_i hh
      by_cases e : a.orig = 0
      · cases ho : a.hasOrig <;> simp_all
      · cases ho : a.hasOrig <;> simp_all
  · unfold clustersE at z10; split at z10 <;> omega
theorem encV_of {a : Attrs} (ha : a.ok) (h : checkS a = 0) : EncV a := by
  have v := valid_of h
  refine ⟨⟨v.origin.1, by have := v.origin.2; omega⟩, fun s hs => ?_, by have := v.pathL; omega, ha.nextHop, ?_, ?_, ?_, ha.aggrAddr, ha.comms, v.comms, ha.orig, ha.clusters, v.clusters, fun t ht => ?_, v.unknownL⟩
  · obtain ⟨h1, h2, h3⟩ := v.segs s hs
    exact ⟨by omega, by omega, fun x hx => by have := h3 x hx; omega⟩
  · cases hh : a.hasMED
    · have := v.med.2 hh; omega
    · exact v.med.1 hh
  · cases hh : a.hasPref
    · have := v.pref.2 hh; omega
    · exact v.pref.1 hh
  · cases hh : a.hasAggr
    · have := v.aggr.2 hh; omega
    · have := v.aggr.1 hh; omega
  · have := v.unknown t ht; omega
end Go.AM.IR
set_option maxHeartbeats 4000000
set_option maxRecDepth 20000
namespace Go.AM.IR
theorem putB_le (k : Int) (v : List UInt8) : (putB k v).length ≤ v.length + 4 := by
  unfold putB; split <;> simp <;> omega
theorem unkB_le : ∀ l : List TLV, (∀ t ∈ l, t.value.length ≤ 255) → (l.flatMap fun t => putB t.kind t.value).length ≤ 259 * l.length
  | [], _ => by simp
  | x :: r, h => by
    have h1 := unkB_le r fun t ht => h t (by simp [ht])
    have h2 := h x (by simp)
    have h3 := putB_le x.kind x.value
    simp only [List.flatMap_cons, List.length_append, List.length_cons]
    omega
theorem ite_len {c : Prop} [Decidable c] {x : List UInt8} : (if c then x else []).length ≤ x.length := by split <;> simp
theorem encB_le {a : Attrs} (v : ValidA a) (wide : Bool) : (encB a wide).length < 2 ^ 20 := by
  have hw := wd_le wide
  have h3 := putB_le 1 [UInt8.ofNat a.origin.toNat]
  have h4 := putB_le 2 (pathB (wd wide) a.path)
  have h4' := pathL_aux (wd wide) hw a.path fun s hs => (v.segs s hs).2.1.2
  have h4'' := v.pathL
  have h5 := putB_le 3 (be 4 a.nextHop.toNat)
  have h6 := Nat.le_trans (ite_len (c := a.hasMED = true)) (putB_le 4 (be 4 a.med.toNat))
  have h7 := Nat.le_trans (ite_len (c := a.hasPref = true)) (putB_le 5 (be 4 a.pref.toNat))
  have h8 := Nat.le_trans (ite_len (c := a.atomic = true)) (putB_le 6 [])
  have h9 := Nat.le_trans (ite_len (c := a.hasAggr = true)) (putB_le 7 (be (wd wide) a.aggrAS.toNat ++ be 4 a.aggrAddr.toNat))
  have h10 := Nat.le_trans (ite_len (c := a.comms.length > 0)) (putB_le 8 (wordsB a.comms))
  have h11 := Nat.le_trans (ite_len (c := a.hasOrig = true)) (putB_le 9 (be 4 a.orig.toNat))
  have h12 := Nat.le_trans (ite_len (c := a.clusters.length > 0)) (putB_le 10 (wordsB a.clusters))
  have h13 := unkB_le a.unknown fun t ht => (v.unknown t ht).2
  have hu := v.unknownL
  have hc := v.comms
  have hcl := v.clusters
  simp only [encB, r3, r4, r5, r6, r7, r8, r9, r10, r11, r12, r13, c3, c4, c5, c6, c7, c8, c9, c10, c11, c12, c13, List.length_append] at *
  simp only [wordsB, fm_length, be_length, List.length_cons, List.length_nil] at *
  omega
theorem badN_eq (wide bad : Bool) (n : Int) : badN wide bad n = (bad || (!wide && decide (n > 65535))) := rfl
theorem badL_eq (wide : Bool) : ∀ (l : List Int) (bad : Bool), badL wide bad l = (bad || (!wide && l.any fun n => decide (n > 65535)))
  | [], bad => by simp [badL]
  | x :: r, bad => by
    have := badL_eq wide r (badN wide bad x)
    simp only [badL, List.foldl_cons, badN_eq] at this ⊢
    rw [this]
    cases bad <;> cases wide <;> simp
theorem badP_eq (wide : Bool) : ∀ (p : List Seg) (bad : Bool), badP wide bad p = (bad || (!wide && (flatS p).any fun n => decide (n > 65535)))
  | [], bad => by simp [badP, flatS]
  | x :: r, bad => by
    have := badP_eq wide r (badL wide bad x.as)
    simp only [badP, List.foldl_cons, flatS, List.flatMap_cons, List.any_append] at this ⊢
    rw [this, badL_eq]
    cases bad <;> cases wide <;> simp
theorem encBad_eq {a : Attrs} (v : ValidA a) (wide : Bool) : encBad a wide = (!wide && (flatS a.path ++ [a.aggrAS]).any fun n => decide (n > 65535)) := by
  unfold encBad bdA
  cases h : a.hasAggr
  · rw [if_neg (by simp), badP_eq, v.aggr.2 h]; simp
  · rw [if_pos rfl, badN_eq, badP_eq]; cases wide <;> simp
def encR (a : Attrs) (wide : Bool) : Ret := if checkS a = 0 then encRet (encBad a wide) (encB a wide) else ⟨.tup [.con (.slice none 0 0), .int .i64 (checkS a)], []⟩
theorem encode67 (a : Attrs) (wide : Bool) (hb : AB a) (ha : a.ok) : Gives G 67 [.agg a.enc, .bool wide] [] (encR a wide) :=
  encode_gives67 a wide (sizeS_le hb) fun h => ⟨encV_of ha h, by have := encB_le (valid_of h) wide; omega⟩
end Go.AM.IR
set_option maxHeartbeats 4000000
set_option maxRecDepth 20000
namespace Go.AM.IR
theorem dec_keeps {w : Nat} {A : Attrs} : ∀ (f : Nat) (b : List UInt8) (last : Int) (nd : Nat) (a : Attrs), decF w f b last nd a = (0, A) → checkS A = 0 ∧ ∀ t ∈ a.unknown, t ∈ A.unknown
  | f, [], last, nd, a, h => by
    rw [show decF w f [] last nd a = finD nd a from by cases f <;> rfl] at h
    unfold finD at h
    split at h
    · cases h
    · split at h
      · cases h; exact ⟨by assumption, fun t ht => ht⟩
      · rename_i h0
        exact absurd (Prod.mk.inj h).1 h0
  | 0, c :: r, last, nd, a, h => by simp [decF] at h
  | f + 1, c :: r, last, nd, a, h => by
    cases ha : attD (c :: r) with
    | none => rw [decF_none ha] at h; cases h
    | some t =>
      rw [decF_some ha] at h
      split at h
      · cases h
      · split at h
        · cases h
        · cases hs : setA w t.k.toNat t.v a with
          | none => simp only [hs] at h; cases h
          | some a' =>
            simp only [hs] at h
            obtain ⟨h1, h2⟩ := dec_keeps f _ _ _ a' h
            refine ⟨h1, fun x hx => h2 x ?_⟩
            revert hs
            unfold setA
            split <;> intro hs
            · split at hs <;> first | (cases hs; exact hx) | cases hs
            · obtain ⟨p, _, rfl⟩ := Option.map_eq_some_iff.1 hs; exact hx
            all_goals first | (split at hs <;> first | (cases hs; exact hx) | cases hs) | (cases hs; simp [hx])
theorem r3_eq (w : Nat) (m : Nat → Bool) (a : Attrs) (h1 : m 1 = true) (h2 : m 2 = true) (h3 : m 3 = true) : preB w m a = r3 a w := by
  simp only [preB, h1, h2, h3, if_true, r3, r4, r5, r6, r7, r8, r9, r10, r11, r12, r13]
theorem MetOk.all {m : Nat → Bool} {last : Int} {nd : Nat} (h : MetOk m last nd) (h3 : ¬ nd < 3) : m 1 = true ∧ m 2 = true ∧ m 3 = true := by
  obtain ⟨hn, _⟩ := h
  cases h1 : m 1 <;> cases h2 : m 2 <;> cases h4 : m 3 <;> rw [h1, h2, h4] at hn <;> simp at hn <;> first | omega | simp
theorem dec_back {w : Nat} {A : Attrs} : ∀ (f : Nat) (b : List UInt8) (last : Int) (nd : Nat) (a : Attrs) (m : Nat → Bool), -1 ≤ last → decF w f b last nd a = (0, A) → MetOk m last nd → Inv last m a → preB w m a ++ b = r3 A w
  | f, [], last, nd, a, m, hl, h, hm, hi => by
    rw [show decF w f [] last nd a = finD nd a from by cases f <;> rfl] at h
    unfold finD at h
    split at h
    · cases h
    · rename_i h3
      split at h
      · cases h
        obtain ⟨q1, q2, q3⟩ := hm.all h3
        rw [List.append_nil, r3_eq w m _ q1 q2 q3]
      · rename_i h0
        exact absurd (Prod.mk.inj h).1 h0
  | 0, c :: r, last, nd, a, m, hl, h, hm, hi => by simp [decF] at h
  | f + 1, c :: r, last, nd, a, m, hl, h, hm, hi => by
    cases ha : attD (c :: r) with
    | none => rw [decF_none ha] at h; cases h
    | some t =>
      rw [decF_some ha] at h
      split at h
      · cases h
      · rename_i hlt
        split at h
        · cases h
        · rename_i hb
          cases hs : setA w t.k.toNat t.v a with
          | none => simp only [hs] at h; cases h
          | some a' =>
            simp only [hs] at h
            obtain ⟨p1, p2⟩ := att_put ha hb
            by_cases hk : t.k.toNat = 0
            · rw [hk, setA_other (.inl rfl)] at hs
              cases hs
              obtain ⟨e1, e2⟩ := dec_keeps f _ _ _ _ h
              have := (valid_of e1).unknown ⟨((0 : Nat) : Int), t.v⟩ (e2 _ (by simp))
              simp at this
            · obtain ⟨s1, s2⟩ := put_step hi (by omega) (by omega) hs
              have ih := dec_back f t.rest _ _ a' (putM m t.k.toNat) (by omega) h (met_put hm (by have := t.k.toNat_lt; omega) hlt) s2
              rw [p1, ← List.append_assoc, ← s1, ih]
structure Rng (w : Nat) (a : Attrs) : Prop where
  ok : a.ok
  path : ∀ s ∈ a.path, ∀ x ∈ s.as, 0 ≤ x ∧ x < ((256 ^ w : Nat) : Int)
  aggr : a.aggrAS < ((256 ^ w : Nat) : Int)
theorem okI_small {x : Int} (h : 0 ≤ x ∧ x ≤ 4294967295) : okI x := by unfold okI; omega
theorem nums_rng {w n : Nat} {b : List UInt8} : ∀ x ∈ numsD w n b, 0 ≤ x ∧ x < ((256 ^ w : Nat) : Int) := by
  intro x hx
  obtain ⟨i, _, rfl⟩ := List.mem_map.1 hx
  have := rd_le (l := (b.drop (i * w)).take w) (n := w) (by simp; omega)
  omega
theorem segs_rng {w : Nat} (hw : w ≤ 4) : ∀ (f : Nat) (b : List UInt8) (p : List Seg), segsF w f b = some p → ∀ s ∈ p, s.ok ∧ ∀ x ∈ s.as, 0 ≤ x ∧ x < ((256 ^ w : Nat) : Int)
  | f, [], p, h => by
    cases f <;> (simp only [segsF, Option.some.injEq] at h; subst h; simp)
  | 0, _ :: _, p, h => by simp [segsF] at h
  | f + 1, [_], p, h => by simp [segsF] at h
  | f + 1, k :: n :: r, p, h => by
    simp only [segsF] at h
    split at h
    · cases h
    · obtain ⟨l, h1, rfl⟩ := Option.map_eq_some_iff.1 h
      intro s hs
      have hk := k.toNat_lt
      have hp : (256 : Nat) ^ w ≤ 256 ^ 4 := Nat.pow_le_pow_right (by omega) hw
      rcases List.mem_cons.1 hs with rfl | hs
      · exact ⟨⟨okI_small (by simp only; omega), fun x hx => okI_small (by have := nums_rng x hx; omega)⟩, nums_rng⟩
      · exact segs_rng hw f _ l h1 s hs
theorem setA_rng {w k : Nat} (hw : w ≤ 4) {v : List UInt8} {a a' : Attrs} (hk : k ≤ 255) (h : Rng w a) (e : setA w k v a = some a') : Rng w a' := by
  obtain ⟨ho, hp, hg⟩ := h
  obtain ⟨o1, o2, o3, o4, o5, o6, o7, o8, o9, o10, o11⟩ := ho
  have hpw : (256 : Nat) ^ w ≤ 256 ^ 4 := Nat.pow_le_pow_right (by omega) hw
  have hwd : ∀ x ∈ wordsD v, okU x := fun x hx => by have := nums_rng x hx; unfold okU; omega
  have h4 : v.length = 4 → okU (rd v) := fun hv => by have := rd_u32 (v := v) (by omega); unfold okU; omega
  have h4i : v.length = 4 → okI (rd v) := fun hv => by have := h4 hv; unfold okU at this; unfold okI; omega
  by_cases ho : k = 0 ∨ 11 ≤ k
  · rw [setA_other ho] at e
    cases e
    refine ⟨⟨o1, o2, o3, o4, o5, o6, o7, o8, o9, o10, fun t ht => ?_⟩, hp, hg⟩
    rcases List.mem_append.1 ht with ht | ht
    · exact o11 t ht
    · simp only [List.mem_singleton] at ht; subst ht; exact ⟨okI_small (by simp only; omega)⟩
  · have hkk : k = 1 ∨ k = 2 ∨ k = 3 ∨ k = 4 ∨ k = 5 ∨ k = 6 ∨ k = 7 ∨ k = 8 ∨ k = 9 ∨ k = 10 := by omega
    rcases hkk with rfl | rfl | rfl | rfl | rfl | rfl | rfl | rfl | rfl | rfl
    · match v, e with
      | [x], e =>
        simp only [setA] at e; cases e
        have := x.toNat_lt
        exact ⟨⟨okI_small (by simp only; omega), o2, o3, o4, o5, o6, o7, o8, o9, o10, o11⟩, hp, hg⟩
    · simp only [setA] at e
      obtain ⟨p, q, rfl⟩ := Option.map_eq_some_iff.1 e
      have hr := segs_rng hw _ _ _ q
      exact ⟨⟨o1, fun s hs => (hr s hs).1, o3, o4, o5, o6, o7, o8, o9, o10, o11⟩, fun s hs => (hr s hs).2, hg⟩
    · simp only [setA] at e
      split at e <;> cases e
      exact ⟨⟨o1, o2, h4 (by assumption), o4, o5, o6, o7, o8, o9, o10, o11⟩, hp, hg⟩
    · simp only [setA] at e
      split at e <;> cases e
      exact ⟨⟨o1, o2, o3, h4i (by assumption), o5, o6, o7, o8, o9, o10, o11⟩, hp, hg⟩
    · simp only [setA] at e
      split at e <;> cases e
      exact ⟨⟨o1, o2, o3, o4, h4i (by assumption), o6, o7, o8, o9, o10, o11⟩, hp, hg⟩
    · simp only [setA] at e
      split at e <;> cases e
      exact ⟨⟨o1, o2, o3, o4, o5, o6, o7, o8, o9, o10, o11⟩, hp, hg⟩
    · simp only [setA] at e
      split at e <;> cases e
      have q1 := rd_le (l := v.take w) (n := w) (by simp; omega)
      have q2 := rd_u32 (v := v.drop w) (by simp; omega)
      exact ⟨⟨o1, o2, o3, o4, o5, okI_small (by simp only; omega), by unfold okU; simp only; omega, o8, o9, o10, o11⟩, hp, by simp only; omega⟩
    · simp only [setA] at e
      split at e <;> cases e
      exact ⟨⟨o1, o2, o3, o4, o5, o6, o7, hwd, o9, o10, o11⟩, hp, hg⟩
    · simp only [setA] at e
      split at e <;> cases e
      exact ⟨⟨o1, o2, o3, o4, o5, o6, o7, o8, h4 (by assumption), o10, o11⟩, hp, hg⟩
    · simp only [setA] at e
      split at e <;> cases e
      exact ⟨⟨o1, o2, o3, o4, o5, o6, o7, o8, o9, hwd, o11⟩, hp, hg⟩
theorem dec_rng {w N : Nat} (hw : w ≤ 4) {A : Attrs} {e : Int} : ∀ (f : Nat) (b : List UInt8) (last : Int) (nd : Nat) (a : Attrs), decF w f b last nd a = (e, A) → Rng w a → DB N a → a.unknown.length + b.length ≤ N → Rng w zeroA → DB N zeroA → Rng w A ∧ DB N A ∧ A.unknown.length ≤ N
  | f, [], last, nd, a, h, h1, h2, h3, z1, z2 => by
    rw [show decF w f [] last nd a = finD nd a from by cases f <;> rfl] at h
    simp only [List.length_nil] at h3
    unfold finD at h
    split at h
    · cases h; exact ⟨z1, z2, by simp [zeroA]⟩
    · split at h
      · cases h; exact ⟨h1, h2, by omega⟩
      · cases h; exact ⟨z1, z2, by simp [zeroA]⟩
  | 0, c :: r, last, nd, a, h, h1, h2, h3, z1, z2 => by simp only [decF] at h; cases h; exact ⟨z1, z2, by simp [zeroA]⟩
  | f + 1, c :: r, last, nd, a, h, h1, h2, h3, z1, z2 => by
    cases ha : attD (c :: r) with
    | none => rw [decF_none ha] at h; cases h; exact ⟨z1, z2, by simp [zeroA]⟩
    | some t =>
      rw [decF_some ha] at h
      split at h
      · cases h; exact ⟨z1, z2, by simp [zeroA]⟩
      · split at h
        · cases h; exact ⟨z1, z2, by simp [zeroA]⟩
        · rename_i hb
          cases hs : setA w t.k.toNat t.v a with
          | none => simp only [hs] at h; cases h; exact ⟨z1, z2, by simp [zeroA]⟩
          | some a' =>
            simp only [hs] at h
            obtain ⟨p1, p2⟩ := att_put ha hb
            have hl := congrArg List.length p1
            have hpl : t.v.length < (putB (t.k.toNat : Int) t.v).length := by unfold putB; split <;> simp <;> omega
            rw [List.length_append] at hl
            have hk := t.k.toNat_lt
            obtain ⟨d1, d2⟩ := setA_DB h2 (by omega) hs
            exact dec_rng hw f t.rest _ _ a' h (setA_rng hw (by omega) h1 hs) d1 (by omega) z1 z2
theorem zero_rng (w : Nat) : Rng w zeroA := ⟨⟨by simp [okI, zeroA], by simp [zeroA], by simp [okU, zeroA], by simp [okI, zeroA], by simp [okI, zeroA], by simp [okI, zeroA], by simp [okU, zeroA], by simp [zeroA], by simp [okU, zeroA], by simp [zeroA], by simp [zeroA]⟩, by simp [zeroA], by simp only [zeroA]; have := Nat.pow_pos (n := w) (show 0 < 256 by omega); omega⟩
theorem zero_DB (N : Nat) : DB N zeroA := ⟨by simp [zeroA], by simp [zeroA], by simp [zeroA], by simp [zeroA], by simp [zeroA]⟩
theorem flat_le255 : ∀ l : List Seg, (∀ s ∈ l, s.as.length ≤ 255) → (flatS l).length ≤ 255 * l.length
  | [], _ => by simp [flatS]
  | s :: r, h => by
    have h1 := flat_le255 r fun t ht => h t (by simp [ht])
    have h2 := h s (by simp)
    unfold flatS at h1 ⊢
    simp only [List.flatMap_cons, List.length_append, List.length_cons]
    omega
theorem unkS_leN {N : Nat} : ∀ l : List TLV, (∀ t ∈ l, t.value.length ≤ N) → unkS l ≤ ((N * l.length : Nat) : Int)
  | [], _ => by simp [unkS]
  | t :: r, h => by
    have h1 := unkS_leN r fun t ht => h t (by simp [ht])
    have h2 := h t (by simp)
    simp only [unkS, List.map_cons, List.sum_cons, List.length_cons, Nat.mul_add] at h1 ⊢
    omega
theorem DB.ab {N : Nat} {a : Attrs} (h : DB N a) (hN : N ≤ 5000) (hu : a.unknown.length ≤ N) : AB a := by
  have h1 := flat_le255 a.path h.segs
  have h2 := unkS_leN a.unknown h.vals
  have h3 : N * a.unknown.length ≤ 5000 * 5000 := Nat.mul_le_mul hN (by omega)
  have := h.path; have := h.comms; have := h.clusters
  exact ⟨by omega, by omega, by omega, by omega, by omega, fun t ht => by have := h.vals t ht; omega, by omega⟩
theorem dec_all {b : List UInt8} {wide : Bool} (hb : b.length ≤ 5000) {e : Int} {A : Attrs} (h : decD (wd wide) b = (e, A)) : A.ok ∧ AB A ∧ (e = 0 → checkS A = 0 ∧ encB A wide = b ∧ encBad A wide = false) := by
  have hw := wd_le wide
  unfold decD at h
  obtain ⟨r1, r2, r3⟩ := dec_rng (N := b.length) hw b.length b (-1) 0 zeroA h (zero_rng _) (zero_DB _) (by simp [zeroA]) (zero_rng _) (zero_DB _)
  refine ⟨r1.ok, r2.ab hb r3, fun he => ?_⟩
  subst he
  obtain ⟨k1, _⟩ := dec_keeps _ _ _ _ _ h
  have hbk := dec_back b.length b (-1) 0 zeroA (fun _ => false) (by omega) h ⟨rfl, by simp⟩ ⟨by simp, fun _ => rfl, fun _ => rfl, fun _ => rfl, fun _ => rfl, fun _ => rfl, fun _ => rfl, fun _ => rfl, fun _ => rfl⟩
  refine ⟨k1, ?_, ?_⟩
  · rw [encB, ← hbk]
    simp [preB, c6, c7, c8, c9, c10, c11, c12, c13, zeroA]
  · rw [encBad_eq (valid_of k1)]
    cases wide
    · have hp := r1.path
      have hg := r1.aggr
      simp only [wd, Bool.false_eq_true, if_false] at hp hg
      simp only [Bool.not_false, Bool.true_and, List.any_eq_false, List.mem_append, List.mem_singleton, decide_eq_true_eq]
      rintro x (hx | rfl)
      · unfold flatS at hx
        obtain ⟨s, hs, hx⟩ := List.mem_flatMap.1 hx
        have := hp s hs x hx
        omega
      · omega
    · rfl
end Go.AM.IR
set_option maxHeartbeats 4000000
set_option maxRecDepth 20000
namespace Go.AM.IR
def metC (m : Nat → Bool) : List AV := (List.range 256).map fun i => .bool (m i)
theorem zIarr {K : Eff → Prop} {n s g key kk gg o : Nat} {x i : Opd} {j : Int} {q : IntKind} {hg : Nat → Option (Nat × Blk)} (hk : K { res := .ref kk gg (o + j.toNat * s) }) (h1 : 0 ≤ j := by omega) (h2 : j.toNat < n := by omega) : ∃ e, aopV (.iarr n s x i) g key [.ref kk gg o, .int q j] hg = some e ∧ K e :=
  ⟨_, by simp only [aopV, if_pos (And.intro h1 h2)], hk⟩
@[simp] theorem metC_length (m : Nat → Bool) : (metC m).length = 256 := by simp [metC]
theorem metC_set (m : Nat → Bool) (k : Nat) : (metC m).set k (.bool true) = metC (putM m k) := by
  apply List.ext_getElem?
  intro i
  unfold metC putM
  rw [List.getElem?_set]
  by_cases h : k = i
  · subst h
    by_cases h2 : k < 256 <;> simp [h2]
  · rw [if_neg h]
    by_cases h2 : i < 256
    · simp [h2, Ne.symm h]
    · simp [h2]
theorem flags102i (k : Int) (h0 : 0 ≤ k) : Gives G 102 [.int .i64 k] [] ⟨.int .i64 ((flagS k).toNat : Int), []⟩ := by
  by_cases h : k > 10
  · rw [show flagS k = 224 from by simp [flagS, h]]
    refine gives_code (F := f102) rfl rfl (W_ok 300 _ _ _ _ ?_)
    repeat' ((conv => whnf); first | refine bslP (by first | rfl | (simp [pureL, pureLL, AV.pure]; done) | fail) rfl ?_ | refine TakeC.full (by first | rfl | omega | (simp; done) | (simp; omega) | fail) ?_ | refine zBs ?_ | refine zBn ?_ | refine zBv rfl rfl ?_ | refine zN ?_ | refine zC ?_ | refine zC4 ?_ | refine zOr16 ?_ | refine zC1 ?_ | refine zByte ?_ | refine zMaxL ?_ | refine zMaxR ?_ | refine zMinL ?_ | refine zMinR ?_ | refine zShr ?_ | refine zC8 ?_ | refine zQ ?_ | refine zR ?_ | refine zS ?_ | refine zA ?_ | refine zM ?_ | refine xr rfl ?_ | refine ai rfl ?_ | refine condT ?_ | refine condF ?_ | refine condG1 ?_ | refine condG0 ?_ | refine cD ?_ | refine dD ?_ | refine cB ?_ | refine dB ?_ | refine cN ?_ | refine dN ?_ | refine cV ?_ | refine dV ?_ | refine cE ?_ | refine dE ?_ | refine condX0 ?_ | refine condX1 ?_ | refine condNot ?_ | refine condAnd ?_ | refine condOr ?_ | refine aO ?_ | refine aB ?_ | refine aR ?_ | refine aR ?_ (by simp; omega) | refine xr (by assumption) ?_ | refine ai (by assumption) ?_ | refine condD (fun h => ?_) (fun h => ?_) | refine condB (fun h => ?_) (fun h => ?_) | refine condN (fun h => ?_) (fun h => ?_) | refine condE (fun h => ?_) (fun h => ?_) | refine condV (fun h => ?_) (fun h => ?_))
    all_goals ((first | refine ev_fin (And.intro (by first | rfl | (simp [AV.pure, pureL]; done) | fail) ?_) | refine ev_fin0 (And.intro (by first | rfl | (simp [AV.pure, pureL]; done) | fail) ?_)); rfl)
  · have h2 : k = 0 ∨ k = 1 ∨ k = 2 ∨ k = 3 ∨ k = 4 ∨ k = 5 ∨ k = 6 ∨ k = 7 ∨ k = 8 ∨ k = 9 ∨ k = 10 := by omega
    rcases h2 with rfl | rfl | rfl | rfl | rfl | rfl | rfl | rfl | rfl | rfl | rfl
    all_goals
      refine gives_code (F := f102) rfl rfl (W_ok 300 _ _ _ _ ?_)
      repeat' ((conv => whnf); first | refine bslP (by first | rfl | (simp [pureL, pureLL, AV.pure]; done) | fail) rfl ?_ | refine TakeC.full (by first | rfl | omega | (simp; done) | (simp; omega) | fail) ?_ | refine zBs ?_ | refine zBn ?_ | refine zBv rfl rfl ?_ | refine zN ?_ | refine zC ?_ | refine zC4 ?_ | refine zOr16 ?_ | refine zC1 ?_ | refine zByte ?_ | refine zMaxL ?_ | refine zMaxR ?_ | refine zMinL ?_ | refine zMinR ?_ | refine zShr ?_ | refine zC8 ?_ | refine zQ ?_ | refine zR ?_ | refine zS ?_ | refine zA ?_ | refine zM ?_ | refine xr rfl ?_ | refine ai rfl ?_ | refine condT ?_ | refine condF ?_ | refine condG1 ?_ | refine condG0 ?_ | refine cD ?_ | refine dD ?_ | refine cB ?_ | refine dB ?_ | refine cN ?_ | refine dN ?_ | refine cV ?_ | refine dV ?_ | refine cE ?_ | refine dE ?_ | refine condX0 ?_ | refine condX1 ?_ | refine condNot ?_ | refine condAnd ?_ | refine condOr ?_ | refine aO ?_ | refine aB ?_ | refine aR ?_ | refine aR ?_ (by simp; omega) | refine xr (by assumption) ?_ | refine ai (by assumption) ?_ | refine condD (fun h => ?_) (fun h => ?_) | refine condB (fun h => ?_) (fun h => ?_) | refine condN (fun h => ?_) (fun h => ?_) | refine condE (fun h => ?_) (fun h => ?_) | refine condV (fun h => ?_) (fun h => ?_))
      all_goals ((first | refine ev_fin (And.intro (by first | rfl | (simp [AV.pure, pureL]; done) | fail) ?_) | refine ev_fin0 (And.intro (by first | rfl | (simp [AV.pure, pureL]; done) | fail) ?_)); rfl)
theorem flags102 (k : UInt8) : Gives G 102 [.int .i64 (k.toNat : Int)] [] ⟨.int .i64 ((flagS (k.toNat : Int)).toNat : Int), []⟩ := flags102i _ (by omega)
end Go.AM.IR
set_option maxHeartbeats 20000000
set_option maxRecDepth 20000
namespace Go.AM.IR
theorem dec_short71 (wide : Bool) (b : List UInt8) (A : Nat) (at_ : Int) (hat : at_ = (A : Int)) (c k : UInt8) (n : Nat) (hb0 : (byteCells b)[at_.toNat]? = some [.int .u8 (c.toNat : Int)]) (hb1 : (byteCells b)[(at_ + 1).toNat]? = some [.int .u8 (k.toNat : Int)]) (hbit : bit16 c = false) (hlen : b.length < 2 ^ 29) (hh : A + 3 ≤ b.length)
  (hget : Gives G 100 [.sl 1 (byteCells b), .int .i64 (at_ + 2), .int .i64 1] [] ⟨.int .i64 (n : Int), []⟩) (hn : n ≤ 65535) (last : Int) (m : Nat → Bool) (a : Attrs) (hu : a.unknown.length < 2 ^ 29) (R : Ret)
  (h1 : b.length < A + 3 + n → R = decR (3, zeroA)) (h2 : A + 3 + n ≤ b.length → (k.toNat : Int) ≤ last → R = decR (16, zeroA))
  (h3 : A + 3 + n ≤ b.length → ¬ (k.toNat : Int) ≤ last → badHead ⟨c, k, false, (b.drop (A + 3)).take n, b.drop (A + 3 + n)⟩ → R = decR (2, zeroA))
  (h4 : A + 3 + n ≤ b.length → ¬ (k.toNat : Int) ≤ last → ¬ badHead ⟨c, k, false, (b.drop (A + 3)).take n, b.drop (A + 3 + n)⟩ → setA (wd wide) k.toNat ((b.drop (A + 3)).take n) a = none → R = decR (2, zeroA))
  (go : A + 3 + n ≤ b.length → ¬ (k.toNat : Int) ≤ last → ¬ badHead ⟨c, k, false, (b.drop (A + 3)).take n, b.drop (A + 3 + n)⟩ → ∀ a', setA (wd wide) k.toNat ((b.drop (A + 3)).take n) a = some a' → ∀ (T : List (Nat × AV)) (H : Heap) (c g1 g2 g3 g4 : Nat) (at2 : Int), at2 = ((A + 3 + n : Nat) : Int) → Ev G ⟨f71x27LH, ⟨(4, .ref 68 g1 0) :: (8, .ref 72 g4 0) :: (6, .ref 70 g2 0) :: (1, .bool wide) :: (0, .sl 1 (byteCells b)) :: (7, .int .i64 (k.toNat : Int)) :: (9, .int .i64 at2) :: T, (68, some (g1, .cells zeroC)) :: (72, some (g4, .cells (metC (putM m k.toNat)))) :: (70, some (g2, .cells (a'.cellsV (.vs 300 g3 a'.unknown.length)))) :: (300, some (g3, .vec 2 (a'.unknown.map TLV.enc))) :: H, c⟩, [.cell 4 (some 16), .t 5], 0⟩ R)
  (T : List (Nat × AV)) (H : Heap) (c_ g1 g2 g3 g4 : Nat) : Ev G ⟨f71x27LH, ⟨(4, .ref 68 g1 0) :: (8, .ref 72 g4 0) :: (6, .ref 70 g2 0) :: (1, .bool wide) :: (0, .sl 1 (byteCells b)) :: (7, .int .i64 last) :: (9, .int .i64 at_) :: T, (68, some (g1, .cells zeroC)) :: (72, some (g4, .cells (metC m))) :: (70, some (g2, .cells (a.cellsV (.vs 300 g3 a.unknown.length)))) :: (300, some (g3, .vec 2 (a.unknown.map TLV.enc))) :: H, c_⟩, [.cell 4 (some 16), .t 5], 0⟩ R := by
  have hbl := byteCells_length b
  have hk := k.toNat_lt
  have hc := c.toNat_lt
  have hflag := flags102 k
  by_cases c1 : b.length < A + 3 + n
  · rw [h1 c1]
    refine ev_loop' (W_ok 300 _ _ _ _ ?_)
    repeat' ((conv => whnf); first | refine zAndLF hbit ?_ | refine zNotLB ?_ | refine zPut ?_ | refine zIarr ?_ | refine bslP (by first | rfl | (simp [pureL, pureLL, AV.pure]; done) | fail) rfl ?_ | refine TakeC.full (by first | rfl | omega | (simp; done) | (simp; omega) | fail) ?_ | refine zBs ?_ | refine zBn ?_ | refine zBv rfl rfl ?_ | refine zN ?_ | refine zC ?_ | refine zC4 ?_ | refine zOr16 ?_ | refine zC1 ?_ | refine zByte ?_ | refine zMaxL ?_ | refine zMaxR ?_ | refine zMinL ?_ | refine zMinR ?_ | refine zShr ?_ | refine zC8 ?_ | refine zQ ?_ | refine zR ?_ | refine zS ?_ | refine zA ?_ | refine zM ?_ | refine xr rfl ?_ | refine ai rfl ?_ | refine condT ?_ | refine condF ?_ | refine condG1 ?_ | refine condG0 ?_ | refine cD ?_ | refine dD ?_ | refine cB ?_ | refine dB ?_ | refine cN ?_ | refine dN ?_ | refine cV ?_ | refine dV ?_ | refine cE ?_ | refine dE ?_ | refine condX0 ?_ | refine condX1 ?_ | refine condNot ?_ | refine condAnd ?_ | refine condOr ?_ | refine aO ?_ | refine aB ?_ | refine aR ?_ | refine aR ?_ (by simp; omega) | refine xr (by assumption) ?_ | refine ai (by assumption) ?_ | refine kV (hget) ?_ | refine kV (hflag) ?_ | refine condD (fun h => ?_) (fun h => ?_) | refine condB (fun h => ?_) (fun h => ?_) | refine condN (fun h => ?_) (fun h => ?_) | refine condE (fun h => ?_) (fun h => ?_) | refine condV (fun h => ?_) (fun h => ?_))
    refine ev_le [] [(68, some (_, .cells zeroA.enc))] trivial ⟨⟨rfl, .refl _, LeP.nil 2, .refl _, .refl _, .refl _, .refl _, .refl _, .refl _, .refl _, .refl _, .refl _, LeP.nil 1, .refl _, .refl _, LeP.nil 1, LeP.nil 2, trivial⟩, trivial⟩ ?_
    (first | refine ev_fin (And.intro (by first | rfl | (simp [AV.pure, pureL]; done) | fail) ?_) | refine ev_fin0 (And.intro (by first | rfl | (simp [AV.pure, pureL]; done) | fail) ?_))
    (conv => whnf); exact And.intro (by first | rfl | (simp [AV.pure, pureL]; done) | fail) rfl
  have c1 : A + 3 + n ≤ b.length := by omega
  by_cases c2 : (k.toNat : Int) ≤ last
  · rw [h2 c1 c2]
    refine ev_loop' (W_ok 300 _ _ _ _ ?_)
    repeat' ((conv => whnf); first | refine zAndLF hbit ?_ | refine zNotLB ?_ | refine zPut ?_ | refine zIarr ?_ | refine bslP (by first | rfl | (simp [pureL, pureLL, AV.pure]; done) | fail) rfl ?_ | refine TakeC.full (by first | rfl | omega | (simp; done) | (simp; omega) | fail) ?_ | refine zBs ?_ | refine zBn ?_ | refine zBv rfl rfl ?_ | refine zN ?_ | refine zC ?_ | refine zC4 ?_ | refine zOr16 ?_ | refine zC1 ?_ | refine zByte ?_ | refine zMaxL ?_ | refine zMaxR ?_ | refine zMinL ?_ | refine zMinR ?_ | refine zShr ?_ | refine zC8 ?_ | refine zQ ?_ | refine zR ?_ | refine zS ?_ | refine zA ?_ | refine zM ?_ | refine xr rfl ?_ | refine ai rfl ?_ | refine condT ?_ | refine condF ?_ | refine condG1 ?_ | refine condG0 ?_ | refine cD ?_ | refine dD ?_ | refine cB ?_ | refine dB ?_ | refine cN ?_ | refine dN ?_ | refine cV ?_ | refine dV ?_ | refine cE ?_ | refine dE ?_ | refine condX0 ?_ | refine condX1 ?_ | refine condNot ?_ | refine condAnd ?_ | refine condOr ?_ | refine aO ?_ | refine aB ?_ | refine aR ?_ | refine aR ?_ (by simp; omega) | refine xr (by assumption) ?_ | refine ai (by assumption) ?_ | refine kV (hget) ?_ | refine kV (hflag) ?_ | refine condD (fun h => ?_) (fun h => ?_) | refine condB (fun h => ?_) (fun h => ?_) | refine condN (fun h => ?_) (fun h => ?_) | refine condE (fun h => ?_) (fun h => ?_) | refine condV (fun h => ?_) (fun h => ?_))
    refine ev_le [] [(68, some (_, .cells zeroA.enc))] trivial ⟨⟨rfl, .refl _, LeP.nil 2, .refl _, .refl _, .refl _, .refl _, .refl _, .refl _, .refl _, .refl _, .refl _, LeP.nil 1, .refl _, .refl _, LeP.nil 1, LeP.nil 2, trivial⟩, trivial⟩ ?_
    (first | refine ev_fin (And.intro (by first | rfl | (simp [AV.pure, pureL]; done) | fail) ?_) | refine ev_fin0 (And.intro (by first | rfl | (simp [AV.pure, pureL]; done) | fail) ?_))
    (conv => whnf); exact And.intro (by first | rfl | (simp [AV.pure, pureL]; done) | fail) rfl
  have hvl : ((b.drop (A + 3)).take n).length = n := by simp; omega
  have hrd := value_gives101 k.toNat (by omega) a ((b.drop (A + 3)).take n) (by omega) (by omega) wide
  have hsl := slice_eq b (A + 3) n (at_ + (2 + 1) + (n : Int)).toNat (by omega)
  rw [show A + 3 = (at_ + (2 + 1)).toNat from by omega] at hsl
  unfold valR at hrd
  cases hs : setA (wd wide) k.toNat ((b.drop (A + 3)).take n) a with
  | none =>
    rw [hs] at hrd
    simp only [valRet] at hrd
    rw [show A + 3 = (at_ + (2 + 1)).toNat from by omega, ← hsl] at hrd
    have hR : R = decR (2, zeroA) := by
      by_cases q : badHead ⟨c, k, false, (b.drop (A + 3)).take n, b.drop (A + 3 + n)⟩
      · exact h3 c1 c2 q
      · exact h4 c1 c2 q hs
    rw [hR]
    by_cases c3 : stripB c = ((flagS (k.toNat : Int)).toNat : Int)
    · refine ev_loop' (W_ok 300 _ _ _ _ ?_)
      repeat' ((conv => whnf); first | refine zAndLF hbit ?_ | refine zNotLB ?_ | refine zPut ?_ | refine zIarr ?_ | refine bslP (by first | rfl | (simp [pureL, pureLL, AV.pure]; done) | fail) rfl ?_ | refine TakeC.full (by first | rfl | omega | (simp; done) | (simp; omega) | fail) ?_ | refine zBs ?_ | refine zBn ?_ | refine zBv rfl rfl ?_ | refine zN ?_ | refine zC ?_ | refine zC4 ?_ | refine zOr16 ?_ | refine zC1 ?_ | refine zByte ?_ | refine zMaxL ?_ | refine zMaxR ?_ | refine zMinL ?_ | refine zMinR ?_ | refine zShr ?_ | refine zC8 ?_ | refine zQ ?_ | refine zR ?_ | refine zS ?_ | refine zA ?_ | refine zM ?_ | refine xr rfl ?_ | refine ai rfl ?_ | refine condT ?_ | refine condF ?_ | refine condG1 ?_ | refine condG0 ?_ | refine cD ?_ | refine dD ?_ | refine cB ?_ | refine dB ?_ | refine cN ?_ | refine dN ?_ | refine cV ?_ | refine dV ?_ | refine cE ?_ | refine dE ?_ | refine condX0 ?_ | refine condX1 ?_ | refine condNot ?_ | refine condAnd ?_ | refine condOr ?_ | refine aO ?_ | refine aB ?_ | refine aR ?_ | refine aR ?_ (by simp; omega) | refine xr (by assumption) ?_ | refine ai (by assumption) ?_ | refine kV (hget) ?_ | refine kV (hflag) ?_ | refine kX [(300, _, _)] [] ⟨rfl, trivial⟩ trivial (hrd) ?_ | refine condD (fun h => ?_) (fun h => ?_) | refine condB (fun h => ?_) (fun h => ?_) | refine condN (fun h => ?_) (fun h => ?_) | refine condE (fun h => ?_) (fun h => ?_) | refine condV (fun h => ?_) (fun h => ?_))
      all_goals
        refine ev_le [] [(68, some (_, .cells zeroA.enc))] trivial ⟨⟨rfl, .refl _, LeP.nil 2, .refl _, .refl _, .refl _, .refl _, .refl _, .refl _, .refl _, .refl _, .refl _, LeP.nil 1, .refl _, .refl _, LeP.nil 1, LeP.nil 2, trivial⟩, trivial⟩ ?_
        (first | refine ev_fin (And.intro (by first | rfl | (simp [AV.pure, pureL]; done) | fail) ?_) | refine ev_fin0 (And.intro (by first | rfl | (simp [AV.pure, pureL]; done) | fail) ?_))
        (conv => whnf); exact And.intro (by first | rfl | (simp [AV.pure, pureL]; done) | fail) rfl
    · refine ev_loop' (W_ok 300 _ _ _ _ ?_)
      repeat' ((conv => whnf); first | refine zAndLF hbit ?_ | refine zNotLB ?_ | refine zPut ?_ | refine zIarr ?_ | refine bslP (by first | rfl | (simp [pureL, pureLL, AV.pure]; done) | fail) rfl ?_ | refine TakeC.full (by first | rfl | omega | (simp; done) | (simp; omega) | fail) ?_ | refine zBs ?_ | refine zBn ?_ | refine zBv rfl rfl ?_ | refine zN ?_ | refine zC ?_ | refine zC4 ?_ | refine zOr16 ?_ | refine zC1 ?_ | refine zByte ?_ | refine zMaxL ?_ | refine zMaxR ?_ | refine zMinL ?_ | refine zMinR ?_ | refine zShr ?_ | refine zC8 ?_ | refine zQ ?_ | refine zR ?_ | refine zS ?_ | refine zA ?_ | refine zM ?_ | refine xr rfl ?_ | refine ai rfl ?_ | refine condT ?_ | refine condF ?_ | refine condG1 ?_ | refine condG0 ?_ | refine cD ?_ | refine dD ?_ | refine cB ?_ | refine dB ?_ | refine cN ?_ | refine dN ?_ | refine cV ?_ | refine dV ?_ | refine cE ?_ | refine dE ?_ | refine condX0 ?_ | refine condX1 ?_ | refine condNot ?_ | refine condAnd ?_ | refine condOr ?_ | refine aO ?_ | refine aB ?_ | refine aR ?_ | refine aR ?_ (by simp; omega) | refine xr (by assumption) ?_ | refine ai (by assumption) ?_ | refine kV (hget) ?_ | refine kV (hflag) ?_ | refine kX [(300, _, _)] [] ⟨rfl, trivial⟩ trivial (hrd) ?_ | refine condD (fun h => ?_) (fun h => ?_) | refine condB (fun h => ?_) (fun h => ?_) | refine condN (fun h => ?_) (fun h => ?_) | refine condE (fun h => ?_) (fun h => ?_) | refine condV (fun h => ?_) (fun h => ?_))
      all_goals
        refine ev_le [] [(68, some (_, .cells zeroA.enc))] trivial ⟨⟨rfl, .refl _, LeP.nil 2, .refl _, .refl _, .refl _, .refl _, .refl _, .refl _, .refl _, .refl _, .refl _, LeP.nil 1, .refl _, .refl _, LeP.nil 1, LeP.nil 2, trivial⟩, trivial⟩ ?_
        (first | refine ev_fin (And.intro (by first | rfl | (simp [AV.pure, pureL]; done) | fail) ?_) | refine ev_fin0 (And.intro (by first | rfl | (simp [AV.pure, pureL]; done) | fail) ?_))
        (conv => whnf); exact And.intro (by first | rfl | (simp [AV.pure, pureL]; done) | fail) rfl
  | some a' =>
    rw [hs] at hrd
    simp only [valRet] at hrd
    rw [show A + 3 = (at_ + (2 + 1)).toNat from by omega, ← hsl] at hrd
    by_cases c3 : stripB c = ((flagS (k.toNat : Int)).toNat : Int)
    · have hnb : ¬ badHead ⟨c, k, false, (b.drop (A + 3)).take n, b.drop (A + 3 + n)⟩ := by simp [badHead, c3]
      have go := go c1 c2 hnb a' hs
      cases hik : isKind k.toNat
      · rw [hik] at hrd
        refine ev_loop' (W_ok 300 _ _ _ _ ?_)
        repeat' ((conv => whnf); first | refine zAndLF hbit ?_ | refine zNotLB ?_ | refine zPut ?_ | refine zIarr ?_ | refine bslP (by first | rfl | (simp [pureL, pureLL, AV.pure]; done) | fail) rfl ?_ | refine TakeC.full (by first | rfl | omega | (simp; done) | (simp; omega) | fail) ?_ | refine zBs ?_ | refine zBn ?_ | refine zBv rfl rfl ?_ | refine zN ?_ | refine zC ?_ | refine zC4 ?_ | refine zOr16 ?_ | refine zC1 ?_ | refine zByte ?_ | refine zMaxL ?_ | refine zMaxR ?_ | refine zMinL ?_ | refine zMinR ?_ | refine zShr ?_ | refine zC8 ?_ | refine zQ ?_ | refine zR ?_ | refine zS ?_ | refine zA ?_ | refine zM ?_ | refine xr rfl ?_ | refine ai rfl ?_ | refine condT ?_ | refine condF ?_ | refine condG1 ?_ | refine condG0 ?_ | refine cD ?_ | refine dD ?_ | refine cB ?_ | refine dB ?_ | refine cN ?_ | refine dN ?_ | refine cV ?_ | refine dV ?_ | refine cE ?_ | refine dE ?_ | refine condX0 ?_ | refine condX1 ?_ | refine condNot ?_ | refine condAnd ?_ | refine condOr ?_ | refine aO ?_ | refine aB ?_ | refine aR ?_ | refine aR ?_ (by simp; omega) | refine xr (by assumption) ?_ | refine ai (by assumption) ?_ | refine kV (hget) ?_ | refine kV (hflag) ?_ | refine kX [(300, _, _)] [] ⟨rfl, trivial⟩ trivial (hrd) ?_ | refine condD (fun h => ?_) (fun h => ?_) | refine condB (fun h => ?_) (fun h => ?_) | refine condN (fun h => ?_) (fun h => ?_) | refine condE (fun h => ?_) (fun h => ?_) | refine condV (fun h => ?_) (fun h => ?_))
        all_goals
          refine ev_keep [4, 8, 6, 1, 0, 7, 9] [68, 72, 70, 300] ?_
          rw [show 0 + ((k.toNat : Int)).toNat * 1 = k.toNat from by omega, metC_set]
          exact go _ _ _ _ _ _ _ _ (by omega)
      · rw [hik] at hrd
        refine ev_loop' (W_ok 300 _ _ _ _ ?_)
        repeat' ((conv => whnf); first | refine zAndLF hbit ?_ | refine zNotLB ?_ | refine zPut ?_ | refine zIarr ?_ | refine bslP (by first | rfl | (simp [pureL, pureLL, AV.pure]; done) | fail) rfl ?_ | refine TakeC.full (by first | rfl | omega | (simp; done) | (simp; omega) | fail) ?_ | refine zBs ?_ | refine zBn ?_ | refine zBv rfl rfl ?_ | refine zN ?_ | refine zC ?_ | refine zC4 ?_ | refine zOr16 ?_ | refine zC1 ?_ | refine zByte ?_ | refine zMaxL ?_ | refine zMaxR ?_ | refine zMinL ?_ | refine zMinR ?_ | refine zShr ?_ | refine zC8 ?_ | refine zQ ?_ | refine zR ?_ | refine zS ?_ | refine zA ?_ | refine zM ?_ | refine xr rfl ?_ | refine ai rfl ?_ | refine condT ?_ | refine condF ?_ | refine condG1 ?_ | refine condG0 ?_ | refine cD ?_ | refine dD ?_ | refine cB ?_ | refine dB ?_ | refine cN ?_ | refine dN ?_ | refine cV ?_ | refine dV ?_ | refine cE ?_ | refine dE ?_ | refine condX0 ?_ | refine condX1 ?_ | refine condNot ?_ | refine condAnd ?_ | refine condOr ?_ | refine aO ?_ | refine aB ?_ | refine aR ?_ | refine aR ?_ (by simp; omega) | refine xr (by assumption) ?_ | refine ai (by assumption) ?_ | refine kV (hget) ?_ | refine kV (hflag) ?_ | refine kX [(300, _, _)] [] ⟨rfl, trivial⟩ trivial (hrd) ?_ | refine condD (fun h => ?_) (fun h => ?_) | refine condB (fun h => ?_) (fun h => ?_) | refine condN (fun h => ?_) (fun h => ?_) | refine condE (fun h => ?_) (fun h => ?_) | refine condV (fun h => ?_) (fun h => ?_))
        all_goals
          refine ev_keep [4, 8, 6, 1, 0, 7, 9] [68, 72, 70, 300] ?_
          rw [show 0 + ((k.toNat : Int)).toNat * 1 = k.toNat from by omega, metC_set]
          exact go _ _ _ _ _ _ _ _ (by omega)
    · rw [h3 c1 c2 (.inl c3)]
      cases hik : isKind k.toNat
      · rw [hik] at hrd
        refine ev_loop' (W_ok 300 _ _ _ _ ?_)
        repeat' ((conv => whnf); first | refine zAndLF hbit ?_ | refine zNotLB ?_ | refine zPut ?_ | refine zIarr ?_ | refine bslP (by first | rfl | (simp [pureL, pureLL, AV.pure]; done) | fail) rfl ?_ | refine TakeC.full (by first | rfl | omega | (simp; done) | (simp; omega) | fail) ?_ | refine zBs ?_ | refine zBn ?_ | refine zBv rfl rfl ?_ | refine zN ?_ | refine zC ?_ | refine zC4 ?_ | refine zOr16 ?_ | refine zC1 ?_ | refine zByte ?_ | refine zMaxL ?_ | refine zMaxR ?_ | refine zMinL ?_ | refine zMinR ?_ | refine zShr ?_ | refine zC8 ?_ | refine zQ ?_ | refine zR ?_ | refine zS ?_ | refine zA ?_ | refine zM ?_ | refine xr rfl ?_ | refine ai rfl ?_ | refine condT ?_ | refine condF ?_ | refine condG1 ?_ | refine condG0 ?_ | refine cD ?_ | refine dD ?_ | refine cB ?_ | refine dB ?_ | refine cN ?_ | refine dN ?_ | refine cV ?_ | refine dV ?_ | refine cE ?_ | refine dE ?_ | refine condX0 ?_ | refine condX1 ?_ | refine condNot ?_ | refine condAnd ?_ | refine condOr ?_ | refine aO ?_ | refine aB ?_ | refine aR ?_ | refine aR ?_ (by simp; omega) | refine xr (by assumption) ?_ | refine ai (by assumption) ?_ | refine kV (hget) ?_ | refine kV (hflag) ?_ | refine kX [(300, _, _)] [] ⟨rfl, trivial⟩ trivial (hrd) ?_ | refine condD (fun h => ?_) (fun h => ?_) | refine condB (fun h => ?_) (fun h => ?_) | refine condN (fun h => ?_) (fun h => ?_) | refine condE (fun h => ?_) (fun h => ?_) | refine condV (fun h => ?_) (fun h => ?_))
        all_goals
          refine ev_le [] [(68, some (_, .cells zeroA.enc))] trivial ⟨⟨rfl, .refl _, LeP.nil 2, .refl _, .refl _, .refl _, .refl _, .refl _, .refl _, .refl _, .refl _, .refl _, LeP.nil 1, .refl _, .refl _, LeP.nil 1, LeP.nil 2, trivial⟩, trivial⟩ ?_
          (first | refine ev_fin (And.intro (by first | rfl | (simp [AV.pure, pureL]; done) | fail) ?_) | refine ev_fin0 (And.intro (by first | rfl | (simp [AV.pure, pureL]; done) | fail) ?_))
          (conv => whnf); exact And.intro (by first | rfl | (simp [AV.pure, pureL]; done) | fail) rfl
      · rw [hik] at hrd
        refine ev_loop' (W_ok 300 _ _ _ _ ?_)
        repeat' ((conv => whnf); first | refine zAndLF hbit ?_ | refine zNotLB ?_ | refine zPut ?_ | refine zIarr ?_ | refine bslP (by first | rfl | (simp [pureL, pureLL, AV.pure]; done) | fail) rfl ?_ | refine TakeC.full (by first | rfl | omega | (simp; done) | (simp; omega) | fail) ?_ | refine zBs ?_ | refine zBn ?_ | refine zBv rfl rfl ?_ | refine zN ?_ | refine zC ?_ | refine zC4 ?_ | refine zOr16 ?_ | refine zC1 ?_ | refine zByte ?_ | refine zMaxL ?_ | refine zMaxR ?_ | refine zMinL ?_ | refine zMinR ?_ | refine zShr ?_ | refine zC8 ?_ | refine zQ ?_ | refine zR ?_ | refine zS ?_ | refine zA ?_ | refine zM ?_ | refine xr rfl ?_ | refine ai rfl ?_ | refine condT ?_ | refine condF ?_ | refine condG1 ?_ | refine condG0 ?_ | refine cD ?_ | refine dD ?_ | refine cB ?_ | refine dB ?_ | refine cN ?_ | refine dN ?_ | refine cV ?_ | refine dV ?_ | refine cE ?_ | refine dE ?_ | refine condX0 ?_ | refine condX1 ?_ | refine condNot ?_ | refine condAnd ?_ | refine condOr ?_ | refine aO ?_ | refine aB ?_ | refine aR ?_ | refine aR ?_ (by simp; omega) | refine xr (by assumption) ?_ | refine ai (by assumption) ?_ | refine kV (hget) ?_ | refine kV (hflag) ?_ | refine kX [(300, _, _)] [] ⟨rfl, trivial⟩ trivial (hrd) ?_ | refine condD (fun h => ?_) (fun h => ?_) | refine condB (fun h => ?_) (fun h => ?_) | refine condN (fun h => ?_) (fun h => ?_) | refine condE (fun h => ?_) (fun h => ?_) | refine condV (fun h => ?_) (fun h => ?_))
        all_goals
          refine ev_le [] [(68, some (_, .cells zeroA.enc))] trivial ⟨⟨rfl, .refl _, LeP.nil 2, .refl _, .refl _, .refl _, .refl _, .refl _, .refl _, .refl _, .refl _, .refl _, LeP.nil 1, .refl _, .refl _, LeP.nil 1, LeP.nil 2, trivial⟩, trivial⟩ ?_
          (first | refine ev_fin (And.intro (by first | rfl | (simp [AV.pure, pureL]; done) | fail) ?_) | refine ev_fin0 (And.intro (by first | rfl | (simp [AV.pure, pureL]; done) | fail) ?_))
          (conv => whnf); exact And.intro (by first | rfl | (simp [AV.pure, pureL]; done) | fail) rfl
end Go.AM.IR
