/- What the functions of this program give, on the abstract machine. -/
import Derived.Test.YtgpgpdgbocmheaaGreatDoorDataA
set_option linter.unusedVariables false
set_option linter.unusedSimpArgs false
set_option maxHeartbeats 4000000
set_option maxRecDepth 20000
namespace Go.AM.IR
theorem dec_all : (List.range 256).all (fun n => okRun (run G 400 (f338.start [.int .i64 (n : Int)] [])) (itoaK n)) = true := by kernel_rfl
theorem dec_gives338 {n : Nat} (h : n < 256) : Gives G 338 [.int .i64 (n : Int)] [] ⟨.str (itoaK n), []⟩ :=
  gives_run 400 rfl rfl (okRun_eq (List.all_eq_true.1 dec_all n (List.mem_range.2 h)))
theorem dec_gives337 {n : Nat} (h : n < 256) : Gives G 337 [.int .i64 (n : Int)] [] ⟨.str (itoaK n), []⟩ := by
  have hi := itoa_gives246 (n := (n : Int)) (by omega) (by omega)
  generalize itoaK (n : Int) = t at *
  refine gives_code (F := f337) rfl rfl (W_ok 300 _ _ _ _ ?_)
  repeat' ((conv => whnf); first | refine bslP (by first | rfl | (simp [pureL, pureLL, AV.pure]; done) | fail) rfl ?_ | refine TakeC.full (by first | rfl | omega | (simp; done) | (simp; omega) | fail) ?_ | refine zBs ?_ | refine zBn ?_ | refine zBv rfl rfl ?_ | refine zN ?_ | refine zC ?_ | refine zC4 ?_ | refine zOr16 ?_ | refine zC1 ?_ | refine zByte ?_ | refine zMaxL ?_ | refine zMaxR ?_ | refine zMinL ?_ | refine zMinR ?_ | refine zShr ?_ | refine zC8 ?_ | refine zQ ?_ | refine zR ?_ | refine zS ?_ | refine zA ?_ | refine zM ?_ | refine xr rfl ?_ | refine ai rfl ?_ | refine condT ?_ | refine condF ?_ | refine condG1 ?_ | refine condG0 ?_ | refine cD ?_ | refine dD ?_ | refine cB ?_ | refine dB ?_ | refine cN ?_ | refine dN ?_ | refine cV ?_ | refine dV ?_ | refine cE ?_ | refine dE ?_ | refine condX0 ?_ | refine condX1 ?_ | refine condNot ?_ | refine condAnd ?_ | refine condOr ?_ | refine aO ?_ | refine aB ?_ | refine aR ?_ | refine aR ?_ (by simp; omega) | refine xr (by assumption) ?_ | refine ai (by assumption) ?_ | refine kV (hi) ?_ | refine condD (fun h => ?_) (fun h => ?_) | refine condB (fun h => ?_) (fun h => ?_) | refine condN (fun h => ?_) (fun h => ?_) | refine condE (fun h => ?_) (fun h => ?_) | refine condV (fun h => ?_) (fun h => ?_))
  (first | refine ev_fin (And.intro (by first | rfl | (simp [AV.pure, pureL]; done) | fail) ?_) | refine ev_fin0 (And.intro (by first | rfl | (simp [AV.pure, pureL]; done) | fail) ?_)); rfl
theorem idx_at {s done rest : List UInt8} {x : UInt8} {n : Int} (e : s = done ++ x :: rest) (hn : n = done.length) : s[n.toNat]? = some x := by
  rw [e, hn]; simp
theorem canon_loop347 (s : List UInt8) (hs : s.length < 2 ^ 40) : ∀ (rest done : List UInt8) (T : List (Nat × AV)) (H : Heap) (c : Nat) (n : Int) (e : s = done ++ rest) (hn : n = done.length),
   Ev G ⟨f347x9LH, ⟨(18, .int .i64 n) :: (0, .str s) :: (17, .int .i64 s.length) :: T, H, c⟩, [.t 2], 0⟩ ⟨.bool (rest.all dig), []⟩
  | [], done, T, H, c, n, e, hn => by
    have hd : s.length = done.length := by simp [e]
    refine ev_loop' (W_ok 300 _ _ _ _ ?_)
    repeat' ((conv => whnf); first | refine bslP (by first | rfl | (simp [pureL, pureLL, AV.pure]; done) | fail) rfl ?_ | refine TakeC.full (by first | rfl | omega | (simp; done) | (simp; omega) | fail) ?_ | refine zBs ?_ | refine zBn ?_ | refine zBv rfl rfl ?_ | refine zN ?_ | refine zC ?_ | refine zC4 ?_ | refine zOr16 ?_ | refine zC1 ?_ | refine zByte ?_ | refine zMaxL ?_ | refine zMaxR ?_ | refine zMinL ?_ | refine zMinR ?_ | refine zShr ?_ | refine zC8 ?_ | refine zQ ?_ | refine zR ?_ | refine zS ?_ | refine zA ?_ | refine zM ?_ | refine xr rfl ?_ | refine ai rfl ?_ | refine condT ?_ | refine condF ?_ | refine condG1 ?_ | refine condG0 ?_ | refine cD ?_ | refine dD ?_ | refine cB ?_ | refine dB ?_ | refine cN ?_ | refine dN ?_ | refine cV ?_ | refine dV ?_ | refine cE ?_ | refine dE ?_ | refine condX0 ?_ | refine condX1 ?_ | refine condNot ?_ | refine condAnd ?_ | refine condOr ?_ | refine aO ?_ | refine aB ?_ | refine aR ?_ | refine aR ?_ (by simp; omega) | refine xr (by assumption) ?_ | refine ai (by assumption) ?_ | refine condD (fun h => ?_) (fun h => ?_) | refine condB (fun h => ?_) (fun h => ?_) | refine condN (fun h => ?_) (fun h => ?_) | refine condE (fun h => ?_) (fun h => ?_) | refine condV (fun h => ?_) (fun h => ?_))
    (first | refine ev_fin (And.intro (by first | rfl | (simp [AV.pure, pureL]; done) | fail) ?_) | refine ev_fin0 (And.intro (by first | rfl | (simp [AV.pure, pureL]; done) | fail) ?_)); rfl
  | x :: rest, done, T, H, c, n, e, hn => by
    have hd : s.length = done.length + (rest.length + 1) := by simp [e]
    have hb := idx_at e hn
    rw [List.all_cons]
    by_cases h1 : 48 ≤ x.toNat
    · by_cases h2 : x.toNat ≤ 57
      · rw [show dig x = true from by simp [dig, h1, h2], Bool.true_and]
        refine ev_loop' (W_ok 300 _ _ _ _ ?_)
        repeat' ((conv => whnf); first | refine zIstr ?_ hb (by omega) | refine bslP (by first | rfl | (simp [pureL, pureLL, AV.pure]; done) | fail) rfl ?_ | refine TakeC.full (by first | rfl | omega | (simp; done) | (simp; omega) | fail) ?_ | refine zBs ?_ | refine zBn ?_ | refine zBv rfl rfl ?_ | refine zN ?_ | refine zC ?_ | refine zC4 ?_ | refine zOr16 ?_ | refine zC1 ?_ | refine zByte ?_ | refine zMaxL ?_ | refine zMaxR ?_ | refine zMinL ?_ | refine zMinR ?_ | refine zShr ?_ | refine zC8 ?_ | refine zQ ?_ | refine zR ?_ | refine zS ?_ | refine zA ?_ | refine zM ?_ | refine xr rfl ?_ | refine ai rfl ?_ | refine condT ?_ | refine condF ?_ | refine condG1 ?_ | refine condG0 ?_ | refine cD ?_ | refine dD ?_ | refine cB ?_ | refine dB ?_ | refine cN ?_ | refine dN ?_ | refine cV ?_ | refine dV ?_ | refine cE ?_ | refine dE ?_ | refine condX0 ?_ | refine condX1 ?_ | refine condNot ?_ | refine condAnd ?_ | refine condOr ?_ | refine aO ?_ | refine aB ?_ | refine aR ?_ | refine aR ?_ (by simp; omega) | refine xr (by assumption) ?_ | refine ai (by assumption) ?_ | refine condD (fun h => ?_) (fun h => ?_) | refine condB (fun h => ?_) (fun h => ?_) | refine condN (fun h => ?_) (fun h => ?_) | refine condE (fun h => ?_) (fun h => ?_) | refine condV (fun h => ?_) (fun h => ?_))
        refine ev_keep [18, 0, 17] [] ?_
        exact canon_loop347 s hs rest (done ++ [x]) _ _ _ (n + 1) (by simp [e]) (by simp [hn])
      · rw [show dig x = false from by simp [dig, h2], Bool.false_and]
        refine ev_loop' (W_ok 300 _ _ _ _ ?_)
        repeat' ((conv => whnf); first | refine zIstr ?_ hb (by omega) | refine bslP (by first | rfl | (simp [pureL, pureLL, AV.pure]; done) | fail) rfl ?_ | refine TakeC.full (by first | rfl | omega | (simp; done) | (simp; omega) | fail) ?_ | refine zBs ?_ | refine zBn ?_ | refine zBv rfl rfl ?_ | refine zN ?_ | refine zC ?_ | refine zC4 ?_ | refine zOr16 ?_ | refine zC1 ?_ | refine zByte ?_ | refine zMaxL ?_ | refine zMaxR ?_ | refine zMinL ?_ | refine zMinR ?_ | refine zShr ?_ | refine zC8 ?_ | refine zQ ?_ | refine zR ?_ | refine zS ?_ | refine zA ?_ | refine zM ?_ | refine xr rfl ?_ | refine ai rfl ?_ | refine condT ?_ | refine condF ?_ | refine condG1 ?_ | refine condG0 ?_ | refine cD ?_ | refine dD ?_ | refine cB ?_ | refine dB ?_ | refine cN ?_ | refine dN ?_ | refine cV ?_ | refine dV ?_ | refine cE ?_ | refine dE ?_ | refine condX0 ?_ | refine condX1 ?_ | refine condNot ?_ | refine condAnd ?_ | refine condOr ?_ | refine aO ?_ | refine aB ?_ | refine aR ?_ | refine aR ?_ (by simp; omega) | refine xr (by assumption) ?_ | refine ai (by assumption) ?_ | refine condD (fun h => ?_) (fun h => ?_) | refine condB (fun h => ?_) (fun h => ?_) | refine condN (fun h => ?_) (fun h => ?_) | refine condE (fun h => ?_) (fun h => ?_) | refine condV (fun h => ?_) (fun h => ?_))
        (first | refine ev_fin (And.intro (by first | rfl | (simp [AV.pure, pureL]; done) | fail) ?_) | refine ev_fin0 (And.intro (by first | rfl | (simp [AV.pure, pureL]; done) | fail) ?_)); rfl
    · rw [show dig x = false from by simp [dig, h1], Bool.false_and]
      refine ev_loop' (W_ok 300 _ _ _ _ ?_)
      repeat' ((conv => whnf); first | refine zIstr ?_ hb (by omega) | refine bslP (by first | rfl | (simp [pureL, pureLL, AV.pure]; done) | fail) rfl ?_ | refine TakeC.full (by first | rfl | omega | (simp; done) | (simp; omega) | fail) ?_ | refine zBs ?_ | refine zBn ?_ | refine zBv rfl rfl ?_ | refine zN ?_ | refine zC ?_ | refine zC4 ?_ | refine zOr16 ?_ | refine zC1 ?_ | refine zByte ?_ | refine zMaxL ?_ | refine zMaxR ?_ | refine zMinL ?_ | refine zMinR ?_ | refine zShr ?_ | refine zC8 ?_ | refine zQ ?_ | refine zR ?_ | refine zS ?_ | refine zA ?_ | refine zM ?_ | refine xr rfl ?_ | refine ai rfl ?_ | refine condT ?_ | refine condF ?_ | refine condG1 ?_ | refine condG0 ?_ | refine cD ?_ | refine dD ?_ | refine cB ?_ | refine dB ?_ | refine cN ?_ | refine dN ?_ | refine cV ?_ | refine dV ?_ | refine cE ?_ | refine dE ?_ | refine condX0 ?_ | refine condX1 ?_ | refine condNot ?_ | refine condAnd ?_ | refine condOr ?_ | refine aO ?_ | refine aB ?_ | refine aR ?_ | refine aR ?_ (by simp; omega) | refine xr (by assumption) ?_ | refine ai (by assumption) ?_ | refine condD (fun h => ?_) (fun h => ?_) | refine condB (fun h => ?_) (fun h => ?_) | refine condN (fun h => ?_) (fun h => ?_) | refine condE (fun h => ?_) (fun h => ?_) | refine condV (fun h => ?_) (fun h => ?_))
      (first | refine ev_fin (And.intro (by first | rfl | (simp [AV.pure, pureL]; done) | fail) ?_) | refine ev_fin0 (And.intro (by first | rfl | (simp [AV.pure, pureL]; done) | fail) ?_)); rfl
theorem canon_gives347 (s : List UInt8) (hs : s.length < 2 ^ 40) : Gives G 347 [.str s] [] ⟨.bool (canon s), []⟩ := by
  cases s with
  | nil =>
    have z : ∀ {kv : AV → Prop}, kv (.bool true) → ∃ v, binA .eql (.str []) (.str []) = some v ∧ kv v := fun h => ⟨_, rfl, h⟩
    refine gives_code (F := f347) rfl rfl (W_ok 300 _ _ _ _ ?_)
    repeat' ((conv => whnf); first | refine z ?_ | refine bslP (by first | rfl | (simp [pureL, pureLL, AV.pure]; done) | fail) rfl ?_ | refine TakeC.full (by first | rfl | omega | (simp; done) | (simp; omega) | fail) ?_ | refine zBs ?_ | refine zBn ?_ | refine zBv rfl rfl ?_ | refine zN ?_ | refine zC ?_ | refine zC4 ?_ | refine zOr16 ?_ | refine zC1 ?_ | refine zByte ?_ | refine zMaxL ?_ | refine zMaxR ?_ | refine zMinL ?_ | refine zMinR ?_ | refine zShr ?_ | refine zC8 ?_ | refine zQ ?_ | refine zR ?_ | refine zS ?_ | refine zA ?_ | refine zM ?_ | refine xr rfl ?_ | refine ai rfl ?_ | refine condT ?_ | refine condF ?_ | refine condG1 ?_ | refine condG0 ?_ | refine cD ?_ | refine dD ?_ | refine cB ?_ | refine dB ?_ | refine cN ?_ | refine dN ?_ | refine cV ?_ | refine dV ?_ | refine cE ?_ | refine dE ?_ | refine condX0 ?_ | refine condX1 ?_ | refine condNot ?_ | refine condAnd ?_ | refine condOr ?_ | refine aO ?_ | refine aB ?_ | refine aR ?_ | refine aR ?_ (by simp; omega) | refine xr (by assumption) ?_ | refine ai (by assumption) ?_ | refine condD (fun h => ?_) (fun h => ?_) | refine condB (fun h => ?_) (fun h => ?_) | refine condN (fun h => ?_) (fun h => ?_) | refine condE (fun h => ?_) (fun h => ?_) | refine condV (fun h => ?_) (fun h => ?_))
    (first | refine ev_fin (And.intro (by first | rfl | (simp [AV.pure, pureL]; done) | fail) ?_) | refine ev_fin0 (And.intro (by first | rfl | (simp [AV.pure, pureL]; done) | fail) ?_)); rfl
  | cons b r =>
    have z : ∀ {kv : AV → Prop}, kv (.bool false) → ∃ v, binA .eql (.str (b :: r)) (.str []) = some v ∧ kv v := fun h => ⟨_, rfl, h⟩
    have hb : (b :: r)[(0 : Int).toNat]? = some b := rfl
    have hl : (b :: r).length = r.length + 1 := rfl
    cases r with
    | nil =>
      rw [show canon [b] = [b].all dig from by simp [canon]]
      refine gives_code (F := f347) rfl rfl (W_ok 300 _ _ _ _ ?_)
      repeat' ((conv => whnf); first | refine z ?_ | refine bslP (by first | rfl | (simp [pureL, pureLL, AV.pure]; done) | fail) rfl ?_ | refine TakeC.full (by first | rfl | omega | (simp; done) | (simp; omega) | fail) ?_ | refine zBs ?_ | refine zBn ?_ | refine zBv rfl rfl ?_ | refine zN ?_ | refine zC ?_ | refine zC4 ?_ | refine zOr16 ?_ | refine zC1 ?_ | refine zByte ?_ | refine zMaxL ?_ | refine zMaxR ?_ | refine zMinL ?_ | refine zMinR ?_ | refine zShr ?_ | refine zC8 ?_ | refine zQ ?_ | refine zR ?_ | refine zS ?_ | refine zA ?_ | refine zM ?_ | refine xr rfl ?_ | refine ai rfl ?_ | refine condT ?_ | refine condF ?_ | refine condG1 ?_ | refine condG0 ?_ | refine cD ?_ | refine dD ?_ | refine cB ?_ | refine dB ?_ | refine cN ?_ | refine dN ?_ | refine cV ?_ | refine dV ?_ | refine cE ?_ | refine dE ?_ | refine condX0 ?_ | refine condX1 ?_ | refine condNot ?_ | refine condAnd ?_ | refine condOr ?_ | refine aO ?_ | refine aB ?_ | refine aR ?_ | refine aR ?_ (by simp; omega) | refine xr (by assumption) ?_ | refine ai (by assumption) ?_ | refine condD (fun h => ?_) (fun h => ?_) | refine condB (fun h => ?_) (fun h => ?_) | refine condN (fun h => ?_) (fun h => ?_) | refine condE (fun h => ?_) (fun h => ?_) | refine condV (fun h => ?_) (fun h => ?_))
      refine ev_keep [18, 0, 17] [] ?_
      exact canon_loop347 [b] hs [b] [] _ _ _ 0 rfl rfl
    | cons d q =>
      have hl2 : (b :: d :: q).length = q.length + 2 := rfl
      by_cases hz : b = 48
      · subst hz
        rw [show canon (48 :: d :: q) = false from by simp [canon]]
        refine gives_code (F := f347) rfl rfl (W_ok 300 _ _ _ _ ?_)
        repeat' ((conv => whnf); first | refine z ?_ | refine zIstr (b := 48) ?_ hb (by omega) | refine bslP (by first | rfl | (simp [pureL, pureLL, AV.pure]; done) | fail) rfl ?_ | refine TakeC.full (by first | rfl | omega | (simp; done) | (simp; omega) | fail) ?_ | refine zBs ?_ | refine zBn ?_ | refine zBv rfl rfl ?_ | refine zN ?_ | refine zC ?_ | refine zC4 ?_ | refine zOr16 ?_ | refine zC1 ?_ | refine zByte ?_ | refine zMaxL ?_ | refine zMaxR ?_ | refine zMinL ?_ | refine zMinR ?_ | refine zShr ?_ | refine zC8 ?_ | refine zQ ?_ | refine zR ?_ | refine zS ?_ | refine zA ?_ | refine zM ?_ | refine xr rfl ?_ | refine ai rfl ?_ | refine condT ?_ | refine condF ?_ | refine condG1 ?_ | refine condG0 ?_ | refine cD ?_ | refine dD ?_ | refine cB ?_ | refine dB ?_ | refine cN ?_ | refine dN ?_ | refine cV ?_ | refine dV ?_ | refine cE ?_ | refine dE ?_ | refine condX0 ?_ | refine condX1 ?_ | refine condNot ?_ | refine condAnd ?_ | refine condOr ?_ | refine aO ?_ | refine aB ?_ | refine aR ?_ | refine aR ?_ (by simp; omega) | refine xr (by assumption) ?_ | refine ai (by assumption) ?_ | refine condD (fun h => ?_) (fun h => ?_) | refine condB (fun h => ?_) (fun h => ?_) | refine condN (fun h => ?_) (fun h => ?_) | refine condE (fun h => ?_) (fun h => ?_) | refine condV (fun h => ?_) (fun h => ?_))
        (first | refine ev_fin (And.intro (by first | rfl | (simp [AV.pure, pureL]; done) | fail) ?_) | refine ev_fin0 (And.intro (by first | rfl | (simp [AV.pure, pureL]; done) | fail) ?_)); rfl
      · have hz2 : ¬ (b.toNat : Int) = 48 := by
          intro e; apply hz; apply UInt8.toNat_inj.1
          show b.toNat = 48
          omega
        rw [show canon (b :: d :: q) = (b :: d :: q).all dig from by simp [canon, hz]]
        refine gives_code (F := f347) rfl rfl (W_ok 300 _ _ _ _ ?_)
        repeat' ((conv => whnf); first | refine z ?_ | refine zIstr (b := b) ?_ hb (by omega) | refine bslP (by first | rfl | (simp [pureL, pureLL, AV.pure]; done) | fail) rfl ?_ | refine TakeC.full (by first | rfl | omega | (simp; done) | (simp; omega) | fail) ?_ | refine zBs ?_ | refine zBn ?_ | refine zBv rfl rfl ?_ | refine zN ?_ | refine zC ?_ | refine zC4 ?_ | refine zOr16 ?_ | refine zC1 ?_ | refine zByte ?_ | refine zMaxL ?_ | refine zMaxR ?_ | refine zMinL ?_ | refine zMinR ?_ | refine zShr ?_ | refine zC8 ?_ | refine zQ ?_ | refine zR ?_ | refine zS ?_ | refine zA ?_ | refine zM ?_ | refine xr rfl ?_ | refine ai rfl ?_ | refine condT ?_ | refine condF ?_ | refine condG1 ?_ | refine condG0 ?_ | refine cD ?_ | refine dD ?_ | refine cB ?_ | refine dB ?_ | refine cN ?_ | refine dN ?_ | refine cV ?_ | refine dV ?_ | refine cE ?_ | refine dE ?_ | refine condX0 ?_ | refine condX1 ?_ | refine condNot ?_ | refine condAnd ?_ | refine condOr ?_ | refine aO ?_ | refine aB ?_ | refine aR ?_ | refine aR ?_ (by simp; omega) | refine xr (by assumption) ?_ | refine ai (by assumption) ?_ | refine condD (fun h => ?_) (fun h => ?_) | refine condB (fun h => ?_) (fun h => ?_) | refine condN (fun h => ?_) (fun h => ?_) | refine condE (fun h => ?_) (fun h => ?_) | refine condV (fun h => ?_) (fun h => ?_))
        refine ev_keep [18, 0, 17] [] ?_
        exact canon_loop347 (b :: d :: q) hs (b :: d :: q) [] _ _ _ 0 rfl rfl
def nfR (p : Int × Int) : Ret := ⟨.tup [.int .i64 p.1, .int .i64 p.2], []⟩
def numE (most : Int) (o : Option Nat) : Int × Int := match o with
  | none => (0, 5)
  | some n => if (n : Int) > most then (0, 5) else ((n : Int), 0)
theorem num_loop346 (s : List UInt8) (hs : s.length < 2 ^ 40) (most : Int) : ∀ (rest done : List UInt8) (a : Nat) (T : List (Nat × AV)) (H : Heap) (c : Nat) (n A : Int) (e : s = done ++ rest) (hn : n = done.length) (hA : A = a) (ha : a ≤ 9223372036854775807) (hd : rest.all dig = true),
   Ev G ⟨f346x12LH, ⟨(14, .int .i64 n) :: (6, .int .i64 A) :: (0, .str s) :: (1, .int .i64 most) :: (13, .int .i64 s.length) :: T, H, c⟩, [.t 4, .t 5], 0⟩ (nfR (numE most (foldN rest a)))
  | [], done, a, T, H, c, n, A, e, hn, hA, ha, hd => by
    have hd : s.length = done.length := by simp [e]
    rw [foldN, numE]
    by_cases hm : (a : Int) > most
    · rw [if_pos hm]
      refine ev_loop' (W_ok 300 _ _ _ _ ?_)
      repeat' ((conv => whnf); first | refine bslP (by first | rfl | (simp [pureL, pureLL, AV.pure]; done) | fail) rfl ?_ | refine TakeC.full (by first | rfl | omega | (simp; done) | (simp; omega) | fail) ?_ | refine zBs ?_ | refine zBn ?_ | refine zBv rfl rfl ?_ | refine zN ?_ | refine zC ?_ | refine zC4 ?_ | refine zOr16 ?_ | refine zC1 ?_ | refine zByte ?_ | refine zMaxL ?_ | refine zMaxR ?_ | refine zMinL ?_ | refine zMinR ?_ | refine zShr ?_ | refine zC8 ?_ | refine zQ ?_ | refine zR ?_ | refine zS ?_ | refine zA ?_ | refine zM ?_ | refine xr rfl ?_ | refine ai rfl ?_ | refine condT ?_ | refine condF ?_ | refine condG1 ?_ | refine condG0 ?_ | refine cD ?_ | refine dD ?_ | refine cB ?_ | refine dB ?_ | refine cN ?_ | refine dN ?_ | refine cV ?_ | refine dV ?_ | refine cE ?_ | refine dE ?_ | refine condX0 ?_ | refine condX1 ?_ | refine condNot ?_ | refine condAnd ?_ | refine condOr ?_ | refine aO ?_ | refine aB ?_ | refine aR ?_ | refine aR ?_ (by simp; omega) | refine xr (by assumption) ?_ | refine ai (by assumption) ?_ | refine condD (fun h => ?_) (fun h => ?_) | refine condB (fun h => ?_) (fun h => ?_) | refine condN (fun h => ?_) (fun h => ?_) | refine condE (fun h => ?_) (fun h => ?_) | refine condV (fun h => ?_) (fun h => ?_))
      (first | refine ev_fin (And.intro (by first | rfl | (simp [AV.pure, pureL]; done) | fail) ?_) | refine ev_fin0 (And.intro (by first | rfl | (simp [AV.pure, pureL]; done) | fail) ?_)); rfl
    · rw [if_neg hm]
      refine ev_loop' (W_ok 300 _ _ _ _ ?_)
      repeat' ((conv => whnf); first | refine bslP (by first | rfl | (simp [pureL, pureLL, AV.pure]; done) | fail) rfl ?_ | refine TakeC.full (by first | rfl | omega | (simp; done) | (simp; omega) | fail) ?_ | refine zBs ?_ | refine zBn ?_ | refine zBv rfl rfl ?_ | refine zN ?_ | refine zC ?_ | refine zC4 ?_ | refine zOr16 ?_ | refine zC1 ?_ | refine zByte ?_ | refine zMaxL ?_ | refine zMaxR ?_ | refine zMinL ?_ | refine zMinR ?_ | refine zShr ?_ | refine zC8 ?_ | refine zQ ?_ | refine zR ?_ | refine zS ?_ | refine zA ?_ | refine zM ?_ | refine xr rfl ?_ | refine ai rfl ?_ | refine condT ?_ | refine condF ?_ | refine condG1 ?_ | refine condG0 ?_ | refine cD ?_ | refine dD ?_ | refine cB ?_ | refine dB ?_ | refine cN ?_ | refine dN ?_ | refine cV ?_ | refine dV ?_ | refine cE ?_ | refine dE ?_ | refine condX0 ?_ | refine condX1 ?_ | refine condNot ?_ | refine condAnd ?_ | refine condOr ?_ | refine aO ?_ | refine aB ?_ | refine aR ?_ | refine aR ?_ (by simp; omega) | refine xr (by assumption) ?_ | refine ai (by assumption) ?_ | refine condD (fun h => ?_) (fun h => ?_) | refine condB (fun h => ?_) (fun h => ?_) | refine condN (fun h => ?_) (fun h => ?_) | refine condE (fun h => ?_) (fun h => ?_) | refine condV (fun h => ?_) (fun h => ?_))
      (first | refine ev_fin (And.intro (by first | rfl | (simp [AV.pure, pureL]; done) | fail) ?_) | refine ev_fin0 (And.intro (by first | rfl | (simp [AV.pure, pureL]; done) | fail) ?_))
      rw [hA]; rfl
  | x :: rest, done, a, T, H, c, n, A, e, hn, hA, ha, hdg => by
    have hd : s.length = done.length + (rest.length + 1) := by simp [e]
    have hb := idx_at e hn
    simp only [List.all_cons, Bool.and_eq_true] at hdg
    obtain ⟨h1, h2⟩ : 48 ≤ x.toNat ∧ x.toNat ≤ 57 := by have := hdg.1; simpa [dig] using this
    have hv : dval x < 10 := by unfold dval; omega
    rw [foldN]
    by_cases ho : a > (9223372036854775807 - dval x) / 10
    · rw [if_pos ho, numE]
      have ho2 : A > (9223372036854775807 - ((dval x : Nat) : Int)) / 10 := by omega
      refine ev_loop' (W_ok 300 _ _ _ _ ?_)
      repeat' ((conv => whnf); first | refine zIstr ?_ hb (by omega) | refine zSub48 ?_ h1 | refine bslP (by first | rfl | (simp [pureL, pureLL, AV.pure]; done) | fail) rfl ?_ | refine TakeC.full (by first | rfl | omega | (simp; done) | (simp; omega) | fail) ?_ | refine zBs ?_ | refine zBn ?_ | refine zBv rfl rfl ?_ | refine zN ?_ | refine zC ?_ | refine zC4 ?_ | refine zOr16 ?_ | refine zC1 ?_ | refine zByte ?_ | refine zMaxL ?_ | refine zMaxR ?_ | refine zMinL ?_ | refine zMinR ?_ | refine zShr ?_ | refine zC8 ?_ | refine zQ ?_ | refine zR ?_ | refine zS ?_ | refine zA ?_ | refine zM ?_ | refine xr rfl ?_ | refine ai rfl ?_ | refine condT ?_ | refine condF ?_ | refine condG1 ?_ | refine condG0 ?_ | refine cD ?_ | refine dD ?_ | refine cB ?_ | refine dB ?_ | refine cN ?_ | refine dN ?_ | refine cV ?_ | refine dV ?_ | refine cE ?_ | refine dE ?_ | refine condX0 ?_ | refine condX1 ?_ | refine condNot ?_ | refine condAnd ?_ | refine condOr ?_ | refine aO ?_ | refine aB ?_ | refine aR ?_ | refine aR ?_ (by simp; omega) | refine xr (by assumption) ?_ | refine ai (by assumption) ?_ | refine condD (fun h => ?_) (fun h => ?_) | refine condB (fun h => ?_) (fun h => ?_) | refine condN (fun h => ?_) (fun h => ?_) | refine condE (fun h => ?_) (fun h => ?_) | refine condV (fun h => ?_) (fun h => ?_))
      (first | refine ev_fin (And.intro (by first | rfl | (simp [AV.pure, pureL]; done) | fail) ?_) | refine ev_fin0 (And.intro (by first | rfl | (simp [AV.pure, pureL]; done) | fail) ?_)); rfl
    · rw [if_neg ho]
      have ho2 : ¬ A > (9223372036854775807 - ((dval x : Nat) : Int)) / 10 := by omega
      refine ev_loop' (W_ok 300 _ _ _ _ ?_)
      repeat' ((conv => whnf); first | refine zIstr ?_ hb (by omega) | refine zSub48 ?_ h1 | refine bslP (by first | rfl | (simp [pureL, pureLL, AV.pure]; done) | fail) rfl ?_ | refine TakeC.full (by first | rfl | omega | (simp; done) | (simp; omega) | fail) ?_ | refine zBs ?_ | refine zBn ?_ | refine zBv rfl rfl ?_ | refine zN ?_ | refine zC ?_ | refine zC4 ?_ | refine zOr16 ?_ | refine zC1 ?_ | refine zByte ?_ | refine zMaxL ?_ | refine zMaxR ?_ | refine zMinL ?_ | refine zMinR ?_ | refine zShr ?_ | refine zC8 ?_ | refine zQ ?_ | refine zR ?_ | refine zS ?_ | refine zA ?_ | refine zM ?_ | refine xr rfl ?_ | refine ai rfl ?_ | refine condT ?_ | refine condF ?_ | refine condG1 ?_ | refine condG0 ?_ | refine cD ?_ | refine dD ?_ | refine cB ?_ | refine dB ?_ | refine cN ?_ | refine dN ?_ | refine cV ?_ | refine dV ?_ | refine cE ?_ | refine dE ?_ | refine condX0 ?_ | refine condX1 ?_ | refine condNot ?_ | refine condAnd ?_ | refine condOr ?_ | refine aO ?_ | refine aB ?_ | refine aR ?_ | refine aR ?_ (by simp; omega) | refine xr (by assumption) ?_ | refine ai (by assumption) ?_ | refine condD (fun h => ?_) (fun h => ?_) | refine condB (fun h => ?_) (fun h => ?_) | refine condN (fun h => ?_) (fun h => ?_) | refine condE (fun h => ?_) (fun h => ?_) | refine condV (fun h => ?_) (fun h => ?_))
      refine ev_keep [14, 6, 0, 1, 13] [] ?_
      exact num_loop346 s hs most rest (done ++ [x]) (10 * a + dval x) _ _ _ (n + 1) (10 * A + (dval x : Nat)) (by simp [e]) (by simp [hn]) (by omega) (by omega) hdg.2
theorem num_gives346 (s : List UInt8) (hs : s.length < 2 ^ 40) (most : Int) : Gives G 346 [.str s, .int .i64 most] [] (nfR (fNum most s)) := by
  have hc := canon_gives347 s hs
  unfold fNum
  cases hq : canon s
  · rw [hq] at hc
    rw [if_neg (by simp)]
    refine gives_code (F := f346) rfl rfl (W_ok 300 _ _ _ _ ?_)
    repeat' ((conv => whnf); first | refine bslP (by first | rfl | (simp [pureL, pureLL, AV.pure]; done) | fail) rfl ?_ | refine TakeC.full (by first | rfl | omega | (simp; done) | (simp; omega) | fail) ?_ | refine zBs ?_ | refine zBn ?_ | refine zBv rfl rfl ?_ | refine zN ?_ | refine zC ?_ | refine zC4 ?_ | refine zOr16 ?_ | refine zC1 ?_ | refine zByte ?_ | refine zMaxL ?_ | refine zMaxR ?_ | refine zMinL ?_ | refine zMinR ?_ | refine zShr ?_ | refine zC8 ?_ | refine zQ ?_ | refine zR ?_ | refine zS ?_ | refine zA ?_ | refine zM ?_ | refine xr rfl ?_ | refine ai rfl ?_ | refine condT ?_ | refine condF ?_ | refine condG1 ?_ | refine condG0 ?_ | refine cD ?_ | refine dD ?_ | refine cB ?_ | refine dB ?_ | refine cN ?_ | refine dN ?_ | refine cV ?_ | refine dV ?_ | refine cE ?_ | refine dE ?_ | refine condX0 ?_ | refine condX1 ?_ | refine condNot ?_ | refine condAnd ?_ | refine condOr ?_ | refine aO ?_ | refine aB ?_ | refine aR ?_ | refine aR ?_ (by simp; omega) | refine xr (by assumption) ?_ | refine ai (by assumption) ?_ | refine kV (hc) ?_ | refine condD (fun h => ?_) (fun h => ?_) | refine condB (fun h => ?_) (fun h => ?_) | refine condN (fun h => ?_) (fun h => ?_) | refine condE (fun h => ?_) (fun h => ?_) | refine condV (fun h => ?_) (fun h => ?_))
    (first | refine ev_fin (And.intro (by first | rfl | (simp [AV.pure, pureL]; done) | fail) ?_) | refine ev_fin0 (And.intro (by first | rfl | (simp [AV.pure, pureL]; done) | fail) ?_)); rfl
  · rw [hq] at hc
    rw [if_pos rfl]
    have hd : s.all dig = true := by
      unfold canon at hq
      split at hq
      · cases hq
      · simp only [Bool.and_eq_true] at hq; exact hq.2
    refine gives_code (F := f346) rfl rfl (W_ok 300 _ _ _ _ ?_)
    repeat' ((conv => whnf); first | refine bslP (by first | rfl | (simp [pureL, pureLL, AV.pure]; done) | fail) rfl ?_ | refine TakeC.full (by first | rfl | omega | (simp; done) | (simp; omega) | fail) ?_ | refine zBs ?_ | refine zBn ?_ | refine zBv rfl rfl ?_ | refine zN ?_ | refine zC ?_ | refine zC4 ?_ | refine zOr16 ?_ | refine zC1 ?_ | refine zByte ?_ | refine zMaxL ?_ | refine zMaxR ?_ | refine zMinL ?_ | refine zMinR ?_ | refine zShr ?_ | refine zC8 ?_ | refine zQ ?_ | refine zR ?_ | refine zS ?_ | refine zA ?_ | refine zM ?_ | refine xr rfl ?_ | refine ai rfl ?_ | refine condT ?_ | refine condF ?_ | refine condG1 ?_ | refine condG0 ?_ | refine cD ?_ | refine dD ?_ | refine cB ?_ | refine dB ?_ | refine cN ?_ | refine dN ?_ | refine cV ?_ | refine dV ?_ | refine cE ?_ | refine dE ?_ | refine condX0 ?_ | refine condX1 ?_ | refine condNot ?_ | refine condAnd ?_ | refine condOr ?_ | refine aO ?_ | refine aB ?_ | refine aR ?_ | refine aR ?_ (by simp; omega) | refine xr (by assumption) ?_ | refine ai (by assumption) ?_ | refine kV (hc) ?_ | refine condD (fun h => ?_) (fun h => ?_) | refine condB (fun h => ?_) (fun h => ?_) | refine condN (fun h => ?_) (fun h => ?_) | refine condE (fun h => ?_) (fun h => ?_) | refine condV (fun h => ?_) (fun h => ?_))
    refine ev_keep [14, 6, 0, 1, 13] [] ?_
    exact num_loop346 s hs most s [] 0 _ _ _ 0 0 rfl rfl rfl (by omega) hd
end Go.AM.IR
set_option maxHeartbeats 4000000
set_option maxRecDepth 20000
namespace Go.AM.IR
def lnR (p : Int × Int × Bool) : Ret := ⟨.tup [.int .i64 p.1, .int .i64 p.2.1, .bool p.2.2], []⟩
theorem len_loop340 (s : List UInt8) (hs : s.length < 2 ^ 40) : ∀ (rest done : List UInt8) (T : List (Nat × AV)) (H : Heap) (c : Nat) (n : Int) (e : s = done ++ rest) (hn : n = done.length) (hd : (45 : UInt8) ∉ done),
   Ev G ⟨f340x9LH, ⟨(0, .str s) :: (12, .int .i64 n) :: (11, .int .i64 s.length) :: T, H, c⟩, [.t 2, .t 3, .t 4], 0⟩ (lnR (lenS s))
  | [], done, T, H, c, n, e, hn, hdn => by
    have hd : s.length = done.length := by simp [e]
    rw [show lenS s = (0, 0, false) from if_neg (by rw [e]; simpa using hdn)]
    refine ev_loop' (W_ok 300 _ _ _ _ ?_)
    repeat' ((conv => whnf); first | refine bslP (by first | rfl | (simp [pureL, pureLL, AV.pure]; done) | fail) rfl ?_ | refine TakeC.full (by first | rfl | omega | (simp; done) | (simp; omega) | fail) ?_ | refine zBs ?_ | refine zBn ?_ | refine zBv rfl rfl ?_ | refine zN ?_ | refine zC ?_ | refine zC4 ?_ | refine zOr16 ?_ | refine zC1 ?_ | refine zByte ?_ | refine zMaxL ?_ | refine zMaxR ?_ | refine zMinL ?_ | refine zMinR ?_ | refine zShr ?_ | refine zC8 ?_ | refine zQ ?_ | refine zR ?_ | refine zS ?_ | refine zA ?_ | refine zM ?_ | refine xr rfl ?_ | refine ai rfl ?_ | refine condT ?_ | refine condF ?_ | refine condG1 ?_ | refine condG0 ?_ | refine cD ?_ | refine dD ?_ | refine cB ?_ | refine dB ?_ | refine cN ?_ | refine dN ?_ | refine cV ?_ | refine dV ?_ | refine cE ?_ | refine dE ?_ | refine condX0 ?_ | refine condX1 ?_ | refine condNot ?_ | refine condAnd ?_ | refine condOr ?_ | refine aO ?_ | refine aB ?_ | refine aR ?_ | refine aR ?_ (by simp; omega) | refine xr (by assumption) ?_ | refine ai (by assumption) ?_ | refine condD (fun h => ?_) (fun h => ?_) | refine condB (fun h => ?_) (fun h => ?_) | refine condN (fun h => ?_) (fun h => ?_) | refine condE (fun h => ?_) (fun h => ?_) | refine condV (fun h => ?_) (fun h => ?_))
    (first | refine ev_fin (And.intro (by first | rfl | (simp [AV.pure, pureL]; done) | fail) ?_) | refine ev_fin0 (And.intro (by first | rfl | (simp [AV.pure, pureL]; done) | fail) ?_)); rfl
  | x :: rest, done, T, H, c, n, e, hn, hdn => by
    have hd : s.length = done.length + (rest.length + 1) := by simp [e]
    have hb := idx_at e hn
    by_cases hx : x = 45
    · subst hx
      obtain ⟨e1, e2⟩ := takeW (r := rest) hdn
      have hlen : lenS s = ((fNum 32 done).1, (fNum 32 rest).1, (fNum 32 done).2 == 0 && (fNum 32 rest).2 == 0) := by
        unfold lenS
        rw [if_pos (by rw [e]; simp), e, e1, e2]; rfl
      rw [hlen]
      have n1 : ∀ m, List.take m (List.drop 0 s) = done → Gives G 346 [.str (List.take m (List.drop 0 s)), .int .i64 32] [] (nfR (fNum 32 done)) := fun m ht => by rw [ht]; exact num_gives346 done (by omega) 32
      have n2 : ∀ m k, List.take m (List.drop k s) = rest → Gives G 346 [.str (List.take m (List.drop k s)), .int .i64 32] [] (nfR (fNum 32 rest)) := fun m k ht => by rw [ht]; exact num_gives346 rest (by omega) 32
      generalize fNum 32 done = F1 at *
      generalize fNum 32 rest = F2 at *
      obtain ⟨a, p⟩ := F1
      obtain ⟨b, q⟩ := F2
      have s1 : List.take (n.toNat - 0) (List.drop 0 s) = done := by simp [e, hn]
      have s2 : List.take (s.length - (n + 1).toNat) (List.drop (n + 1).toNat s) = rest := by
        have : (n + 1).toNat = done.length + 1 := by omega
        rw [this, e, List.take_of_length_le (by simp <;> omega)]; simp
      by_cases hp : p = 0
      · refine ev_loop' (W_ok 300 _ _ _ _ ?_)
        repeat' ((conv => whnf); first | refine zIstr (b := 45) ?_ hb (by omega) | refine kV (n1 _ s1) ?_ | refine kV (n2 _ _ s2) ?_ | refine bslP (by first | rfl | (simp [pureL, pureLL, AV.pure]; done) | fail) rfl ?_ | refine TakeC.full (by first | rfl | omega | (simp; done) | (simp; omega) | fail) ?_ | refine zBs ?_ | refine zBn ?_ | refine zBv rfl rfl ?_ | refine zN ?_ | refine zC ?_ | refine zC4 ?_ | refine zOr16 ?_ | refine zC1 ?_ | refine zByte ?_ | refine zMaxL ?_ | refine zMaxR ?_ | refine zMinL ?_ | refine zMinR ?_ | refine zShr ?_ | refine zC8 ?_ | refine zQ ?_ | refine zR ?_ | refine zS ?_ | refine zA ?_ | refine zM ?_ | refine xr rfl ?_ | refine ai rfl ?_ | refine condT ?_ | refine condF ?_ | refine condG1 ?_ | refine condG0 ?_ | refine cD ?_ | refine dD ?_ | refine cB ?_ | refine dB ?_ | refine cN ?_ | refine dN ?_ | refine cV ?_ | refine dV ?_ | refine cE ?_ | refine dE ?_ | refine condX0 ?_ | refine condX1 ?_ | refine condNot ?_ | refine condAnd ?_ | refine condOr ?_ | refine aO ?_ | refine aB ?_ | refine aR ?_ | refine aR ?_ (by simp; omega) | refine xr (by assumption) ?_ | refine ai (by assumption) ?_ | refine condD (fun h => ?_) (fun h => ?_) | refine condB (fun h => ?_) (fun h => ?_) | refine condN (fun h => ?_) (fun h => ?_) | refine condE (fun h => ?_) (fun h => ?_) | refine condV (fun h => ?_) (fun h => ?_))
        (first | refine ev_fin (And.intro (by first | rfl | (simp [AV.pure, pureL]; done) | fail) ?_) | refine ev_fin0 (And.intro (by first | rfl | (simp [AV.pure, pureL]; done) | fail) ?_)); simp [hp, lnR]
      · refine ev_loop' (W_ok 300 _ _ _ _ ?_)
        repeat' ((conv => whnf); first | refine zIstr (b := 45) ?_ hb (by omega) | refine kV (n1 _ s1) ?_ | refine kV (n2 _ _ s2) ?_ | refine bslP (by first | rfl | (simp [pureL, pureLL, AV.pure]; done) | fail) rfl ?_ | refine TakeC.full (by first | rfl | omega | (simp; done) | (simp; omega) | fail) ?_ | refine zBs ?_ | refine zBn ?_ | refine zBv rfl rfl ?_ | refine zN ?_ | refine zC ?_ | refine zC4 ?_ | refine zOr16 ?_ | refine zC1 ?_ | refine zByte ?_ | refine zMaxL ?_ | refine zMaxR ?_ | refine zMinL ?_ | refine zMinR ?_ | refine zShr ?_ | refine zC8 ?_ | refine zQ ?_ | refine zR ?_ | refine zS ?_ | refine zA ?_ | refine zM ?_ | refine xr rfl ?_ | refine ai rfl ?_ | refine condT ?_ | refine condF ?_ | refine condG1 ?_ | refine condG0 ?_ | refine cD ?_ | refine dD ?_ | refine cB ?_ | refine dB ?_ | refine cN ?_ | refine dN ?_ | refine cV ?_ | refine dV ?_ | refine cE ?_ | refine dE ?_ | refine condX0 ?_ | refine condX1 ?_ | refine condNot ?_ | refine condAnd ?_ | refine condOr ?_ | refine aO ?_ | refine aB ?_ | refine aR ?_ | refine aR ?_ (by simp; omega) | refine xr (by assumption) ?_ | refine ai (by assumption) ?_ | refine condD (fun h => ?_) (fun h => ?_) | refine condB (fun h => ?_) (fun h => ?_) | refine condN (fun h => ?_) (fun h => ?_) | refine condE (fun h => ?_) (fun h => ?_) | refine condV (fun h => ?_) (fun h => ?_))
        (first | refine ev_fin (And.intro (by first | rfl | (simp [AV.pure, pureL]; done) | fail) ?_) | refine ev_fin0 (And.intro (by first | rfl | (simp [AV.pure, pureL]; done) | fail) ?_)); simp [hp, lnR]
    · have hx2 : ¬ (x.toNat : Int) = 45 := by
        intro q; apply hx; apply UInt8.toNat_inj.1
        show x.toNat = 45
        omega
      refine ev_loop' (W_ok 300 _ _ _ _ ?_)
      repeat' ((conv => whnf); first | refine zIstr (b := x) ?_ hb (by omega) | refine bslP (by first | rfl | (simp [pureL, pureLL, AV.pure]; done) | fail) rfl ?_ | refine TakeC.full (by first | rfl | omega | (simp; done) | (simp; omega) | fail) ?_ | refine zBs ?_ | refine zBn ?_ | refine zBv rfl rfl ?_ | refine zN ?_ | refine zC ?_ | refine zC4 ?_ | refine zOr16 ?_ | refine zC1 ?_ | refine zByte ?_ | refine zMaxL ?_ | refine zMaxR ?_ | refine zMinL ?_ | refine zMinR ?_ | refine zShr ?_ | refine zC8 ?_ | refine zQ ?_ | refine zR ?_ | refine zS ?_ | refine zA ?_ | refine zM ?_ | refine xr rfl ?_ | refine ai rfl ?_ | refine condT ?_ | refine condF ?_ | refine condG1 ?_ | refine condG0 ?_ | refine cD ?_ | refine dD ?_ | refine cB ?_ | refine dB ?_ | refine cN ?_ | refine dN ?_ | refine cV ?_ | refine dV ?_ | refine cE ?_ | refine dE ?_ | refine condX0 ?_ | refine condX1 ?_ | refine condNot ?_ | refine condAnd ?_ | refine condOr ?_ | refine aO ?_ | refine aB ?_ | refine aR ?_ | refine aR ?_ (by simp; omega) | refine xr (by assumption) ?_ | refine ai (by assumption) ?_ | refine condD (fun h => ?_) (fun h => ?_) | refine condB (fun h => ?_) (fun h => ?_) | refine condN (fun h => ?_) (fun h => ?_) | refine condE (fun h => ?_) (fun h => ?_) | refine condV (fun h => ?_) (fun h => ?_))
      refine ev_keep [0, 12, 11] [] ?_
      exact len_loop340 s hs rest (done ++ [x]) _ _ _ (n + 1) (by simp [e]) (by simp [hn]) (by simp; exact ⟨hdn, fun q => hx q.symm⟩)
theorem len_gives340 (s : List UInt8) (hs : s.length < 2 ^ 40) : Gives G 340 [.str s] [] (lnR (lenS s)) := by
  refine gives_code (F := f340) rfl rfl (W_ok 300 _ _ _ _ ?_)
  repeat' ((conv => whnf); first | refine bslP (by first | rfl | (simp [pureL, pureLL, AV.pure]; done) | fail) rfl ?_ | refine TakeC.full (by first | rfl | omega | (simp; done) | (simp; omega) | fail) ?_ | refine zBs ?_ | refine zBn ?_ | refine zBv rfl rfl ?_ | refine zN ?_ | refine zC ?_ | refine zC4 ?_ | refine zOr16 ?_ | refine zC1 ?_ | refine zByte ?_ | refine zMaxL ?_ | refine zMaxR ?_ | refine zMinL ?_ | refine zMinR ?_ | refine zShr ?_ | refine zC8 ?_ | refine zQ ?_ | refine zR ?_ | refine zS ?_ | refine zA ?_ | refine zM ?_ | refine xr rfl ?_ | refine ai rfl ?_ | refine condT ?_ | refine condF ?_ | refine condG1 ?_ | refine condG0 ?_ | refine cD ?_ | refine dD ?_ | refine cB ?_ | refine dB ?_ | refine cN ?_ | refine dN ?_ | refine cV ?_ | refine dV ?_ | refine cE ?_ | refine dE ?_ | refine condX0 ?_ | refine condX1 ?_ | refine condNot ?_ | refine condAnd ?_ | refine condOr ?_ | refine aO ?_ | refine aB ?_ | refine aR ?_ | refine aR ?_ (by simp; omega) | refine xr (by assumption) ?_ | refine ai (by assumption) ?_ | refine condD (fun h => ?_) (fun h => ?_) | refine condB (fun h => ?_) (fun h => ?_) | refine condN (fun h => ?_) (fun h => ?_) | refine condE (fun h => ?_) (fun h => ?_) | refine condV (fun h => ?_) (fun h => ?_))
  refine ev_keep [0, 12, 11] [] ?_
  exact len_loop340 s hs s [] _ _ _ 0 rfl rfl (by simp)
def wrR (s : List UInt8) : Ret := match wordsS s with
  | none => ⟨.tup [.con (.slice none 0 0), .int .i64 2], []⟩
  | some ws => if s = [] then ⟨.tup [.con (.slice none 0 0), .int .i64 0], []⟩ else ⟨.tup [.sl 1 (ws.map encS), .int .i64 0], []⟩
theorem contains_gives345 (s : List UInt8) (hs : s.length < 4294967281) : Gives G 345 [.str s, .str [10]] [] ⟨.bool (decide ((10 : UInt8) ∈ s)), []⟩ := by
  have e : Lib.contains s [10] = decide ((10 : UInt8) ∈ s) := by
    unfold Lib.contains
    rcases sep_cases 10 s with h | ⟨a, r, h, rfl⟩
    · rw [index_none 10 s h]; simp [h]
    · rw [index_hit 10 a r h]; simp
  rw [← e]
  show pContains [.str s, .str [10]] [] = _
  exact if_pos hs
theorem split_gives32 (s : List UInt8) (hs : s.length < 4294967281) : Gives G 249 [.str s, .str [32]] [] ⟨.sl 1 ((Lib.split s [32]).map encS), []⟩ := by
  show pSplit [.str s, .str [32]] [] = _
  exact if_pos ⟨hs, by simp⟩
theorem encS_pure (w : Bs) : pureL (encS w) = true := rfl
@[simp] theorem pureLL_words (l : List Bs) : pureLL (l.map encS) = true := pureLL_mapB encS_pure l
theorem words_loop339 (l : List Bs)  (hl : l.length < 2 ^ 40) (ln : Int) (hln : ln = l.length) : ∀ (rest done : List Bs)  (T : List (Nat × AV)) (H : Heap) (c : Nat) (n : Int) (e : l = done ++ rest) (hn : n = done.length) , Ev G ⟨f339x12LH, ⟨(13, .sl 1 (l.map encS)) :: (14, .int .i64 ln) :: (15, .int .i64 n) :: (4, .sl 1 (l.map encS)) :: T, H, c⟩, [.t 2, .t 3], 0⟩ (bif rest.any (fun w => w == []) then ⟨.tup [.con (.slice none 0 0), .int .i64 2], []⟩ else ⟨.tup [.sl 1 (l.map encS), .int .i64 0], []⟩)
  | [], done,  T, H, c, n, e, hn => by
    have hd : l.length = done.length := by simp [e]
    have hll : (l.map encS).length = l.length := by simp
    have hpu : (AV.tup [.sl 1 (l.map encS), .int .i64 0]).pure = true := by simp [AV.pure, pureL]
    refine ev_loop' (W_ok 300 _ _ _ _ ?_)
    repeat' ((conv => whnf); first | refine bslP (by first | rfl | (simp [pureL, pureLL, AV.pure]; done) | fail) rfl ?_ | refine TakeC.full (by first | rfl | omega | (simp; done) | (simp; omega) | fail) ?_ | refine zBs ?_ | refine zBn ?_ | refine zBv rfl rfl ?_ | refine zN ?_ | refine zC ?_ | refine zC4 ?_ | refine zOr16 ?_ | refine zC1 ?_ | refine zByte ?_ | refine zMaxL ?_ | refine zMaxR ?_ | refine zMinL ?_ | refine zMinR ?_ | refine zShr ?_ | refine zC8 ?_ | refine zQ ?_ | refine zR ?_ | refine zS ?_ | refine zA ?_ | refine zM ?_ | refine xr rfl ?_ | refine ai rfl ?_ | refine condT ?_ | refine condF ?_ | refine condG1 ?_ | refine condG0 ?_ | refine cD ?_ | refine dD ?_ | refine cB ?_ | refine dB ?_ | refine cN ?_ | refine dN ?_ | refine cV ?_ | refine dV ?_ | refine cE ?_ | refine dE ?_ | refine condX0 ?_ | refine condX1 ?_ | refine condNot ?_ | refine condAnd ?_ | refine condOr ?_ | refine aO ?_ | refine aB ?_ | refine aR ?_ | refine aR ?_ (by simp; omega) | refine xr (by assumption) ?_ | refine ai (by assumption) ?_ | refine condD (fun h => ?_) (fun h => ?_) | refine condB (fun h => ?_) (fun h => ?_) | refine condN (fun h => ?_) (fun h => ?_) | refine condE (fun h => ?_) (fun h => ?_) | refine condV (fun h => ?_) (fun h => ?_))
    first | refine ev_fin (And.intro hpu ?_) | refine ev_fin0 (And.intro hpu ?_)
    rfl
  | x :: r, done,  T, H, c, n, e, hn => by
    have hd : l.length = done.length + (r.length + 1) := by simp [e]
    have hll : (l.map encS).length = l.length := by simp
    have hx : (l.map encS)[n.toNat]? = some (encS x) := by simp [e, hn]
    rw [List.any_cons]
    by_cases hz : x = []
    · subst hz
      refine ev_loop' (W_ok 300 _ _ _ _ ?_)
      repeat' ((conv => whnf); first | refine zEqT ?_ | refine bslP (by first | rfl | (simp [pureL, pureLL, AV.pure]; done) | fail) rfl ?_ | refine TakeC.full (by first | rfl | omega | (simp; done) | (simp; omega) | fail) ?_ | refine zBs ?_ | refine zBn ?_ | refine zBv rfl rfl ?_ | refine zN ?_ | refine zC ?_ | refine zC4 ?_ | refine zOr16 ?_ | refine zC1 ?_ | refine zByte ?_ | refine zMaxL ?_ | refine zMaxR ?_ | refine zMinL ?_ | refine zMinR ?_ | refine zShr ?_ | refine zC8 ?_ | refine zQ ?_ | refine zR ?_ | refine zS ?_ | refine zA ?_ | refine zM ?_ | refine xr rfl ?_ | refine ai rfl ?_ | refine condT ?_ | refine condF ?_ | refine condG1 ?_ | refine condG0 ?_ | refine cD ?_ | refine dD ?_ | refine cB ?_ | refine dB ?_ | refine cN ?_ | refine dN ?_ | refine cV ?_ | refine dV ?_ | refine cE ?_ | refine dE ?_ | refine condX0 ?_ | refine condX1 ?_ | refine condNot ?_ | refine condAnd ?_ | refine condOr ?_ | refine aO ?_ | refine aB ?_ | refine aR ?_ | refine aR ?_ (by simp; omega) | refine xr (by assumption) ?_ | refine ai (by assumption) ?_ | refine condD (fun h => ?_) (fun h => ?_) | refine condB (fun h => ?_) (fun h => ?_) | refine condN (fun h => ?_) (fun h => ?_) | refine condE (fun h => ?_) (fun h => ?_) | refine condV (fun h => ?_) (fun h => ?_))
      (first | refine ev_fin (And.intro (by first | rfl | (simp [AV.pure, pureL]; done) | fail) ?_) | refine ev_fin0 (And.intro (by first | rfl | (simp [AV.pure, pureL]; done) | fail) ?_)); rfl
    · have hz2 : (x == ([] : List UInt8)) = false := by simpa using hz
      have zf : ∀ {kv : AV → Prop}, kv (.bool false) → ∃ v, binA .eql (.str x) (.str []) = some v ∧ kv v := fun h => ⟨_, by show some (AV.bool (x == [])) = _; rw [hz2], h⟩
      rw [hz2, Bool.false_or]
      refine ev_loop' (W_ok 300 _ _ _ _ ?_)
      repeat' ((conv => whnf); first | refine zf ?_ | refine bslP (by first | rfl | (simp [pureL, pureLL, AV.pure]; done) | fail) rfl ?_ | refine TakeC.full (by first | rfl | omega | (simp; done) | (simp; omega) | fail) ?_ | refine zBs ?_ | refine zBn ?_ | refine zBv rfl rfl ?_ | refine zN ?_ | refine zC ?_ | refine zC4 ?_ | refine zOr16 ?_ | refine zC1 ?_ | refine zByte ?_ | refine zMaxL ?_ | refine zMaxR ?_ | refine zMinL ?_ | refine zMinR ?_ | refine zShr ?_ | refine zC8 ?_ | refine zQ ?_ | refine zR ?_ | refine zS ?_ | refine zA ?_ | refine zM ?_ | refine xr rfl ?_ | refine ai rfl ?_ | refine condT ?_ | refine condF ?_ | refine condG1 ?_ | refine condG0 ?_ | refine cD ?_ | refine dD ?_ | refine cB ?_ | refine dB ?_ | refine cN ?_ | refine dN ?_ | refine cV ?_ | refine dV ?_ | refine cE ?_ | refine dE ?_ | refine condX0 ?_ | refine condX1 ?_ | refine condNot ?_ | refine condAnd ?_ | refine condOr ?_ | refine aO ?_ | refine aB ?_ | refine aR ?_ | refine aR ?_ (by simp; omega) | refine xr (by assumption) ?_ | refine ai (by assumption) ?_ | refine condD (fun h => ?_) (fun h => ?_) | refine condB (fun h => ?_) (fun h => ?_) | refine condN (fun h => ?_) (fun h => ?_) | refine condE (fun h => ?_) (fun h => ?_) | refine condV (fun h => ?_) (fun h => ?_))
      refine ev_keep [13, 14, 15, 4] [] ?_; exact words_loop339 l  hl ln hln r (done ++ [x])  _ _ _ (n + 1) (by simp [e]) (by simp [hn] <;> omega)
theorem words_gives339 (s : List UInt8) (hs : s.length < 4294967281) : Gives G 339 [.str s] [] (wrR s) := by
  unfold wrR wordsS
  by_cases h0 : s = []
  · subst h0
    rw [if_pos rfl]
    refine gives_code (F := f339) rfl rfl (W_ok 300 _ _ _ _ ?_)
    repeat' ((conv => whnf); first | refine zEqT ?_ | refine bslP (by first | rfl | (simp [pureL, pureLL, AV.pure]; done) | fail) rfl ?_ | refine TakeC.full (by first | rfl | omega | (simp; done) | (simp; omega) | fail) ?_ | refine zBs ?_ | refine zBn ?_ | refine zBv rfl rfl ?_ | refine zN ?_ | refine zC ?_ | refine zC4 ?_ | refine zOr16 ?_ | refine zC1 ?_ | refine zByte ?_ | refine zMaxL ?_ | refine zMaxR ?_ | refine zMinL ?_ | refine zMinR ?_ | refine zShr ?_ | refine zC8 ?_ | refine zQ ?_ | refine zR ?_ | refine zS ?_ | refine zA ?_ | refine zM ?_ | refine xr rfl ?_ | refine ai rfl ?_ | refine condT ?_ | refine condF ?_ | refine condG1 ?_ | refine condG0 ?_ | refine cD ?_ | refine dD ?_ | refine cB ?_ | refine dB ?_ | refine cN ?_ | refine dN ?_ | refine cV ?_ | refine dV ?_ | refine cE ?_ | refine dE ?_ | refine condX0 ?_ | refine condX1 ?_ | refine condNot ?_ | refine condAnd ?_ | refine condOr ?_ | refine aO ?_ | refine aB ?_ | refine aR ?_ | refine aR ?_ (by simp; omega) | refine xr (by assumption) ?_ | refine ai (by assumption) ?_ | refine condD (fun h => ?_) (fun h => ?_) | refine condB (fun h => ?_) (fun h => ?_) | refine condN (fun h => ?_) (fun h => ?_) | refine condE (fun h => ?_) (fun h => ?_) | refine condV (fun h => ?_) (fun h => ?_))
    (first | refine ev_fin (And.intro (by first | rfl | (simp [AV.pure, pureL]; done) | fail) ?_) | refine ev_fin0 (And.intro (by first | rfl | (simp [AV.pure, pureL]; done) | fail) ?_)); rfl
  · have hz2 : (s == ([] : List UInt8)) = false := by simpa using h0
    have zf : ∀ {kv : AV → Prop}, kv (.bool false) → ∃ v, binA .eql (.str s) (.str []) = some v ∧ kv v := fun h => ⟨_, by show some (AV.bool (s == [])) = _; rw [hz2], h⟩
    have hc := contains_gives345 s hs
    rw [if_neg h0]
    by_cases h1 : (10 : UInt8) ∈ s
    · rw [if_pos h1]
      rw [decide_eq_true h1] at hc
      refine gives_code (F := f339) rfl rfl (W_ok 300 _ _ _ _ ?_)
      repeat' ((conv => whnf); first | refine zf ?_ | refine bslP (by first | rfl | (simp [pureL, pureLL, AV.pure]; done) | fail) rfl ?_ | refine TakeC.full (by first | rfl | omega | (simp; done) | (simp; omega) | fail) ?_ | refine zBs ?_ | refine zBn ?_ | refine zBv rfl rfl ?_ | refine zN ?_ | refine zC ?_ | refine zC4 ?_ | refine zOr16 ?_ | refine zC1 ?_ | refine zByte ?_ | refine zMaxL ?_ | refine zMaxR ?_ | refine zMinL ?_ | refine zMinR ?_ | refine zShr ?_ | refine zC8 ?_ | refine zQ ?_ | refine zR ?_ | refine zS ?_ | refine zA ?_ | refine zM ?_ | refine xr rfl ?_ | refine ai rfl ?_ | refine condT ?_ | refine condF ?_ | refine condG1 ?_ | refine condG0 ?_ | refine cD ?_ | refine dD ?_ | refine cB ?_ | refine dB ?_ | refine cN ?_ | refine dN ?_ | refine cV ?_ | refine dV ?_ | refine cE ?_ | refine dE ?_ | refine condX0 ?_ | refine condX1 ?_ | refine condNot ?_ | refine condAnd ?_ | refine condOr ?_ | refine aO ?_ | refine aB ?_ | refine aR ?_ | refine aR ?_ (by simp; omega) | refine xr (by assumption) ?_ | refine ai (by assumption) ?_ | refine kV (hc) ?_ | refine condD (fun h => ?_) (fun h => ?_) | refine condB (fun h => ?_) (fun h => ?_) | refine condN (fun h => ?_) (fun h => ?_) | refine condE (fun h => ?_) (fun h => ?_) | refine condV (fun h => ?_) (fun h => ?_))
      (first | refine ev_fin (And.intro (by first | rfl | (simp [AV.pure, pureL]; done) | fail) ?_) | refine ev_fin0 (And.intro (by first | rfl | (simp [AV.pure, pureL]; done) | fail) ?_)); rfl
    · rw [if_neg h1]
      rw [decide_eq_false h1] at hc
      have hp := split_gives32 s hs
      have hln : (Lib.split s [32]).length < 2 ^ 40 := by
        have := Lib.count_le s [32]
        have h2 : (Lib.split s [32]).length ≤ Lib.count s [32] + 1 := by
          have := Lib.splitB_length_le ⟨[32].toArray⟩ 0 (Lib.count s [32]) ⟨s.toArray⟩
          have e := congrArg List.length (Lib.splitB_data ⟨[32].toArray⟩ 0 (Lib.count s [32]) ⟨s.toArray⟩)
          have e2 : (Lib.splitB ⟨[32].toArray⟩ 0 (Lib.count s [32]) ⟨s.toArray⟩).length = (Lib.splitK [32] 0 (Lib.count s [32]) s).length := by simpa using e
          unfold Lib.split
          omega
        omega
      have hm : ([] ∈ Lib.split s [32]) ↔ (Lib.split s [32]).any (fun w => w == []) = true := by simp
      generalize Lib.split s [32] = l at *
      have hpu : (AV.sl 1 (l.map encS)).pure = true := by simp [AV.pure]
      have key := words_loop339 l hln ((l.map encS).length : Int) (by simp) l []
      have hr : (match (if [] ∈ l then none else some l) with
        | none => (⟨.tup [.con (.slice none 0 0), .int .i64 2], []⟩ : Ret)
        | some ws => if s = [] then ⟨.tup [.con (.slice none 0 0), .int .i64 0], []⟩ else ⟨.tup [.sl 1 (ws.map encS), .int .i64 0], []⟩) = (bif l.any (fun w => w == []) then ⟨.tup [.con (.slice none 0 0), .int .i64 2], []⟩ else ⟨.tup [.sl 1 (l.map encS), .int .i64 0], []⟩) := by
        by_cases hq : [] ∈ l
        · rw [if_pos hq, hm.1 hq]; rfl
        · rw [if_neg hq]
          have : l.any (fun w => w == []) = false := by rw [Bool.eq_false_iff]; exact fun q => hq (hm.2 q)
          rw [this]; simp only [if_neg h0]; rfl
      rw [hr]
      refine gives_code (F := f339) rfl rfl (W_ok 300 _ _ _ _ ?_)
      repeat' ((conv => whnf); first | refine zf ?_ | refine callW hp ?_ (by rfl) hpu | refine bslP (by first | rfl | (simp [pureL, pureLL, AV.pure]; done) | fail) rfl ?_ | refine TakeC.full (by first | rfl | omega | (simp; done) | (simp; omega) | fail) ?_ | refine zBs ?_ | refine zBn ?_ | refine zBv rfl rfl ?_ | refine zN ?_ | refine zC ?_ | refine zC4 ?_ | refine zOr16 ?_ | refine zC1 ?_ | refine zByte ?_ | refine zMaxL ?_ | refine zMaxR ?_ | refine zMinL ?_ | refine zMinR ?_ | refine zShr ?_ | refine zC8 ?_ | refine zQ ?_ | refine zR ?_ | refine zS ?_ | refine zA ?_ | refine zM ?_ | refine xr rfl ?_ | refine ai rfl ?_ | refine condT ?_ | refine condF ?_ | refine condG1 ?_ | refine condG0 ?_ | refine cD ?_ | refine dD ?_ | refine cB ?_ | refine dB ?_ | refine cN ?_ | refine dN ?_ | refine cV ?_ | refine dV ?_ | refine cE ?_ | refine dE ?_ | refine condX0 ?_ | refine condX1 ?_ | refine condNot ?_ | refine condAnd ?_ | refine condOr ?_ | refine aO ?_ | refine aB ?_ | refine aR ?_ | refine aR ?_ (by simp; omega) | refine xr (by assumption) ?_ | refine ai (by assumption) ?_ | refine kV (hc) ?_ | refine condD (fun h => ?_) (fun h => ?_) | refine condB (fun h => ?_) (fun h => ?_) | refine condN (fun h => ?_) (fun h => ?_) | refine condE (fun h => ?_) (fun h => ?_) | refine condV (fun h => ?_) (fun h => ?_))
      refine ev_keep [13, 14, 15, 4] [] ?_
      exact key _ _ _ 0 rfl rfl
end Go.AM.IR
set_option maxHeartbeats 4000000
set_option maxRecDepth 20000
namespace Go.AM.IR
def txR (r : PRule) : Ret := if chkS r = 0 then ⟨.tup [.str (rtext r), .int .i64 0], []⟩ else ⟨.tup [.str [], .int .i64 (chkS r)], []⟩
theorem nat32 {x : Int} (h0 : 0 ≤ x) (h1 : x ≤ 32) : ∃ k : Nat, x = k ∧ k ≤ 32 := ⟨x.toNat, by omega, by omega⟩
theorem text_gives332 (r : PRule) (h : r.ok) : Gives G 332 [.agg r.enc] [] (txR r) := by
  have hc := chk_gives325 r h
  unfold txR
  by_cases h0 : chkS r = 0
  · rw [h0] at hc
    obtain ⟨v, m1, m2, m3, m0⟩ := chk_zero h0
    rw [if_pos h0]
    have ht := text_gives229 r.pfx h.pfx
    rw [if_pos v] at ht
    obtain ⟨_, hx⟩ := nat_of h.pfx.addr
    have hl := ptext_len (n := r.pfx.len.toNat) hx (by omega)
    obtain ⟨a, ea, ha⟩ := nat32 (x := r.min) (by omega) (by omega)
    obtain ⟨b, eb, hb⟩ := nat32 (x := r.max) (by omega) (by omega)
    have d1 := dec_gives337 (n := a) (by omega)
    have d2 := dec_gives337 (n := b) (by omega)
    have l1 := itoa_len (n := a) (by omega)
    have l2 := itoa_len (n := b) (by omega)
    clear h h0 v hx m0 m1 m2 m3
    unfold rtext rtail rng
    obtain ⟨p, ⟨x, n⟩, mn, mx⟩ := r
    simp only at *
    subst ea eb
    generalize ptext x.toNat n.toNat = t at *
    generalize itoaK (a : Int) = ta at *
    generalize itoaK (b : Int) = tb at *
    by_cases e1 : (a : Int) = n
    · by_cases e2 : (b : Int) = n
      · cases p
        · refine gives_code (F := f332) rfl rfl (W_ok 300 _ _ _ _ ?_)
          repeat' ((conv => whnf); first | refine zCat ?_ | refine bslP (by first | rfl | (simp [pureL, pureLL, AV.pure]; done) | fail) rfl ?_ | refine TakeC.full (by first | rfl | omega | (simp; done) | (simp; omega) | fail) ?_ | refine zBs ?_ | refine zBn ?_ | refine zBv rfl rfl ?_ | refine zN ?_ | refine zC ?_ | refine zC4 ?_ | refine zOr16 ?_ | refine zC1 ?_ | refine zByte ?_ | refine zMaxL ?_ | refine zMaxR ?_ | refine zMinL ?_ | refine zMinR ?_ | refine zShr ?_ | refine zC8 ?_ | refine zQ ?_ | refine zR ?_ | refine zS ?_ | refine zA ?_ | refine zM ?_ | refine xr rfl ?_ | refine ai rfl ?_ | refine condT ?_ | refine condF ?_ | refine condG1 ?_ | refine condG0 ?_ | refine cD ?_ | refine dD ?_ | refine cB ?_ | refine dB ?_ | refine cN ?_ | refine dN ?_ | refine cV ?_ | refine dV ?_ | refine cE ?_ | refine dE ?_ | refine condX0 ?_ | refine condX1 ?_ | refine condNot ?_ | refine condAnd ?_ | refine condOr ?_ | refine aO ?_ | refine aB ?_ | refine aR ?_ | refine aR ?_ (by simp; omega) | refine xr (by assumption) ?_ | refine ai (by assumption) ?_ | refine kV (hc) ?_ | refine kV (ht) ?_ | refine kV (d1) ?_ | refine kV (d2) ?_ | refine condD (fun h => ?_) (fun h => ?_) | refine condB (fun h => ?_) (fun h => ?_) | refine condN (fun h => ?_) (fun h => ?_) | refine condE (fun h => ?_) (fun h => ?_) | refine condV (fun h => ?_) (fun h => ?_))
          (first | refine ev_fin (And.intro (by first | rfl | (simp [AV.pure, pureL]; done) | fail) ?_) | refine ev_fin0 (And.intro (by first | rfl | (simp [AV.pure, pureL]; done) | fail) ?_)); simp [verb, wDeny, e1, e2]
        · refine gives_code (F := f332) rfl rfl (W_ok 300 _ _ _ _ ?_)
          repeat' ((conv => whnf); first | refine zCat ?_ | refine bslP (by first | rfl | (simp [pureL, pureLL, AV.pure]; done) | fail) rfl ?_ | refine TakeC.full (by first | rfl | omega | (simp; done) | (simp; omega) | fail) ?_ | refine zBs ?_ | refine zBn ?_ | refine zBv rfl rfl ?_ | refine zN ?_ | refine zC ?_ | refine zC4 ?_ | refine zOr16 ?_ | refine zC1 ?_ | refine zByte ?_ | refine zMaxL ?_ | refine zMaxR ?_ | refine zMinL ?_ | refine zMinR ?_ | refine zShr ?_ | refine zC8 ?_ | refine zQ ?_ | refine zR ?_ | refine zS ?_ | refine zA ?_ | refine zM ?_ | refine xr rfl ?_ | refine ai rfl ?_ | refine condT ?_ | refine condF ?_ | refine condG1 ?_ | refine condG0 ?_ | refine cD ?_ | refine dD ?_ | refine cB ?_ | refine dB ?_ | refine cN ?_ | refine dN ?_ | refine cV ?_ | refine dV ?_ | refine cE ?_ | refine dE ?_ | refine condX0 ?_ | refine condX1 ?_ | refine condNot ?_ | refine condAnd ?_ | refine condOr ?_ | refine aO ?_ | refine aB ?_ | refine aR ?_ | refine aR ?_ (by simp; omega) | refine xr (by assumption) ?_ | refine ai (by assumption) ?_ | refine kV (hc) ?_ | refine kV (ht) ?_ | refine kV (d1) ?_ | refine kV (d2) ?_ | refine condD (fun h => ?_) (fun h => ?_) | refine condB (fun h => ?_) (fun h => ?_) | refine condN (fun h => ?_) (fun h => ?_) | refine condE (fun h => ?_) (fun h => ?_) | refine condV (fun h => ?_) (fun h => ?_))
          (first | refine ev_fin (And.intro (by first | rfl | (simp [AV.pure, pureL]; done) | fail) ?_) | refine ev_fin0 (And.intro (by first | rfl | (simp [AV.pure, pureL]; done) | fail) ?_)); simp [verb, wPermit, e1, e2]
      · cases p
        · refine gives_code (F := f332) rfl rfl (W_ok 300 _ _ _ _ ?_)
          repeat' ((conv => whnf); first | refine zCat ?_ | refine bslP (by first | rfl | (simp [pureL, pureLL, AV.pure]; done) | fail) rfl ?_ | refine TakeC.full (by first | rfl | omega | (simp; done) | (simp; omega) | fail) ?_ | refine zBs ?_ | refine zBn ?_ | refine zBv rfl rfl ?_ | refine zN ?_ | refine zC ?_ | refine zC4 ?_ | refine zOr16 ?_ | refine zC1 ?_ | refine zByte ?_ | refine zMaxL ?_ | refine zMaxR ?_ | refine zMinL ?_ | refine zMinR ?_ | refine zShr ?_ | refine zC8 ?_ | refine zQ ?_ | refine zR ?_ | refine zS ?_ | refine zA ?_ | refine zM ?_ | refine xr rfl ?_ | refine ai rfl ?_ | refine condT ?_ | refine condF ?_ | refine condG1 ?_ | refine condG0 ?_ | refine cD ?_ | refine dD ?_ | refine cB ?_ | refine dB ?_ | refine cN ?_ | refine dN ?_ | refine cV ?_ | refine dV ?_ | refine cE ?_ | refine dE ?_ | refine condX0 ?_ | refine condX1 ?_ | refine condNot ?_ | refine condAnd ?_ | refine condOr ?_ | refine aO ?_ | refine aB ?_ | refine aR ?_ | refine aR ?_ (by simp; omega) | refine xr (by assumption) ?_ | refine ai (by assumption) ?_ | refine kV (hc) ?_ | refine kV (ht) ?_ | refine kV (d1) ?_ | refine kV (d2) ?_ | refine condD (fun h => ?_) (fun h => ?_) | refine condB (fun h => ?_) (fun h => ?_) | refine condN (fun h => ?_) (fun h => ?_) | refine condE (fun h => ?_) (fun h => ?_) | refine condV (fun h => ?_) (fun h => ?_))
          (first | refine ev_fin (And.intro (by first | rfl | (simp [AV.pure, pureL]; done) | fail) ?_) | refine ev_fin0 (And.intro (by first | rfl | (simp [AV.pure, pureL]; done) | fail) ?_)); simp [verb, wDeny, e2]
        · refine gives_code (F := f332) rfl rfl (W_ok 300 _ _ _ _ ?_)
          repeat' ((conv => whnf); first | refine zCat ?_ | refine bslP (by first | rfl | (simp [pureL, pureLL, AV.pure]; done) | fail) rfl ?_ | refine TakeC.full (by first | rfl | omega | (simp; done) | (simp; omega) | fail) ?_ | refine zBs ?_ | refine zBn ?_ | refine zBv rfl rfl ?_ | refine zN ?_ | refine zC ?_ | refine zC4 ?_ | refine zOr16 ?_ | refine zC1 ?_ | refine zByte ?_ | refine zMaxL ?_ | refine zMaxR ?_ | refine zMinL ?_ | refine zMinR ?_ | refine zShr ?_ | refine zC8 ?_ | refine zQ ?_ | refine zR ?_ | refine zS ?_ | refine zA ?_ | refine zM ?_ | refine xr rfl ?_ | refine ai rfl ?_ | refine condT ?_ | refine condF ?_ | refine condG1 ?_ | refine condG0 ?_ | refine cD ?_ | refine dD ?_ | refine cB ?_ | refine dB ?_ | refine cN ?_ | refine dN ?_ | refine cV ?_ | refine dV ?_ | refine cE ?_ | refine dE ?_ | refine condX0 ?_ | refine condX1 ?_ | refine condNot ?_ | refine condAnd ?_ | refine condOr ?_ | refine aO ?_ | refine aB ?_ | refine aR ?_ | refine aR ?_ (by simp; omega) | refine xr (by assumption) ?_ | refine ai (by assumption) ?_ | refine kV (hc) ?_ | refine kV (ht) ?_ | refine kV (d1) ?_ | refine kV (d2) ?_ | refine condD (fun h => ?_) (fun h => ?_) | refine condB (fun h => ?_) (fun h => ?_) | refine condN (fun h => ?_) (fun h => ?_) | refine condE (fun h => ?_) (fun h => ?_) | refine condV (fun h => ?_) (fun h => ?_))
          (first | refine ev_fin (And.intro (by first | rfl | (simp [AV.pure, pureL]; done) | fail) ?_) | refine ev_fin0 (And.intro (by first | rfl | (simp [AV.pure, pureL]; done) | fail) ?_)); simp [verb, wPermit, e2]
    · cases p
      · refine gives_code (F := f332) rfl rfl (W_ok 300 _ _ _ _ ?_)
        repeat' ((conv => whnf); first | refine zCat ?_ | refine bslP (by first | rfl | (simp [pureL, pureLL, AV.pure]; done) | fail) rfl ?_ | refine TakeC.full (by first | rfl | omega | (simp; done) | (simp; omega) | fail) ?_ | refine zBs ?_ | refine zBn ?_ | refine zBv rfl rfl ?_ | refine zN ?_ | refine zC ?_ | refine zC4 ?_ | refine zOr16 ?_ | refine zC1 ?_ | refine zByte ?_ | refine zMaxL ?_ | refine zMaxR ?_ | refine zMinL ?_ | refine zMinR ?_ | refine zShr ?_ | refine zC8 ?_ | refine zQ ?_ | refine zR ?_ | refine zS ?_ | refine zA ?_ | refine zM ?_ | refine xr rfl ?_ | refine ai rfl ?_ | refine condT ?_ | refine condF ?_ | refine condG1 ?_ | refine condG0 ?_ | refine cD ?_ | refine dD ?_ | refine cB ?_ | refine dB ?_ | refine cN ?_ | refine dN ?_ | refine cV ?_ | refine dV ?_ | refine cE ?_ | refine dE ?_ | refine condX0 ?_ | refine condX1 ?_ | refine condNot ?_ | refine condAnd ?_ | refine condOr ?_ | refine aO ?_ | refine aB ?_ | refine aR ?_ | refine aR ?_ (by simp; omega) | refine xr (by assumption) ?_ | refine ai (by assumption) ?_ | refine kV (hc) ?_ | refine kV (ht) ?_ | refine kV (d1) ?_ | refine kV (d2) ?_ | refine condD (fun h => ?_) (fun h => ?_) | refine condB (fun h => ?_) (fun h => ?_) | refine condN (fun h => ?_) (fun h => ?_) | refine condE (fun h => ?_) (fun h => ?_) | refine condV (fun h => ?_) (fun h => ?_))
        (first | refine ev_fin (And.intro (by first | rfl | (simp [AV.pure, pureL]; done) | fail) ?_) | refine ev_fin0 (And.intro (by first | rfl | (simp [AV.pure, pureL]; done) | fail) ?_)); simp [verb, wDeny, e1]
      · refine gives_code (F := f332) rfl rfl (W_ok 300 _ _ _ _ ?_)
        repeat' ((conv => whnf); first | refine zCat ?_ | refine bslP (by first | rfl | (simp [pureL, pureLL, AV.pure]; done) | fail) rfl ?_ | refine TakeC.full (by first | rfl | omega | (simp; done) | (simp; omega) | fail) ?_ | refine zBs ?_ | refine zBn ?_ | refine zBv rfl rfl ?_ | refine zN ?_ | refine zC ?_ | refine zC4 ?_ | refine zOr16 ?_ | refine zC1 ?_ | refine zByte ?_ | refine zMaxL ?_ | refine zMaxR ?_ | refine zMinL ?_ | refine zMinR ?_ | refine zShr ?_ | refine zC8 ?_ | refine zQ ?_ | refine zR ?_ | refine zS ?_ | refine zA ?_ | refine zM ?_ | refine xr rfl ?_ | refine ai rfl ?_ | refine condT ?_ | refine condF ?_ | refine condG1 ?_ | refine condG0 ?_ | refine cD ?_ | refine dD ?_ | refine cB ?_ | refine dB ?_ | refine cN ?_ | refine dN ?_ | refine cV ?_ | refine dV ?_ | refine cE ?_ | refine dE ?_ | refine condX0 ?_ | refine condX1 ?_ | refine condNot ?_ | refine condAnd ?_ | refine condOr ?_ | refine aO ?_ | refine aB ?_ | refine aR ?_ | refine aR ?_ (by simp; omega) | refine xr (by assumption) ?_ | refine ai (by assumption) ?_ | refine kV (hc) ?_ | refine kV (ht) ?_ | refine kV (d1) ?_ | refine kV (d2) ?_ | refine condD (fun h => ?_) (fun h => ?_) | refine condB (fun h => ?_) (fun h => ?_) | refine condN (fun h => ?_) (fun h => ?_) | refine condE (fun h => ?_) (fun h => ?_) | refine condV (fun h => ?_) (fun h => ?_))
        (first | refine ev_fin (And.intro (by first | rfl | (simp [AV.pure, pureL]; done) | fail) ?_) | refine ev_fin0 (And.intro (by first | rfl | (simp [AV.pure, pureL]; done) | fail) ?_)); simp [verb, wPermit, e1]
  · rw [if_neg h0]
    generalize chkS r = k at *
    refine gives_code (F := f332) rfl rfl (W_ok 300 _ _ _ _ ?_)
    repeat' ((conv => whnf); first | refine bslP (by first | rfl | (simp [pureL, pureLL, AV.pure]; done) | fail) rfl ?_ | refine TakeC.full (by first | rfl | omega | (simp; done) | (simp; omega) | fail) ?_ | refine zBs ?_ | refine zBn ?_ | refine zBv rfl rfl ?_ | refine zN ?_ | refine zC ?_ | refine zC4 ?_ | refine zOr16 ?_ | refine zC1 ?_ | refine zByte ?_ | refine zMaxL ?_ | refine zMaxR ?_ | refine zMinL ?_ | refine zMinR ?_ | refine zShr ?_ | refine zC8 ?_ | refine zQ ?_ | refine zR ?_ | refine zS ?_ | refine zA ?_ | refine zM ?_ | refine xr rfl ?_ | refine ai rfl ?_ | refine condT ?_ | refine condF ?_ | refine condG1 ?_ | refine condG0 ?_ | refine cD ?_ | refine dD ?_ | refine cB ?_ | refine dB ?_ | refine cN ?_ | refine dN ?_ | refine cV ?_ | refine dV ?_ | refine cE ?_ | refine dE ?_ | refine condX0 ?_ | refine condX1 ?_ | refine condNot ?_ | refine condAnd ?_ | refine condOr ?_ | refine aO ?_ | refine aB ?_ | refine aR ?_ | refine aR ?_ (by simp; omega) | refine xr (by assumption) ?_ | refine ai (by assumption) ?_ | refine kV (hc) ?_ | refine condD (fun h => ?_) (fun h => ?_) | refine condB (fun h => ?_) (fun h => ?_) | refine condN (fun h => ?_) (fun h => ?_) | refine condE (fun h => ?_) (fun h => ?_) | refine condV (fun h => ?_) (fun h => ?_))
    (first | refine ev_fin (And.intro (by first | rfl | (simp [AV.pure, pureL]; done) | fail) ?_) | refine ev_fin0 (And.intro (by first | rfl | (simp [AV.pure, pureL]; done) | fail) ?_)); rfl
theorem text_gives333 (r : PRule) (h : r.ok) : Gives G 333 [.agg r.enc] [] (txR r) := by
  have hc := chk_gives326 r h
  unfold txR
  by_cases h0 : chkS r = 0
  · rw [h0] at hc
    obtain ⟨v, m1, m2, m3, m0⟩ := chk_zero h0
    rw [if_pos h0]
    have ht := text_gives230 r.pfx h.pfx
    rw [if_pos v] at ht
    obtain ⟨_, hx⟩ := nat_of h.pfx.addr
    have hl := ptext_len (n := r.pfx.len.toNat) hx (by omega)
    obtain ⟨a, ea, ha⟩ := nat32 (x := r.min) (by omega) (by omega)
    obtain ⟨b, eb, hb⟩ := nat32 (x := r.max) (by omega) (by omega)
    have d1 := dec_gives338 (n := a) (by omega)
    have d2 := dec_gives338 (n := b) (by omega)
    have l1 := itoa_len (n := a) (by omega)
    have l2 := itoa_len (n := b) (by omega)
    clear h h0 v hx m0 m1 m2 m3
    unfold rtext rtail rng
    obtain ⟨p, ⟨x, n⟩, mn, mx⟩ := r
    simp only at *
    subst ea eb
    generalize ptext x.toNat n.toNat = t at *
    generalize itoaK (a : Int) = ta at *
    generalize itoaK (b : Int) = tb at *
    by_cases e1 : (a : Int) = n
    · by_cases e2 : (b : Int) = n
      · cases p
        · refine gives_code (F := f333) rfl rfl (W_ok 300 _ _ _ _ ?_)
          repeat' ((conv => whnf); first | refine zCat ?_ | refine bslP (by first | rfl | (simp [pureL, pureLL, AV.pure]; done) | fail) rfl ?_ | refine TakeC.full (by first | rfl | omega | (simp; done) | (simp; omega) | fail) ?_ | refine zBs ?_ | refine zBn ?_ | refine zBv rfl rfl ?_ | refine zN ?_ | refine zC ?_ | refine zC4 ?_ | refine zOr16 ?_ | refine zC1 ?_ | refine zByte ?_ | refine zMaxL ?_ | refine zMaxR ?_ | refine zMinL ?_ | refine zMinR ?_ | refine zShr ?_ | refine zC8 ?_ | refine zQ ?_ | refine zR ?_ | refine zS ?_ | refine zA ?_ | refine zM ?_ | refine xr rfl ?_ | refine ai rfl ?_ | refine condT ?_ | refine condF ?_ | refine condG1 ?_ | refine condG0 ?_ | refine cD ?_ | refine dD ?_ | refine cB ?_ | refine dB ?_ | refine cN ?_ | refine dN ?_ | refine cV ?_ | refine dV ?_ | refine cE ?_ | refine dE ?_ | refine condX0 ?_ | refine condX1 ?_ | refine condNot ?_ | refine condAnd ?_ | refine condOr ?_ | refine aO ?_ | refine aB ?_ | refine aR ?_ | refine aR ?_ (by simp; omega) | refine xr (by assumption) ?_ | refine ai (by assumption) ?_ | refine kV (hc) ?_ | refine kV (ht) ?_ | refine kV (d1) ?_ | refine kV (d2) ?_ | refine condD (fun h => ?_) (fun h => ?_) | refine condB (fun h => ?_) (fun h => ?_) | refine condN (fun h => ?_) (fun h => ?_) | refine condE (fun h => ?_) (fun h => ?_) | refine condV (fun h => ?_) (fun h => ?_))
          (first | refine ev_fin (And.intro (by first | rfl | (simp [AV.pure, pureL]; done) | fail) ?_) | refine ev_fin0 (And.intro (by first | rfl | (simp [AV.pure, pureL]; done) | fail) ?_)); simp [verb, wDeny, e1, e2]
        · refine gives_code (F := f333) rfl rfl (W_ok 300 _ _ _ _ ?_)
          repeat' ((conv => whnf); first | refine zCat ?_ | refine bslP (by first | rfl | (simp [pureL, pureLL, AV.pure]; done) | fail) rfl ?_ | refine TakeC.full (by first | rfl | omega | (simp; done) | (simp; omega) | fail) ?_ | refine zBs ?_ | refine zBn ?_ | refine zBv rfl rfl ?_ | refine zN ?_ | refine zC ?_ | refine zC4 ?_ | refine zOr16 ?_ | refine zC1 ?_ | refine zByte ?_ | refine zMaxL ?_ | refine zMaxR ?_ | refine zMinL ?_ | refine zMinR ?_ | refine zShr ?_ | refine zC8 ?_ | refine zQ ?_ | refine zR ?_ | refine zS ?_ | refine zA ?_ | refine zM ?_ | refine xr rfl ?_ | refine ai rfl ?_ | refine condT ?_ | refine condF ?_ | refine condG1 ?_ | refine condG0 ?_ | refine cD ?_ | refine dD ?_ | refine cB ?_ | refine dB ?_ | refine cN ?_ | refine dN ?_ | refine cV ?_ | refine dV ?_ | refine cE ?_ | refine dE ?_ | refine condX0 ?_ | refine condX1 ?_ | refine condNot ?_ | refine condAnd ?_ | refine condOr ?_ | refine aO ?_ | refine aB ?_ | refine aR ?_ | refine aR ?_ (by simp; omega) | refine xr (by assumption) ?_ | refine ai (by assumption) ?_ | refine kV (hc) ?_ | refine kV (ht) ?_ | refine kV (d1) ?_ | refine kV (d2) ?_ | refine condD (fun h => ?_) (fun h => ?_) | refine condB (fun h => ?_) (fun h => ?_) | refine condN (fun h => ?_) (fun h => ?_) | refine condE (fun h => ?_) (fun h => ?_) | refine condV (fun h => ?_) (fun h => ?_))
          (first | refine ev_fin (And.intro (by first | rfl | (simp [AV.pure, pureL]; done) | fail) ?_) | refine ev_fin0 (And.intro (by first | rfl | (simp [AV.pure, pureL]; done) | fail) ?_)); simp [verb, wPermit, e1, e2]
      · cases p
        · refine gives_code (F := f333) rfl rfl (W_ok 300 _ _ _ _ ?_)
          repeat' ((conv => whnf); first | refine zCat ?_ | refine bslP (by first | rfl | (simp [pureL, pureLL, AV.pure]; done) | fail) rfl ?_ | refine TakeC.full (by first | rfl | omega | (simp; done) | (simp; omega) | fail) ?_ | refine zBs ?_ | refine zBn ?_ | refine zBv rfl rfl ?_ | refine zN ?_ | refine zC ?_ | refine zC4 ?_ | refine zOr16 ?_ | refine zC1 ?_ | refine zByte ?_ | refine zMaxL ?_ | refine zMaxR ?_ | refine zMinL ?_ | refine zMinR ?_ | refine zShr ?_ | refine zC8 ?_ | refine zQ ?_ | refine zR ?_ | refine zS ?_ | refine zA ?_ | refine zM ?_ | refine xr rfl ?_ | refine ai rfl ?_ | refine condT ?_ | refine condF ?_ | refine condG1 ?_ | refine condG0 ?_ | refine cD ?_ | refine dD ?_ | refine cB ?_ | refine dB ?_ | refine cN ?_ | refine dN ?_ | refine cV ?_ | refine dV ?_ | refine cE ?_ | refine dE ?_ | refine condX0 ?_ | refine condX1 ?_ | refine condNot ?_ | refine condAnd ?_ | refine condOr ?_ | refine aO ?_ | refine aB ?_ | refine aR ?_ | refine aR ?_ (by simp; omega) | refine xr (by assumption) ?_ | refine ai (by assumption) ?_ | refine kV (hc) ?_ | refine kV (ht) ?_ | refine kV (d1) ?_ | refine kV (d2) ?_ | refine condD (fun h => ?_) (fun h => ?_) | refine condB (fun h => ?_) (fun h => ?_) | refine condN (fun h => ?_) (fun h => ?_) | refine condE (fun h => ?_) (fun h => ?_) | refine condV (fun h => ?_) (fun h => ?_))
          (first | refine ev_fin (And.intro (by first | rfl | (simp [AV.pure, pureL]; done) | fail) ?_) | refine ev_fin0 (And.intro (by first | rfl | (simp [AV.pure, pureL]; done) | fail) ?_)); simp [verb, wDeny, e2]
        · refine gives_code (F := f333) rfl rfl (W_ok 300 _ _ _ _ ?_)
          repeat' ((conv => whnf); first | refine zCat ?_ | refine bslP (by first | rfl | (simp [pureL, pureLL, AV.pure]; done) | fail) rfl ?_ | refine TakeC.full (by first | rfl | omega | (simp; done) | (simp; omega) | fail) ?_ | refine zBs ?_ | refine zBn ?_ | refine zBv rfl rfl ?_ | refine zN ?_ | refine zC ?_ | refine zC4 ?_ | refine zOr16 ?_ | refine zC1 ?_ | refine zByte ?_ | refine zMaxL ?_ | refine zMaxR ?_ | refine zMinL ?_ | refine zMinR ?_ | refine zShr ?_ | refine zC8 ?_ | refine zQ ?_ | refine zR ?_ | refine zS ?_ | refine zA ?_ | refine zM ?_ | refine xr rfl ?_ | refine ai rfl ?_ | refine condT ?_ | refine condF ?_ | refine condG1 ?_ | refine condG0 ?_ | refine cD ?_ | refine dD ?_ | refine cB ?_ | refine dB ?_ | refine cN ?_ | refine dN ?_ | refine cV ?_ | refine dV ?_ | refine cE ?_ | refine dE ?_ | refine condX0 ?_ | refine condX1 ?_ | refine condNot ?_ | refine condAnd ?_ | refine condOr ?_ | refine aO ?_ | refine aB ?_ | refine aR ?_ | refine aR ?_ (by simp; omega) | refine xr (by assumption) ?_ | refine ai (by assumption) ?_ | refine kV (hc) ?_ | refine kV (ht) ?_ | refine kV (d1) ?_ | refine kV (d2) ?_ | refine condD (fun h => ?_) (fun h => ?_) | refine condB (fun h => ?_) (fun h => ?_) | refine condN (fun h => ?_) (fun h => ?_) | refine condE (fun h => ?_) (fun h => ?_) | refine condV (fun h => ?_) (fun h => ?_))
          (first | refine ev_fin (And.intro (by first | rfl | (simp [AV.pure, pureL]; done) | fail) ?_) | refine ev_fin0 (And.intro (by first | rfl | (simp [AV.pure, pureL]; done) | fail) ?_)); simp [verb, wPermit, e2]
    · cases p
      · refine gives_code (F := f333) rfl rfl (W_ok 300 _ _ _ _ ?_)
        repeat' ((conv => whnf); first | refine zCat ?_ | refine bslP (by first | rfl | (simp [pureL, pureLL, AV.pure]; done) | fail) rfl ?_ | refine TakeC.full (by first | rfl | omega | (simp; done) | (simp; omega) | fail) ?_ | refine zBs ?_ | refine zBn ?_ | refine zBv rfl rfl ?_ | refine zN ?_ | refine zC ?_ | refine zC4 ?_ | refine zOr16 ?_ | refine zC1 ?_ | refine zByte ?_ | refine zMaxL ?_ | refine zMaxR ?_ | refine zMinL ?_ | refine zMinR ?_ | refine zShr ?_ | refine zC8 ?_ | refine zQ ?_ | refine zR ?_ | refine zS ?_ | refine zA ?_ | refine zM ?_ | refine xr rfl ?_ | refine ai rfl ?_ | refine condT ?_ | refine condF ?_ | refine condG1 ?_ | refine condG0 ?_ | refine cD ?_ | refine dD ?_ | refine cB ?_ | refine dB ?_ | refine cN ?_ | refine dN ?_ | refine cV ?_ | refine dV ?_ | refine cE ?_ | refine dE ?_ | refine condX0 ?_ | refine condX1 ?_ | refine condNot ?_ | refine condAnd ?_ | refine condOr ?_ | refine aO ?_ | refine aB ?_ | refine aR ?_ | refine aR ?_ (by simp; omega) | refine xr (by assumption) ?_ | refine ai (by assumption) ?_ | refine kV (hc) ?_ | refine kV (ht) ?_ | refine kV (d1) ?_ | refine kV (d2) ?_ | refine condD (fun h => ?_) (fun h => ?_) | refine condB (fun h => ?_) (fun h => ?_) | refine condN (fun h => ?_) (fun h => ?_) | refine condE (fun h => ?_) (fun h => ?_) | refine condV (fun h => ?_) (fun h => ?_))
        (first | refine ev_fin (And.intro (by first | rfl | (simp [AV.pure, pureL]; done) | fail) ?_) | refine ev_fin0 (And.intro (by first | rfl | (simp [AV.pure, pureL]; done) | fail) ?_)); simp [verb, wDeny, e1]
      · refine gives_code (F := f333) rfl rfl (W_ok 300 _ _ _ _ ?_)
        repeat' ((conv => whnf); first | refine zCat ?_ | refine bslP (by first | rfl | (simp [pureL, pureLL, AV.pure]; done) | fail) rfl ?_ | refine TakeC.full (by first | rfl | omega | (simp; done) | (simp; omega) | fail) ?_ | refine zBs ?_ | refine zBn ?_ | refine zBv rfl rfl ?_ | refine zN ?_ | refine zC ?_ | refine zC4 ?_ | refine zOr16 ?_ | refine zC1 ?_ | refine zByte ?_ | refine zMaxL ?_ | refine zMaxR ?_ | refine zMinL ?_ | refine zMinR ?_ | refine zShr ?_ | refine zC8 ?_ | refine zQ ?_ | refine zR ?_ | refine zS ?_ | refine zA ?_ | refine zM ?_ | refine xr rfl ?_ | refine ai rfl ?_ | refine condT ?_ | refine condF ?_ | refine condG1 ?_ | refine condG0 ?_ | refine cD ?_ | refine dD ?_ | refine cB ?_ | refine dB ?_ | refine cN ?_ | refine dN ?_ | refine cV ?_ | refine dV ?_ | refine cE ?_ | refine dE ?_ | refine condX0 ?_ | refine condX1 ?_ | refine condNot ?_ | refine condAnd ?_ | refine condOr ?_ | refine aO ?_ | refine aB ?_ | refine aR ?_ | refine aR ?_ (by simp; omega) | refine xr (by assumption) ?_ | refine ai (by assumption) ?_ | refine kV (hc) ?_ | refine kV (ht) ?_ | refine kV (d1) ?_ | refine kV (d2) ?_ | refine condD (fun h => ?_) (fun h => ?_) | refine condB (fun h => ?_) (fun h => ?_) | refine condN (fun h => ?_) (fun h => ?_) | refine condE (fun h => ?_) (fun h => ?_) | refine condV (fun h => ?_) (fun h => ?_))
        (first | refine ev_fin (And.intro (by first | rfl | (simp [AV.pure, pureL]; done) | fail) ?_) | refine ev_fin0 (And.intro (by first | rfl | (simp [AV.pure, pureL]; done) | fail) ?_)); simp [verb, wPermit, e1]
  · rw [if_neg h0]
    generalize chkS r = k at *
    refine gives_code (F := f333) rfl rfl (W_ok 300 _ _ _ _ ?_)
    repeat' ((conv => whnf); first | refine bslP (by first | rfl | (simp [pureL, pureLL, AV.pure]; done) | fail) rfl ?_ | refine TakeC.full (by first | rfl | omega | (simp; done) | (simp; omega) | fail) ?_ | refine zBs ?_ | refine zBn ?_ | refine zBv rfl rfl ?_ | refine zN ?_ | refine zC ?_ | refine zC4 ?_ | refine zOr16 ?_ | refine zC1 ?_ | refine zByte ?_ | refine zMaxL ?_ | refine zMaxR ?_ | refine zMinL ?_ | refine zMinR ?_ | refine zShr ?_ | refine zC8 ?_ | refine zQ ?_ | refine zR ?_ | refine zS ?_ | refine zA ?_ | refine zM ?_ | refine xr rfl ?_ | refine ai rfl ?_ | refine condT ?_ | refine condF ?_ | refine condG1 ?_ | refine condG0 ?_ | refine cD ?_ | refine dD ?_ | refine cB ?_ | refine dB ?_ | refine cN ?_ | refine dN ?_ | refine cV ?_ | refine dV ?_ | refine cE ?_ | refine dE ?_ | refine condX0 ?_ | refine condX1 ?_ | refine condNot ?_ | refine condAnd ?_ | refine condOr ?_ | refine aO ?_ | refine aB ?_ | refine aR ?_ | refine aR ?_ (by simp; omega) | refine xr (by assumption) ?_ | refine ai (by assumption) ?_ | refine kV (hc) ?_ | refine condD (fun h => ?_) (fun h => ?_) | refine condB (fun h => ?_) (fun h => ?_) | refine condN (fun h => ?_) (fun h => ?_) | refine condE (fun h => ?_) (fun h => ?_) | refine condV (fun h => ?_) (fun h => ?_))
    (first | refine ev_fin (And.intro (by first | rfl | (simp [AV.pure, pureL]; done) | fail) ?_) | refine ev_fin0 (And.intro (by first | rfl | (simp [AV.pure, pureL]; done) | fail) ?_)); rfl
end Go.AM.IR
set_option maxHeartbeats 4000000
set_option maxRecDepth 20000
namespace Go.AM.IR
theorem joinC_mem (c : UInt8) : ∀ (l : List (List UInt8)) (w : List UInt8), w ∈ l → w.length ≤ (joinC c l).length
  | [], _, h => by simp at h
  | [x], w, h => by obtain rfl : w = x := by simpa using h
                    exact Nat.le_refl _
  | x :: y :: r, w, h => by
    simp only [joinC, List.length_append, List.length_cons]
    rcases List.mem_cons.1 h with rfl | h
    · omega
    · have := joinC_mem c (y :: r) w h; omega
theorem split_len (s : List UInt8) (w : List UInt8) (h : w ∈ Lib.split s [46]) : w.length ≤ s.length := by
  have := joinC_mem 46 _ w h
  rwa [join_split 46 s.length s (Nat.le_refl _)] at this
theorem pad_gives231 (s : List UInt8) (hs : s.length < 4294967281) : Gives G 231 [.str s] [] (okA (paP s)) := by
  have hp := split_gives249 s hs
  have hw : ∀ w ∈ Lib.split s [46], w.length < 2 ^ 40 := fun w h => by have := split_len s w h; omega
  unfold paP
  generalize Lib.split s [46] = l at *
  have hll : (l.map encS).length = l.length := by simp
  have hpu : (AV.sl 1 (l.map encS)).pure = true := pureLL_mapB (fun _ => rfl) l
  by_cases h4 : l.length = 4
  · rw [if_pos h4]
    refine gives_code (F := f231) rfl rfl (W_ok 300 _ _ _ _ ?_)
    repeat' ((conv => whnf); first | refine callW hp ?_ (by rfl) hpu | refine bslP (by first | rfl | (simp [pureL, pureLL, AV.pure]; done) | fail) rfl ?_ | refine TakeC.full (by first | rfl | omega | (simp; done) | (simp; omega) | fail) ?_ | refine zBs ?_ | refine zBn ?_ | refine zBv rfl rfl ?_ | refine zN ?_ | refine zC ?_ | refine zC4 ?_ | refine zOr16 ?_ | refine zC1 ?_ | refine zByte ?_ | refine zMaxL ?_ | refine zMaxR ?_ | refine zMinL ?_ | refine zMinR ?_ | refine zShr ?_ | refine zC8 ?_ | refine zQ ?_ | refine zR ?_ | refine zS ?_ | refine zA ?_ | refine zM ?_ | refine xr rfl ?_ | refine ai rfl ?_ | refine condT ?_ | refine condF ?_ | refine condG1 ?_ | refine condG0 ?_ | refine cD ?_ | refine dD ?_ | refine cB ?_ | refine dB ?_ | refine cN ?_ | refine dN ?_ | refine cV ?_ | refine dV ?_ | refine cE ?_ | refine dE ?_ | refine condX0 ?_ | refine condX1 ?_ | refine condNot ?_ | refine condAnd ?_ | refine condOr ?_ | refine aO ?_ | refine aB ?_ | refine aR ?_ | refine aR ?_ (by simp; omega) | refine xr (by assumption) ?_ | refine ai (by assumption) ?_ | refine condD (fun h => ?_) (fun h => ?_) | refine condB (fun h => ?_) (fun h => ?_) | refine condN (fun h => ?_) (fun h => ?_) | refine condE (fun h => ?_) (fun h => ?_) | refine condV (fun h => ?_) (fun h => ?_))
    refine ev_keep [15, 16, 17, 5] [] ?_
    exact pa_loop231 l h4 hw (by omega) _ (by simp) l [] 0 _ _ _ 0 rfl rfl (by simp)
  · rw [if_neg h4]
    refine gives_code (F := f231) rfl rfl (W_ok 300 _ _ _ _ ?_)
    repeat' ((conv => whnf); first | refine callW hp ?_ (by rfl) hpu | refine bslP (by first | rfl | (simp [pureL, pureLL, AV.pure]; done) | fail) rfl ?_ | refine TakeC.full (by first | rfl | omega | (simp; done) | (simp; omega) | fail) ?_ | refine zBs ?_ | refine zBn ?_ | refine zBv rfl rfl ?_ | refine zN ?_ | refine zC ?_ | refine zC4 ?_ | refine zOr16 ?_ | refine zC1 ?_ | refine zByte ?_ | refine zMaxL ?_ | refine zMaxR ?_ | refine zMinL ?_ | refine zMinR ?_ | refine zShr ?_ | refine zC8 ?_ | refine zQ ?_ | refine zR ?_ | refine zS ?_ | refine zA ?_ | refine zM ?_ | refine xr rfl ?_ | refine ai rfl ?_ | refine condT ?_ | refine condF ?_ | refine condG1 ?_ | refine condG0 ?_ | refine cD ?_ | refine dD ?_ | refine cB ?_ | refine dB ?_ | refine cN ?_ | refine dN ?_ | refine cV ?_ | refine dV ?_ | refine cE ?_ | refine dE ?_ | refine condX0 ?_ | refine condX1 ?_ | refine condNot ?_ | refine condAnd ?_ | refine condOr ?_ | refine aO ?_ | refine aB ?_ | refine aR ?_ | refine aR ?_ (by simp; omega) | refine xr (by assumption) ?_ | refine ai (by assumption) ?_ | refine condD (fun h => ?_) (fun h => ?_) | refine condB (fun h => ?_) (fun h => ?_) | refine condN (fun h => ?_) (fun h => ?_) | refine condE (fun h => ?_) (fun h => ?_) | refine condV (fun h => ?_) (fun h => ?_))
    (first | refine ev_fin (And.intro (by first | rfl | (simp [AV.pure, pureL]; done) | fail) ?_) | refine ev_fin0 (And.intro (by first | rfl | (simp [AV.pure, pureL]; done) | fail) ?_)); rfl
def pfR (x : Pfx × Int) : Ret := ⟨.tup [.agg x.1.enc, .int .i64 x.2], []⟩
theorem cut_gives252 (s : List UInt8) (hs : s.length < 4294967281) : Gives G 252 [.str s, .str [47]] [] ⟨.tup [.str (Lib.cut s [47]).1, .str (Lib.cut s [47]).2.1, .bool (Lib.cut s [47]).2.2], []⟩ := by
  show pCut [.str s, .str [47]] [] = _
  exact if_pos hs
theorem cut_len (s : List UInt8) : (Lib.cut s [47]).1.length ≤ s.length ∧ (Lib.cut s [47]).2.1.length ≤ s.length := by
  unfold Lib.cut
  split
  · simp; omega
  · simp
theorem pfx_ok {x : Nat} {n : Int} (hx : x < 4294967296) (h0 : 0 ≤ n) (h1 : n ≤ 32) : Pfx.ok ⟨(x : Int), n⟩ := ⟨by unfold okU; simp only; omega, by unfold okI; simp only; omega⟩
theorem parse_gives233 (s : List UInt8) (hs : s.length < 4294967281) : Gives G 233 [.str s] [] (pfR (psP s)) := by
  have hc := cut_gives252 s hs
  obtain ⟨hl1, hl2⟩ := cut_len s
  unfold psP
  generalize Lib.cut s [47] = q at *
  obtain ⟨l, r, f⟩ := q
  simp only at hc hl1 hl2 ⊢
  have hp := pad_gives231 l (by omega)
  have hn := number_gives250 r 32 (by omega)
  rcases paP_all l with ea | ⟨x, hx, _, ea⟩
  · rw [ea] at hp ⊢
    rw [if_pos (.inr (.inl (by simp only; decide)))]
    cases f
    · refine gives_code (F := f233) rfl rfl (W_ok 300 _ _ _ _ ?_)
      repeat' ((conv => whnf); first | refine bslP (by first | rfl | (simp [pureL, pureLL, AV.pure]; done) | fail) rfl ?_ | refine TakeC.full (by first | rfl | omega | (simp; done) | (simp; omega) | fail) ?_ | refine zBs ?_ | refine zBn ?_ | refine zBv rfl rfl ?_ | refine zN ?_ | refine zC ?_ | refine zC4 ?_ | refine zOr16 ?_ | refine zC1 ?_ | refine zByte ?_ | refine zMaxL ?_ | refine zMaxR ?_ | refine zMinL ?_ | refine zMinR ?_ | refine zShr ?_ | refine zC8 ?_ | refine zQ ?_ | refine zR ?_ | refine zS ?_ | refine zA ?_ | refine zM ?_ | refine xr rfl ?_ | refine ai rfl ?_ | refine condT ?_ | refine condF ?_ | refine condG1 ?_ | refine condG0 ?_ | refine cD ?_ | refine dD ?_ | refine cB ?_ | refine dB ?_ | refine cN ?_ | refine dN ?_ | refine cV ?_ | refine dV ?_ | refine cE ?_ | refine dE ?_ | refine condX0 ?_ | refine condX1 ?_ | refine condNot ?_ | refine condAnd ?_ | refine condOr ?_ | refine aO ?_ | refine aB ?_ | refine aR ?_ | refine aR ?_ (by simp; omega) | refine xr (by assumption) ?_ | refine ai (by assumption) ?_ | refine kV (hc) ?_ | refine kV (hp) ?_ | refine kV (hn) ?_ | refine condD (fun h => ?_) (fun h => ?_) | refine condB (fun h => ?_) (fun h => ?_) | refine condN (fun h => ?_) (fun h => ?_) | refine condE (fun h => ?_) (fun h => ?_) | refine condV (fun h => ?_) (fun h => ?_))
      (first | refine ev_fin (And.intro (by first | rfl | (simp [AV.pure, pureL]; done) | fail) ?_) | refine ev_fin0 (And.intro (by first | rfl | (simp [AV.pure, pureL]; done) | fail) ?_)); (conv => whnf); refine And.intro (by first | rfl | (simp [AV.pure, pureL, pureLL, *]; done) | fail) ?_; rfl
    · refine gives_code (F := f233) rfl rfl (W_ok 300 _ _ _ _ ?_)
      repeat' ((conv => whnf); first | refine bslP (by first | rfl | (simp [pureL, pureLL, AV.pure]; done) | fail) rfl ?_ | refine TakeC.full (by first | rfl | omega | (simp; done) | (simp; omega) | fail) ?_ | refine zBs ?_ | refine zBn ?_ | refine zBv rfl rfl ?_ | refine zN ?_ | refine zC ?_ | refine zC4 ?_ | refine zOr16 ?_ | refine zC1 ?_ | refine zByte ?_ | refine zMaxL ?_ | refine zMaxR ?_ | refine zMinL ?_ | refine zMinR ?_ | refine zShr ?_ | refine zC8 ?_ | refine zQ ?_ | refine zR ?_ | refine zS ?_ | refine zA ?_ | refine zM ?_ | refine xr rfl ?_ | refine ai rfl ?_ | refine condT ?_ | refine condF ?_ | refine condG1 ?_ | refine condG0 ?_ | refine cD ?_ | refine dD ?_ | refine cB ?_ | refine dB ?_ | refine cN ?_ | refine dN ?_ | refine cV ?_ | refine dV ?_ | refine cE ?_ | refine dE ?_ | refine condX0 ?_ | refine condX1 ?_ | refine condNot ?_ | refine condAnd ?_ | refine condOr ?_ | refine aO ?_ | refine aB ?_ | refine aR ?_ | refine aR ?_ (by simp; omega) | refine xr (by assumption) ?_ | refine ai (by assumption) ?_ | refine kV (hc) ?_ | refine kV (hp) ?_ | refine kV (hn) ?_ | refine condD (fun h => ?_) (fun h => ?_) | refine condB (fun h => ?_) (fun h => ?_) | refine condN (fun h => ?_) (fun h => ?_) | refine condE (fun h => ?_) (fun h => ?_) | refine condV (fun h => ?_) (fun h => ?_))
      (first | refine ev_fin (And.intro (by first | rfl | (simp [AV.pure, pureL]; done) | fail) ?_) | refine ev_fin0 (And.intro (by first | rfl | (simp [AV.pure, pureL]; done) | fail) ?_)); (conv => whnf); refine And.intro (by first | rfl | (simp [AV.pure, pureL, pureLL, *]; done) | fail) ?_; rfl
  · rw [ea] at hp ⊢
    cases f
    · rw [if_pos (.inl rfl)]
      refine gives_code (F := f233) rfl rfl (W_ok 300 _ _ _ _ ?_)
      repeat' ((conv => whnf); first | refine bslP (by first | rfl | (simp [pureL, pureLL, AV.pure]; done) | fail) rfl ?_ | refine TakeC.full (by first | rfl | omega | (simp; done) | (simp; omega) | fail) ?_ | refine zBs ?_ | refine zBn ?_ | refine zBv rfl rfl ?_ | refine zN ?_ | refine zC ?_ | refine zC4 ?_ | refine zOr16 ?_ | refine zC1 ?_ | refine zByte ?_ | refine zMaxL ?_ | refine zMaxR ?_ | refine zMinL ?_ | refine zMinR ?_ | refine zShr ?_ | refine zC8 ?_ | refine zQ ?_ | refine zR ?_ | refine zS ?_ | refine zA ?_ | refine zM ?_ | refine xr rfl ?_ | refine ai rfl ?_ | refine condT ?_ | refine condF ?_ | refine condG1 ?_ | refine condG0 ?_ | refine cD ?_ | refine dD ?_ | refine cB ?_ | refine dB ?_ | refine cN ?_ | refine dN ?_ | refine cV ?_ | refine dV ?_ | refine cE ?_ | refine dE ?_ | refine condX0 ?_ | refine condX1 ?_ | refine condNot ?_ | refine condAnd ?_ | refine condOr ?_ | refine aO ?_ | refine aB ?_ | refine aR ?_ | refine aR ?_ (by simp; omega) | refine xr (by assumption) ?_ | refine ai (by assumption) ?_ | refine kV (hc) ?_ | refine kV (hp) ?_ | refine kV (hn) ?_ | refine condD (fun h => ?_) (fun h => ?_) | refine condB (fun h => ?_) (fun h => ?_) | refine condN (fun h => ?_) (fun h => ?_) | refine condE (fun h => ?_) (fun h => ?_) | refine condV (fun h => ?_) (fun h => ?_))
      (first | refine ev_fin (And.intro (by first | rfl | (simp [AV.pure, pureL]; done) | fail) ?_) | refine ev_fin0 (And.intro (by first | rfl | (simp [AV.pure, pureL]; done) | fail) ?_)); (conv => whnf); refine And.intro (by first | rfl | (simp [AV.pure, pureL, pureLL, *]; done) | fail) ?_; rfl
    · cases hb : numB 32 r
      · rw [hb] at hn
        rw [if_pos (.inr (.inr rfl))]
        refine gives_code (F := f233) rfl rfl (W_ok 300 _ _ _ _ ?_)
        repeat' ((conv => whnf); first | refine bslP (by first | rfl | (simp [pureL, pureLL, AV.pure]; done) | fail) rfl ?_ | refine TakeC.full (by first | rfl | omega | (simp; done) | (simp; omega) | fail) ?_ | refine zBs ?_ | refine zBn ?_ | refine zBv rfl rfl ?_ | refine zN ?_ | refine zC ?_ | refine zC4 ?_ | refine zOr16 ?_ | refine zC1 ?_ | refine zByte ?_ | refine zMaxL ?_ | refine zMaxR ?_ | refine zMinL ?_ | refine zMinR ?_ | refine zShr ?_ | refine zC8 ?_ | refine zQ ?_ | refine zR ?_ | refine zS ?_ | refine zA ?_ | refine zM ?_ | refine xr rfl ?_ | refine ai rfl ?_ | refine condT ?_ | refine condF ?_ | refine condG1 ?_ | refine condG0 ?_ | refine cD ?_ | refine dD ?_ | refine cB ?_ | refine dB ?_ | refine cN ?_ | refine dN ?_ | refine cV ?_ | refine dV ?_ | refine cE ?_ | refine dE ?_ | refine condX0 ?_ | refine condX1 ?_ | refine condNot ?_ | refine condAnd ?_ | refine condOr ?_ | refine aO ?_ | refine aB ?_ | refine aR ?_ | refine aR ?_ (by simp; omega) | refine xr (by assumption) ?_ | refine ai (by assumption) ?_ | refine kV (hc) ?_ | refine kV (hp) ?_ | refine kV (hn) ?_ | refine condD (fun h => ?_) (fun h => ?_) | refine condB (fun h => ?_) (fun h => ?_) | refine condN (fun h => ?_) (fun h => ?_) | refine condE (fun h => ?_) (fun h => ?_) | refine condV (fun h => ?_) (fun h => ?_))
        (first | refine ev_fin (And.intro (by first | rfl | (simp [AV.pure, pureL]; done) | fail) ?_) | refine ev_fin0 (And.intro (by first | rfl | (simp [AV.pure, pureL]; done) | fail) ?_)); (conv => whnf); refine And.intro (by first | rfl | (simp [AV.pure, pureL, pureLL, *]; done) | fail) ?_; rfl
      · rw [hb] at hn
        obtain ⟨k, hk, _, hv⟩ := num_back hb
        rw [hv] at hn ⊢
        rw [if_neg (by simp), psV, Int.toNat_natCast]
        have vv := valid_gives178 ⟨(x : Int), (k : Int)⟩ (pfx_ok hx (by omega) hk)
        cases hvp : validP ⟨(x : Int), (k : Int)⟩
        · rw [hvp] at vv
          rw [if_neg (by simp)]
          refine gives_code (F := f233) rfl rfl (W_ok 300 _ _ _ _ ?_)
          repeat' ((conv => whnf); first | refine bslP (by first | rfl | (simp [pureL, pureLL, AV.pure]; done) | fail) rfl ?_ | refine TakeC.full (by first | rfl | omega | (simp; done) | (simp; omega) | fail) ?_ | refine zBs ?_ | refine zBn ?_ | refine zBv rfl rfl ?_ | refine zN ?_ | refine zC ?_ | refine zC4 ?_ | refine zOr16 ?_ | refine zC1 ?_ | refine zByte ?_ | refine zMaxL ?_ | refine zMaxR ?_ | refine zMinL ?_ | refine zMinR ?_ | refine zShr ?_ | refine zC8 ?_ | refine zQ ?_ | refine zR ?_ | refine zS ?_ | refine zA ?_ | refine zM ?_ | refine xr rfl ?_ | refine ai rfl ?_ | refine condT ?_ | refine condF ?_ | refine condG1 ?_ | refine condG0 ?_ | refine cD ?_ | refine dD ?_ | refine cB ?_ | refine dB ?_ | refine cN ?_ | refine dN ?_ | refine cV ?_ | refine dV ?_ | refine cE ?_ | refine dE ?_ | refine condX0 ?_ | refine condX1 ?_ | refine condNot ?_ | refine condAnd ?_ | refine condOr ?_ | refine aO ?_ | refine aB ?_ | refine aR ?_ | refine aR ?_ (by simp; omega) | refine xr (by assumption) ?_ | refine ai (by assumption) ?_ | refine kV (hc) ?_ | refine kV (hp) ?_ | refine kV (hn) ?_ | refine kV (vv) ?_ | refine condD (fun h => ?_) (fun h => ?_) | refine condB (fun h => ?_) (fun h => ?_) | refine condN (fun h => ?_) (fun h => ?_) | refine condE (fun h => ?_) (fun h => ?_) | refine condV (fun h => ?_) (fun h => ?_))
          (first | refine ev_fin (And.intro (by first | rfl | (simp [AV.pure, pureL]; done) | fail) ?_) | refine ev_fin0 (And.intro (by first | rfl | (simp [AV.pure, pureL]; done) | fail) ?_)); (conv => whnf); refine And.intro (by first | rfl | (simp [AV.pure, pureL, pureLL, *]; done) | fail) ?_; rfl
        · rw [hvp] at vv
          rw [if_pos rfl]
          refine gives_code (F := f233) rfl rfl (W_ok 300 _ _ _ _ ?_)
          repeat' ((conv => whnf); first | refine bslP (by first | rfl | (simp [pureL, pureLL, AV.pure]; done) | fail) rfl ?_ | refine TakeC.full (by first | rfl | omega | (simp; done) | (simp; omega) | fail) ?_ | refine zBs ?_ | refine zBn ?_ | refine zBv rfl rfl ?_ | refine zN ?_ | refine zC ?_ | refine zC4 ?_ | refine zOr16 ?_ | refine zC1 ?_ | refine zByte ?_ | refine zMaxL ?_ | refine zMaxR ?_ | refine zMinL ?_ | refine zMinR ?_ | refine zShr ?_ | refine zC8 ?_ | refine zQ ?_ | refine zR ?_ | refine zS ?_ | refine zA ?_ | refine zM ?_ | refine xr rfl ?_ | refine ai rfl ?_ | refine condT ?_ | refine condF ?_ | refine condG1 ?_ | refine condG0 ?_ | refine cD ?_ | refine dD ?_ | refine cB ?_ | refine dB ?_ | refine cN ?_ | refine dN ?_ | refine cV ?_ | refine dV ?_ | refine cE ?_ | refine dE ?_ | refine condX0 ?_ | refine condX1 ?_ | refine condNot ?_ | refine condAnd ?_ | refine condOr ?_ | refine aO ?_ | refine aB ?_ | refine aR ?_ | refine aR ?_ (by simp; omega) | refine xr (by assumption) ?_ | refine ai (by assumption) ?_ | refine kV (hc) ?_ | refine kV (hp) ?_ | refine kV (hn) ?_ | refine kV (vv) ?_ | refine condD (fun h => ?_) (fun h => ?_) | refine condB (fun h => ?_) (fun h => ?_) | refine condN (fun h => ?_) (fun h => ?_) | refine condE (fun h => ?_) (fun h => ?_) | refine condV (fun h => ?_) (fun h => ?_))
          (first | refine ev_fin (And.intro (by first | rfl | (simp [AV.pure, pureL]; done) | fail) ?_) | refine ev_fin0 (And.intro (by first | rfl | (simp [AV.pure, pureL]; done) | fail) ?_)); (conv => whnf); refine And.intro (by first | rfl | (simp [AV.pure, pureL, pureLL, *]; done) | fail) ?_; rfl
end Go.AM.IR
set_option maxHeartbeats 4000000
set_option maxRecDepth 20000
namespace Go.AM.IR
def prR5 (x : PRule × Int) : Ret := ⟨.tup [.agg x.1.enc, .int .i64 x.2], []⟩
theorem split_len32 (s : List UInt8) (w : List UInt8) (h : w ∈ Lib.split s [32]) : w.length ≤ s.length := by
  have := joinC_mem 32 _ w h
  rwa [join_split 32 s.length s (Nat.le_refl _)] at this
theorem words_len {s : List UInt8} {ws : List (List UInt8)} (h : wordsS s = some ws) : ∀ w ∈ ws, w.length ≤ s.length := by
  intro w hw
  unfold wordsS at h
  split at h
  · obtain rfl := Option.some.inj h
    simp at hw
  · split at h
    · cases h
    · split at h
      · cases h
      · obtain rfl := Option.some.inj h
        exact split_len32 s w hw
theorem fNum_ok (most : Int) (s : List UInt8) (h0 : 0 ≤ most) : 0 ≤ (fNum most s).1 ∧ (fNum most s).1 ≤ most := by
  unfold fNum
  split
  · split
    · exact ⟨Int.le_refl _, h0⟩
    · split
      · exact ⟨Int.le_refl _, h0⟩
      · rename_i h; exact ⟨by simp only; omega, by simp only; omega⟩
  · exact ⟨Int.le_refl _, h0⟩
theorem lenS_ok (s : List UInt8) : okI (lenS s).1 ∧ okI (lenS s).2.1 := by
  unfold lenS
  split
  · have h1 := fNum_ok 32 (s.takeWhile (· != 45)) (by omega)
    have h2 := fNum_ok 32 ((s.dropWhile (· != 45)).drop 1) (by omega)
    unfold okI
    simp only
    omega
  · unfold okI; simp only; omega
section
variable {kv : AV → Prop}
theorem zNeT {a : List UInt8} (h : kv (.bool false)) : ∃ v, binA .neq (.str a) (.str a) = some v ∧ kv v := ⟨.bool false, by show some (AV.bool (a != a)) = _; simp, h⟩
theorem zNeF {a b : List UInt8} (n : a ≠ b) (h : kv (.bool true)) : ∃ v, binA .neq (.str a) (.str b) = some v ∧ kv v := ⟨.bool true, by show some (AV.bool (a != b)) = _; simp [n], h⟩
end
theorem parse_gives334 (s : List UInt8) (hs : s.length < 4294967281) : Gives G 334 [.str s] [] (prR5 (plP s)) := by
  have hw := words_gives339 s hs
  unfold wrR at hw
  unfold plP
  cases hq : wordsS s with
  | none =>
    rw [hq] at hw
    simp only [Option.bind_none] at hw ⊢
    refine gives_code (F := f334) rfl rfl (W_ok 300 _ _ _ _ ?_)
    repeat' ((conv => whnf); first | refine bslP (by first | rfl | (simp [pureL, pureLL, AV.pure]; done) | fail) rfl ?_ | refine TakeC.full (by first | rfl | omega | (simp; done) | (simp; omega) | fail) ?_ | refine zBs ?_ | refine zBn ?_ | refine zBv rfl rfl ?_ | refine zN ?_ | refine zC ?_ | refine zC4 ?_ | refine zOr16 ?_ | refine zC1 ?_ | refine zByte ?_ | refine zMaxL ?_ | refine zMaxR ?_ | refine zMinL ?_ | refine zMinR ?_ | refine zShr ?_ | refine zC8 ?_ | refine zQ ?_ | refine zR ?_ | refine zS ?_ | refine zA ?_ | refine zM ?_ | refine xr rfl ?_ | refine ai rfl ?_ | refine condT ?_ | refine condF ?_ | refine condG1 ?_ | refine condG0 ?_ | refine cD ?_ | refine dD ?_ | refine cB ?_ | refine dB ?_ | refine cN ?_ | refine dN ?_ | refine cV ?_ | refine dV ?_ | refine cE ?_ | refine dE ?_ | refine condX0 ?_ | refine condX1 ?_ | refine condNot ?_ | refine condAnd ?_ | refine condOr ?_ | refine aO ?_ | refine aB ?_ | refine aR ?_ | refine aR ?_ (by simp; omega) | refine xr (by assumption) ?_ | refine ai (by assumption) ?_ | refine kV (hw) ?_ | refine condD (fun h => ?_) (fun h => ?_) | refine condB (fun h => ?_) (fun h => ?_) | refine condN (fun h => ?_) (fun h => ?_) | refine condE (fun h => ?_) (fun h => ?_) | refine condV (fun h => ?_) (fun h => ?_))
    (first | refine ev_fin (And.intro (by first | rfl | (simp [AV.pure, pureL]; done) | fail) ?_) | refine ev_fin0 (And.intro (by first | rfl | (simp [AV.pure, pureL]; done) | fail) ?_)); (conv => whnf); refine And.intro (by first | rfl | (simp [AV.pure, pureL, pureLL, *]; done) | fail) ?_; rfl
  | some ws =>
    rw [hq] at hw
    have hlen := words_len hq
    simp only [Option.bind_some] at hw ⊢
    by_cases hn : s = []
    · rw [if_pos hn] at hw
      have : ws = [] := by rw [hn] at hq; simpa [wordsS] using hq.symm
      subst this
      refine gives_code (F := f334) rfl rfl (W_ok 300 _ _ _ _ ?_)
      repeat' ((conv => whnf); first | refine bslP (by first | rfl | (simp [pureL, pureLL, AV.pure]; done) | fail) rfl ?_ | refine TakeC.full (by first | rfl | omega | (simp; done) | (simp; omega) | fail) ?_ | refine zBs ?_ | refine zBn ?_ | refine zBv rfl rfl ?_ | refine zN ?_ | refine zC ?_ | refine zC4 ?_ | refine zOr16 ?_ | refine zC1 ?_ | refine zByte ?_ | refine zMaxL ?_ | refine zMaxR ?_ | refine zMinL ?_ | refine zMinR ?_ | refine zShr ?_ | refine zC8 ?_ | refine zQ ?_ | refine zR ?_ | refine zS ?_ | refine zA ?_ | refine zM ?_ | refine xr rfl ?_ | refine ai rfl ?_ | refine condT ?_ | refine condF ?_ | refine condG1 ?_ | refine condG0 ?_ | refine cD ?_ | refine dD ?_ | refine cB ?_ | refine dB ?_ | refine cN ?_ | refine dN ?_ | refine cV ?_ | refine dV ?_ | refine cE ?_ | refine dE ?_ | refine condX0 ?_ | refine condX1 ?_ | refine condNot ?_ | refine condAnd ?_ | refine condOr ?_ | refine aO ?_ | refine aB ?_ | refine aR ?_ | refine aR ?_ (by simp; omega) | refine xr (by assumption) ?_ | refine ai (by assumption) ?_ | refine kV (hw) ?_ | refine condD (fun h => ?_) (fun h => ?_) | refine condB (fun h => ?_) (fun h => ?_) | refine condN (fun h => ?_) (fun h => ?_) | refine condE (fun h => ?_) (fun h => ?_) | refine condV (fun h => ?_) (fun h => ?_))
      (first | refine ev_fin (And.intro (by first | rfl | (simp [AV.pure, pureL]; done) | fail) ?_) | refine ev_fin0 (And.intro (by first | rfl | (simp [AV.pure, pureL]; done) | fail) ?_)); (conv => whnf); refine And.intro (by first | rfl | (simp [AV.pure, pureL, pureLL, *]; done) | fail) ?_; rfl
    · rw [if_neg hn] at hw
      match ws, hlen, hw with
      | [], hlen, hw =>
        refine gives_code (F := f334) rfl rfl (W_ok 300 _ _ _ _ ?_)
        repeat' ((conv => whnf); first | refine bslP (by first | rfl | (simp [pureL, pureLL, AV.pure]; done) | fail) rfl ?_ | refine TakeC.full (by first | rfl | omega | (simp; done) | (simp; omega) | fail) ?_ | refine zBs ?_ | refine zBn ?_ | refine zBv rfl rfl ?_ | refine zN ?_ | refine zC ?_ | refine zC4 ?_ | refine zOr16 ?_ | refine zC1 ?_ | refine zByte ?_ | refine zMaxL ?_ | refine zMaxR ?_ | refine zMinL ?_ | refine zMinR ?_ | refine zShr ?_ | refine zC8 ?_ | refine zQ ?_ | refine zR ?_ | refine zS ?_ | refine zA ?_ | refine zM ?_ | refine xr rfl ?_ | refine ai rfl ?_ | refine condT ?_ | refine condF ?_ | refine condG1 ?_ | refine condG0 ?_ | refine cD ?_ | refine dD ?_ | refine cB ?_ | refine dB ?_ | refine cN ?_ | refine dN ?_ | refine cV ?_ | refine dV ?_ | refine cE ?_ | refine dE ?_ | refine condX0 ?_ | refine condX1 ?_ | refine condNot ?_ | refine condAnd ?_ | refine condOr ?_ | refine aO ?_ | refine aB ?_ | refine aR ?_ | refine aR ?_ (by simp; omega) | refine xr (by assumption) ?_ | refine ai (by assumption) ?_ | refine callW (hw) ?_ | refine condD (fun h => ?_) (fun h => ?_) | refine condB (fun h => ?_) (fun h => ?_) | refine condN (fun h => ?_) (fun h => ?_) | refine condE (fun h => ?_) (fun h => ?_) | refine condV (fun h => ?_) (fun h => ?_))
        (first | refine ev_fin (And.intro (by first | rfl | (simp [AV.pure, pureL]; done) | fail) ?_) | refine ev_fin0 (And.intro (by first | rfl | (simp [AV.pure, pureL]; done) | fail) ?_)); (conv => whnf); refine And.intro (by first | rfl | (simp [AV.pure, pureL, pureLL, *]; done) | fail) ?_; rfl
      | [v], hlen, hw =>
        refine gives_code (F := f334) rfl rfl (W_ok 300 _ _ _ _ ?_)
        repeat' ((conv => whnf); first | refine bslP (by first | rfl | (simp [pureL, pureLL, AV.pure]; done) | fail) rfl ?_ | refine TakeC.full (by first | rfl | omega | (simp; done) | (simp; omega) | fail) ?_ | refine zBs ?_ | refine zBn ?_ | refine zBv rfl rfl ?_ | refine zN ?_ | refine zC ?_ | refine zC4 ?_ | refine zOr16 ?_ | refine zC1 ?_ | refine zByte ?_ | refine zMaxL ?_ | refine zMaxR ?_ | refine zMinL ?_ | refine zMinR ?_ | refine zShr ?_ | refine zC8 ?_ | refine zQ ?_ | refine zR ?_ | refine zS ?_ | refine zA ?_ | refine zM ?_ | refine xr rfl ?_ | refine ai rfl ?_ | refine condT ?_ | refine condF ?_ | refine condG1 ?_ | refine condG0 ?_ | refine cD ?_ | refine dD ?_ | refine cB ?_ | refine dB ?_ | refine cN ?_ | refine dN ?_ | refine cV ?_ | refine dV ?_ | refine cE ?_ | refine dE ?_ | refine condX0 ?_ | refine condX1 ?_ | refine condNot ?_ | refine condAnd ?_ | refine condOr ?_ | refine aO ?_ | refine aB ?_ | refine aR ?_ | refine aR ?_ (by simp; omega) | refine xr (by assumption) ?_ | refine ai (by assumption) ?_ | refine callW (hw) ?_ | refine condD (fun h => ?_) (fun h => ?_) | refine condB (fun h => ?_) (fun h => ?_) | refine condN (fun h => ?_) (fun h => ?_) | refine condE (fun h => ?_) (fun h => ?_) | refine condV (fun h => ?_) (fun h => ?_))
        (first | refine ev_fin (And.intro (by first | rfl | (simp [AV.pure, pureL]; done) | fail) ?_) | refine ev_fin0 (And.intro (by first | rfl | (simp [AV.pure, pureL]; done) | fail) ?_)); (conv => whnf); refine And.intro (by first | rfl | (simp [AV.pure, pureL, pureLL, *]; done) | fail) ?_; rfl
      | [v, p], hlen, hw =>
        have hp := parse_gives233 p (by have := hlen p (by simp); omega)
        have hok := psP_ok (s := p)
        unfold plW
        rcases hpp : psP p with ⟨q, e⟩
        rw [hpp] at hp hok
        simp only [hpp] at hok ⊢
        by_cases e0 : e = 0
        · subst e0
          rw [if_pos rfl]
          have ho := hok rfl
          obtain ⟨pv, hpv⟩ : ∃ b, b = (v == wPermit) := ⟨_, rfl⟩
          have zv : ∀ {kv : AV → Prop}, kv (.bool pv) → ∃ x, binA .eql (.str v) (.str wPermit) = some x ∧ kv x := fun h => ⟨_, by show some (AV.bool (v == wPermit)) = _; rw [← hpv], h⟩
          rw [← hpv]
          have ht := text_gives332 ⟨pv, q, q.len, q.len⟩ ⟨ho, ho.len, ho.len⟩
          unfold txR at ht
          simp only
          by_cases hc : chkS ⟨pv, q, q.len, q.len⟩ = 0
          · rw [if_pos hc] at ht
            by_cases hx : rtext ⟨pv, q, q.len, q.len⟩ = s
            · rw [if_pos ⟨hc, hx⟩]
              rw [hx] at ht
              refine gives_code (F := f334) rfl rfl (W_ok 300 _ _ _ _ ?_)
              repeat' ((conv => whnf); first | refine zv ?_ | refine zNeT ?_ | refine bslP (by first | rfl | (simp [pureL, pureLL, AV.pure]; done) | fail) rfl ?_ | refine TakeC.full (by first | rfl | omega | (simp; done) | (simp; omega) | fail) ?_ | refine zBs ?_ | refine zBn ?_ | refine zBv rfl rfl ?_ | refine zN ?_ | refine zC ?_ | refine zC4 ?_ | refine zOr16 ?_ | refine zC1 ?_ | refine zByte ?_ | refine zMaxL ?_ | refine zMaxR ?_ | refine zMinL ?_ | refine zMinR ?_ | refine zShr ?_ | refine zC8 ?_ | refine zQ ?_ | refine zR ?_ | refine zS ?_ | refine zA ?_ | refine zM ?_ | refine xr rfl ?_ | refine ai rfl ?_ | refine condT ?_ | refine condF ?_ | refine condG1 ?_ | refine condG0 ?_ | refine cD ?_ | refine dD ?_ | refine cB ?_ | refine dB ?_ | refine cN ?_ | refine dN ?_ | refine cV ?_ | refine dV ?_ | refine cE ?_ | refine dE ?_ | refine condX0 ?_ | refine condX1 ?_ | refine condNot ?_ | refine condAnd ?_ | refine condOr ?_ | refine aO ?_ | refine aB ?_ | refine aR ?_ | refine aR ?_ (by simp; omega) | refine xr (by assumption) ?_ | refine ai (by assumption) ?_ | refine callW (hw) ?_ | refine kV (hp) ?_ | refine kV (ht) ?_ | refine condD (fun h => ?_) (fun h => ?_) | refine condB (fun h => ?_) (fun h => ?_) | refine condN (fun h => ?_) (fun h => ?_) | refine condE (fun h => ?_) (fun h => ?_) | refine condV (fun h => ?_) (fun h => ?_))
              (first | refine ev_fin (And.intro (by first | rfl | (simp [AV.pure, pureL]; done) | fail) ?_) | refine ev_fin0 (And.intro (by first | rfl | (simp [AV.pure, pureL]; done) | fail) ?_)); (conv => whnf); refine And.intro (by first | rfl | (simp [AV.pure, pureL, pureLL, *]; done) | fail) ?_; rfl
            · rw [if_neg (fun h => hx h.2)]
              generalize rtext ⟨pv, q, q.len, q.len⟩ = t at *
              refine gives_code (F := f334) rfl rfl (W_ok 300 _ _ _ _ ?_)
              repeat' ((conv => whnf); first | refine zv ?_ | refine zNeF hx ?_ | refine bslP (by first | rfl | (simp [pureL, pureLL, AV.pure]; done) | fail) rfl ?_ | refine TakeC.full (by first | rfl | omega | (simp; done) | (simp; omega) | fail) ?_ | refine zBs ?_ | refine zBn ?_ | refine zBv rfl rfl ?_ | refine zN ?_ | refine zC ?_ | refine zC4 ?_ | refine zOr16 ?_ | refine zC1 ?_ | refine zByte ?_ | refine zMaxL ?_ | refine zMaxR ?_ | refine zMinL ?_ | refine zMinR ?_ | refine zShr ?_ | refine zC8 ?_ | refine zQ ?_ | refine zR ?_ | refine zS ?_ | refine zA ?_ | refine zM ?_ | refine xr rfl ?_ | refine ai rfl ?_ | refine condT ?_ | refine condF ?_ | refine condG1 ?_ | refine condG0 ?_ | refine cD ?_ | refine dD ?_ | refine cB ?_ | refine dB ?_ | refine cN ?_ | refine dN ?_ | refine cV ?_ | refine dV ?_ | refine cE ?_ | refine dE ?_ | refine condX0 ?_ | refine condX1 ?_ | refine condNot ?_ | refine condAnd ?_ | refine condOr ?_ | refine aO ?_ | refine aB ?_ | refine aR ?_ | refine aR ?_ (by simp; omega) | refine xr (by assumption) ?_ | refine ai (by assumption) ?_ | refine callW (hw) ?_ | refine kV (hp) ?_ | refine kV (ht) ?_ | refine condD (fun h => ?_) (fun h => ?_) | refine condB (fun h => ?_) (fun h => ?_) | refine condN (fun h => ?_) (fun h => ?_) | refine condE (fun h => ?_) (fun h => ?_) | refine condV (fun h => ?_) (fun h => ?_))
              (first | refine ev_fin (And.intro (by first | rfl | (simp [AV.pure, pureL]; done) | fail) ?_) | refine ev_fin0 (And.intro (by first | rfl | (simp [AV.pure, pureL]; done) | fail) ?_)); (conv => whnf); refine And.intro (by first | rfl | (simp [AV.pure, pureL, pureLL, *]; done) | fail) ?_; rfl
          · rw [if_neg hc] at ht
            rw [if_neg (fun h => hc h.1)]
            generalize chkS ⟨pv, q, q.len, q.len⟩ = k at *
            refine gives_code (F := f334) rfl rfl (W_ok 300 _ _ _ _ ?_)
            repeat' ((conv => whnf); first | refine zv ?_ | refine bslP (by first | rfl | (simp [pureL, pureLL, AV.pure]; done) | fail) rfl ?_ | refine TakeC.full (by first | rfl | omega | (simp; done) | (simp; omega) | fail) ?_ | refine zBs ?_ | refine zBn ?_ | refine zBv rfl rfl ?_ | refine zN ?_ | refine zC ?_ | refine zC4 ?_ | refine zOr16 ?_ | refine zC1 ?_ | refine zByte ?_ | refine zMaxL ?_ | refine zMaxR ?_ | refine zMinL ?_ | refine zMinR ?_ | refine zShr ?_ | refine zC8 ?_ | refine zQ ?_ | refine zR ?_ | refine zS ?_ | refine zA ?_ | refine zM ?_ | refine xr rfl ?_ | refine ai rfl ?_ | refine condT ?_ | refine condF ?_ | refine condG1 ?_ | refine condG0 ?_ | refine cD ?_ | refine dD ?_ | refine cB ?_ | refine dB ?_ | refine cN ?_ | refine dN ?_ | refine cV ?_ | refine dV ?_ | refine cE ?_ | refine dE ?_ | refine condX0 ?_ | refine condX1 ?_ | refine condNot ?_ | refine condAnd ?_ | refine condOr ?_ | refine aO ?_ | refine aB ?_ | refine aR ?_ | refine aR ?_ (by simp; omega) | refine xr (by assumption) ?_ | refine ai (by assumption) ?_ | refine callW (hw) ?_ | refine kV (hp) ?_ | refine kV (ht) ?_ | refine condD (fun h => ?_) (fun h => ?_) | refine condB (fun h => ?_) (fun h => ?_) | refine condN (fun h => ?_) (fun h => ?_) | refine condE (fun h => ?_) (fun h => ?_) | refine condV (fun h => ?_) (fun h => ?_))
            (first | refine ev_fin (And.intro (by first | rfl | (simp [AV.pure, pureL]; done) | fail) ?_) | refine ev_fin0 (And.intro (by first | rfl | (simp [AV.pure, pureL]; done) | fail) ?_)); (conv => whnf); refine And.intro (by first | rfl | (simp [AV.pure, pureL, pureLL, *]; done) | fail) ?_; rfl
        · rw [if_neg e0]
          refine gives_code (F := f334) rfl rfl (W_ok 300 _ _ _ _ ?_)
          repeat' ((conv => whnf); first | refine bslP (by first | rfl | (simp [pureL, pureLL, AV.pure]; done) | fail) rfl ?_ | refine TakeC.full (by first | rfl | omega | (simp; done) | (simp; omega) | fail) ?_ | refine zBs ?_ | refine zBn ?_ | refine zBv rfl rfl ?_ | refine zN ?_ | refine zC ?_ | refine zC4 ?_ | refine zOr16 ?_ | refine zC1 ?_ | refine zByte ?_ | refine zMaxL ?_ | refine zMaxR ?_ | refine zMinL ?_ | refine zMinR ?_ | refine zShr ?_ | refine zC8 ?_ | refine zQ ?_ | refine zR ?_ | refine zS ?_ | refine zA ?_ | refine zM ?_ | refine xr rfl ?_ | refine ai rfl ?_ | refine condT ?_ | refine condF ?_ | refine condG1 ?_ | refine condG0 ?_ | refine cD ?_ | refine dD ?_ | refine cB ?_ | refine dB ?_ | refine cN ?_ | refine dN ?_ | refine cV ?_ | refine dV ?_ | refine cE ?_ | refine dE ?_ | refine condX0 ?_ | refine condX1 ?_ | refine condNot ?_ | refine condAnd ?_ | refine condOr ?_ | refine aO ?_ | refine aB ?_ | refine aR ?_ | refine aR ?_ (by simp; omega) | refine xr (by assumption) ?_ | refine ai (by assumption) ?_ | refine callW (hw) ?_ | refine kV (hp) ?_ | refine condD (fun h => ?_) (fun h => ?_) | refine condB (fun h => ?_) (fun h => ?_) | refine condN (fun h => ?_) (fun h => ?_) | refine condE (fun h => ?_) (fun h => ?_) | refine condV (fun h => ?_) (fun h => ?_))
          (first | refine ev_fin (And.intro (by first | rfl | (simp [AV.pure, pureL]; done) | fail) ?_) | refine ev_fin0 (And.intro (by first | rfl | (simp [AV.pure, pureL]; done) | fail) ?_)); (conv => whnf); refine And.intro (by first | rfl | (simp [AV.pure, pureL, pureLL, *]; done) | fail) ?_; rfl
      | [v, p, l], hlen, hw =>
        have hp := parse_gives233 p (by have := hlen p (by simp); omega)
        have hl := len_gives340 l (by have := hlen l (by simp); omega)
        have hok := psP_ok (s := p)
        have hlo := lenS_ok l
        unfold plW
        unfold lnR at hl
        rcases hpp : psP p with ⟨q, e⟩
        rcases hll : lenS l with ⟨a, b, o⟩
        rw [hpp] at hp hok
        rw [hll] at hlo hl
        simp only [hpp, hll] at hok hlo hl ⊢
        by_cases e0 : e = 0
        · subst e0
          rw [if_pos rfl]
          have ho := hok rfl
          obtain ⟨pv, hpv⟩ : ∃ b, b = (v == wPermit) := ⟨_, rfl⟩
          have zv : ∀ {kv : AV → Prop}, kv (.bool pv) → ∃ x, binA .eql (.str v) (.str wPermit) = some x ∧ kv x := fun h => ⟨_, by show some (AV.bool (v == wPermit)) = _; rw [← hpv], h⟩
          rw [← hpv]
          cases o
          · rw [if_neg (by simp)]
            simp only
            refine gives_code (F := f334) rfl rfl (W_ok 300 _ _ _ _ ?_)
            repeat' ((conv => whnf); first | refine zv ?_ | refine bslP (by first | rfl | (simp [pureL, pureLL, AV.pure]; done) | fail) rfl ?_ | refine TakeC.full (by first | rfl | omega | (simp; done) | (simp; omega) | fail) ?_ | refine zBs ?_ | refine zBn ?_ | refine zBv rfl rfl ?_ | refine zN ?_ | refine zC ?_ | refine zC4 ?_ | refine zOr16 ?_ | refine zC1 ?_ | refine zByte ?_ | refine zMaxL ?_ | refine zMaxR ?_ | refine zMinL ?_ | refine zMinR ?_ | refine zShr ?_ | refine zC8 ?_ | refine zQ ?_ | refine zR ?_ | refine zS ?_ | refine zA ?_ | refine zM ?_ | refine xr rfl ?_ | refine ai rfl ?_ | refine condT ?_ | refine condF ?_ | refine condG1 ?_ | refine condG0 ?_ | refine cD ?_ | refine dD ?_ | refine cB ?_ | refine dB ?_ | refine cN ?_ | refine dN ?_ | refine cV ?_ | refine dV ?_ | refine cE ?_ | refine dE ?_ | refine condX0 ?_ | refine condX1 ?_ | refine condNot ?_ | refine condAnd ?_ | refine condOr ?_ | refine aO ?_ | refine aB ?_ | refine aR ?_ | refine aR ?_ (by simp; omega) | refine xr (by assumption) ?_ | refine ai (by assumption) ?_ | refine callW (hw) ?_ | refine kV (hp) ?_ | refine kV (hl) ?_ | refine condD (fun h => ?_) (fun h => ?_) | refine condB (fun h => ?_) (fun h => ?_) | refine condN (fun h => ?_) (fun h => ?_) | refine condE (fun h => ?_) (fun h => ?_) | refine condV (fun h => ?_) (fun h => ?_))
            (first | refine ev_fin (And.intro (by first | rfl | (simp [AV.pure, pureL]; done) | fail) ?_) | refine ev_fin0 (And.intro (by first | rfl | (simp [AV.pure, pureL]; done) | fail) ?_)); (conv => whnf); refine And.intro (by first | rfl | (simp [AV.pure, pureL, pureLL, *]; done) | fail) ?_; rfl
          · rw [if_pos rfl]
            have ht := text_gives332 ⟨pv, q, a, b⟩ ⟨ho, hlo.1, hlo.2⟩
            unfold txR at ht
            simp only
            by_cases hc : chkS ⟨pv, q, a, b⟩ = 0
            · rw [if_pos hc] at ht
              by_cases hx : rtext ⟨pv, q, a, b⟩ = s
              · rw [if_pos ⟨hc, hx⟩]
                rw [hx] at ht
                refine gives_code (F := f334) rfl rfl (W_ok 300 _ _ _ _ ?_)
                repeat' ((conv => whnf); first | refine zv ?_ | refine zNeT ?_ | refine bslP (by first | rfl | (simp [pureL, pureLL, AV.pure]; done) | fail) rfl ?_ | refine TakeC.full (by first | rfl | omega | (simp; done) | (simp; omega) | fail) ?_ | refine zBs ?_ | refine zBn ?_ | refine zBv rfl rfl ?_ | refine zN ?_ | refine zC ?_ | refine zC4 ?_ | refine zOr16 ?_ | refine zC1 ?_ | refine zByte ?_ | refine zMaxL ?_ | refine zMaxR ?_ | refine zMinL ?_ | refine zMinR ?_ | refine zShr ?_ | refine zC8 ?_ | refine zQ ?_ | refine zR ?_ | refine zS ?_ | refine zA ?_ | refine zM ?_ | refine xr rfl ?_ | refine ai rfl ?_ | refine condT ?_ | refine condF ?_ | refine condG1 ?_ | refine condG0 ?_ | refine cD ?_ | refine dD ?_ | refine cB ?_ | refine dB ?_ | refine cN ?_ | refine dN ?_ | refine cV ?_ | refine dV ?_ | refine cE ?_ | refine dE ?_ | refine condX0 ?_ | refine condX1 ?_ | refine condNot ?_ | refine condAnd ?_ | refine condOr ?_ | refine aO ?_ | refine aB ?_ | refine aR ?_ | refine aR ?_ (by simp; omega) | refine xr (by assumption) ?_ | refine ai (by assumption) ?_ | refine callW (hw) ?_ | refine kV (hp) ?_ | refine kV (hl) ?_ | refine kV (ht) ?_ | refine condD (fun h => ?_) (fun h => ?_) | refine condB (fun h => ?_) (fun h => ?_) | refine condN (fun h => ?_) (fun h => ?_) | refine condE (fun h => ?_) (fun h => ?_) | refine condV (fun h => ?_) (fun h => ?_))
                (first | refine ev_fin (And.intro (by first | rfl | (simp [AV.pure, pureL]; done) | fail) ?_) | refine ev_fin0 (And.intro (by first | rfl | (simp [AV.pure, pureL]; done) | fail) ?_)); (conv => whnf); refine And.intro (by first | rfl | (simp [AV.pure, pureL, pureLL, *]; done) | fail) ?_; rfl
              · rw [if_neg (fun h => hx h.2)]
                generalize rtext ⟨pv, q, a, b⟩ = t at *
                refine gives_code (F := f334) rfl rfl (W_ok 300 _ _ _ _ ?_)
                repeat' ((conv => whnf); first | refine zv ?_ | refine zNeF hx ?_ | refine bslP (by first | rfl | (simp [pureL, pureLL, AV.pure]; done) | fail) rfl ?_ | refine TakeC.full (by first | rfl | omega | (simp; done) | (simp; omega) | fail) ?_ | refine zBs ?_ | refine zBn ?_ | refine zBv rfl rfl ?_ | refine zN ?_ | refine zC ?_ | refine zC4 ?_ | refine zOr16 ?_ | refine zC1 ?_ | refine zByte ?_ | refine zMaxL ?_ | refine zMaxR ?_ | refine zMinL ?_ | refine zMinR ?_ | refine zShr ?_ | refine zC8 ?_ | refine zQ ?_ | refine zR ?_ | refine zS ?_ | refine zA ?_ | refine zM ?_ | refine xr rfl ?_ | refine ai rfl ?_ | refine condT ?_ | refine condF ?_ | refine condG1 ?_ | refine condG0 ?_ | refine cD ?_ | refine dD ?_ | refine cB ?_ | refine dB ?_ | refine cN ?_ | refine dN ?_ | refine cV ?_ | refine dV ?_ | refine cE ?_ | refine dE ?_ | refine condX0 ?_ | refine condX1 ?_ | refine condNot ?_ | refine condAnd ?_ | refine condOr ?_ | refine aO ?_ | refine aB ?_ | refine aR ?_ | refine aR ?_ (by simp; omega) | refine xr (by assumption) ?_ | refine ai (by assumption) ?_ | refine callW (hw) ?_ | refine kV (hp) ?_ | refine kV (hl) ?_ | refine kV (ht) ?_ | refine condD (fun h => ?_) (fun h => ?_) | refine condB (fun h => ?_) (fun h => ?_) | refine condN (fun h => ?_) (fun h => ?_) | refine condE (fun h => ?_) (fun h => ?_) | refine condV (fun h => ?_) (fun h => ?_))
                (first | refine ev_fin (And.intro (by first | rfl | (simp [AV.pure, pureL]; done) | fail) ?_) | refine ev_fin0 (And.intro (by first | rfl | (simp [AV.pure, pureL]; done) | fail) ?_)); (conv => whnf); refine And.intro (by first | rfl | (simp [AV.pure, pureL, pureLL, *]; done) | fail) ?_; rfl
            · rw [if_neg hc] at ht
              rw [if_neg (fun h => hc h.1)]
              generalize chkS ⟨pv, q, a, b⟩ = k at *
              refine gives_code (F := f334) rfl rfl (W_ok 300 _ _ _ _ ?_)
              repeat' ((conv => whnf); first | refine zv ?_ | refine bslP (by first | rfl | (simp [pureL, pureLL, AV.pure]; done) | fail) rfl ?_ | refine TakeC.full (by first | rfl | omega | (simp; done) | (simp; omega) | fail) ?_ | refine zBs ?_ | refine zBn ?_ | refine zBv rfl rfl ?_ | refine zN ?_ | refine zC ?_ | refine zC4 ?_ | refine zOr16 ?_ | refine zC1 ?_ | refine zByte ?_ | refine zMaxL ?_ | refine zMaxR ?_ | refine zMinL ?_ | refine zMinR ?_ | refine zShr ?_ | refine zC8 ?_ | refine zQ ?_ | refine zR ?_ | refine zS ?_ | refine zA ?_ | refine zM ?_ | refine xr rfl ?_ | refine ai rfl ?_ | refine condT ?_ | refine condF ?_ | refine condG1 ?_ | refine condG0 ?_ | refine cD ?_ | refine dD ?_ | refine cB ?_ | refine dB ?_ | refine cN ?_ | refine dN ?_ | refine cV ?_ | refine dV ?_ | refine cE ?_ | refine dE ?_ | refine condX0 ?_ | refine condX1 ?_ | refine condNot ?_ | refine condAnd ?_ | refine condOr ?_ | refine aO ?_ | refine aB ?_ | refine aR ?_ | refine aR ?_ (by simp; omega) | refine xr (by assumption) ?_ | refine ai (by assumption) ?_ | refine callW (hw) ?_ | refine kV (hp) ?_ | refine kV (hl) ?_ | refine kV (ht) ?_ | refine condD (fun h => ?_) (fun h => ?_) | refine condB (fun h => ?_) (fun h => ?_) | refine condN (fun h => ?_) (fun h => ?_) | refine condE (fun h => ?_) (fun h => ?_) | refine condV (fun h => ?_) (fun h => ?_))
              (first | refine ev_fin (And.intro (by first | rfl | (simp [AV.pure, pureL]; done) | fail) ?_) | refine ev_fin0 (And.intro (by first | rfl | (simp [AV.pure, pureL]; done) | fail) ?_)); (conv => whnf); refine And.intro (by first | rfl | (simp [AV.pure, pureL, pureLL, *]; done) | fail) ?_; rfl
        · rw [if_neg e0]
          refine gives_code (F := f334) rfl rfl (W_ok 300 _ _ _ _ ?_)
          repeat' ((conv => whnf); first | refine bslP (by first | rfl | (simp [pureL, pureLL, AV.pure]; done) | fail) rfl ?_ | refine TakeC.full (by first | rfl | omega | (simp; done) | (simp; omega) | fail) ?_ | refine zBs ?_ | refine zBn ?_ | refine zBv rfl rfl ?_ | refine zN ?_ | refine zC ?_ | refine zC4 ?_ | refine zOr16 ?_ | refine zC1 ?_ | refine zByte ?_ | refine zMaxL ?_ | refine zMaxR ?_ | refine zMinL ?_ | refine zMinR ?_ | refine zShr ?_ | refine zC8 ?_ | refine zQ ?_ | refine zR ?_ | refine zS ?_ | refine zA ?_ | refine zM ?_ | refine xr rfl ?_ | refine ai rfl ?_ | refine condT ?_ | refine condF ?_ | refine condG1 ?_ | refine condG0 ?_ | refine cD ?_ | refine dD ?_ | refine cB ?_ | refine dB ?_ | refine cN ?_ | refine dN ?_ | refine cV ?_ | refine dV ?_ | refine cE ?_ | refine dE ?_ | refine condX0 ?_ | refine condX1 ?_ | refine condNot ?_ | refine condAnd ?_ | refine condOr ?_ | refine aO ?_ | refine aB ?_ | refine aR ?_ | refine aR ?_ (by simp; omega) | refine xr (by assumption) ?_ | refine ai (by assumption) ?_ | refine callW (hw) ?_ | refine kV (hp) ?_ | refine condD (fun h => ?_) (fun h => ?_) | refine condB (fun h => ?_) (fun h => ?_) | refine condN (fun h => ?_) (fun h => ?_) | refine condE (fun h => ?_) (fun h => ?_) | refine condV (fun h => ?_) (fun h => ?_))
          (first | refine ev_fin (And.intro (by first | rfl | (simp [AV.pure, pureL]; done) | fail) ?_) | refine ev_fin0 (And.intro (by first | rfl | (simp [AV.pure, pureL]; done) | fail) ?_)); (conv => whnf); refine And.intro (by first | rfl | (simp [AV.pure, pureL, pureLL, *]; done) | fail) ?_; rfl
      | v :: p :: l :: w :: r, hlen, hw =>
        have hll : ((v :: p :: l :: w :: r).map encS).length = r.length + 4 := by simp
        have hpl : pureLL ((v :: p :: l :: w :: r).map encS) = true := pureLL_words _
        generalize (v :: p :: l :: w :: r).map encS = es at *
        have hpu : (AV.tup [AV.sl 1 es, AV.int .i64 0]).pure = true := by simp [AV.pure, pureL, hpl]
        simp only [plW]
        refine gives_code (F := f334) rfl rfl (W_ok 300 _ _ _ _ ?_)
        repeat' ((conv => whnf); first | refine callW hw ?_ (by rfl) hpu | refine bslP (by first | rfl | (simp [pureL, pureLL, AV.pure]; done) | fail) rfl ?_ | refine TakeC.full (by first | rfl | omega | (simp; done) | (simp; omega) | fail) ?_ | refine zBs ?_ | refine zBn ?_ | refine zBv rfl rfl ?_ | refine zN ?_ | refine zC ?_ | refine zC4 ?_ | refine zOr16 ?_ | refine zC1 ?_ | refine zByte ?_ | refine zMaxL ?_ | refine zMaxR ?_ | refine zMinL ?_ | refine zMinR ?_ | refine zShr ?_ | refine zC8 ?_ | refine zQ ?_ | refine zR ?_ | refine zS ?_ | refine zA ?_ | refine zM ?_ | refine xr rfl ?_ | refine ai rfl ?_ | refine condT ?_ | refine condF ?_ | refine condG1 ?_ | refine condG0 ?_ | refine cD ?_ | refine dD ?_ | refine cB ?_ | refine dB ?_ | refine cN ?_ | refine dN ?_ | refine cV ?_ | refine dV ?_ | refine cE ?_ | refine dE ?_ | refine condX0 ?_ | refine condX1 ?_ | refine condNot ?_ | refine condAnd ?_ | refine condOr ?_ | refine aO ?_ | refine aB ?_ | refine aR ?_ | refine aR ?_ (by simp; omega) | refine xr (by assumption) ?_ | refine ai (by assumption) ?_ | refine condD (fun h => ?_) (fun h => ?_) | refine condB (fun h => ?_) (fun h => ?_) | refine condN (fun h => ?_) (fun h => ?_) | refine condE (fun h => ?_) (fun h => ?_) | refine condV (fun h => ?_) (fun h => ?_))
        (first | refine ev_fin (And.intro (by first | rfl | (simp [AV.pure, pureL]; done) | fail) ?_) | refine ev_fin0 (And.intro (by first | rfl | (simp [AV.pure, pureL]; done) | fail) ?_)); (conv => whnf); refine And.intro (by first | rfl | (simp [AV.pure, pureL, pureLL, *]; done) | fail) ?_; rfl
end Go.AM.IR
set_option maxHeartbeats 4000000
set_option maxRecDepth 20000
namespace Go.AM.IR
theorem parse_gives234 (s : List UInt8) (hs : s.length < 2 ^ 40) : Gives G 234 [.str s] [] (pfR (psR s)) := by
  have ha := address_gives251 s hs
  rcases adr_all s with e | ⟨x, hx, es, hl, ea⟩
  · rw [show psR s = (⟨0, 0⟩, 2) from by unfold psR; rw [e, if_pos (.inl (by decide))]]
    rw [e] at ha
    refine gives_code (F := f234) rfl rfl (W_ok 300 _ _ _ _ ?_)
    repeat' ((conv => whnf); first | refine bslP (by first | rfl | (simp [pureL, pureLL, AV.pure]; done) | fail) rfl ?_ | refine TakeC.full (by first | rfl | omega | (simp; done) | (simp; omega) | fail) ?_ | refine zBs ?_ | refine zBn ?_ | refine zBv rfl rfl ?_ | refine zN ?_ | refine zC ?_ | refine zC4 ?_ | refine zOr16 ?_ | refine zC1 ?_ | refine zByte ?_ | refine zMaxL ?_ | refine zMaxR ?_ | refine zMinL ?_ | refine zMinR ?_ | refine zShr ?_ | refine zC8 ?_ | refine zQ ?_ | refine zR ?_ | refine zS ?_ | refine zA ?_ | refine zM ?_ | refine xr rfl ?_ | refine ai rfl ?_ | refine condT ?_ | refine condF ?_ | refine condG1 ?_ | refine condG0 ?_ | refine cD ?_ | refine dD ?_ | refine cB ?_ | refine dB ?_ | refine cN ?_ | refine dN ?_ | refine cV ?_ | refine dV ?_ | refine cE ?_ | refine dE ?_ | refine condX0 ?_ | refine condX1 ?_ | refine condNot ?_ | refine condAnd ?_ | refine condOr ?_ | refine aO ?_ | refine aB ?_ | refine aR ?_ | refine aR ?_ (by simp; omega) | refine xr (by assumption) ?_ | refine ai (by assumption) ?_ | refine kV (ha) ?_ | refine condD (fun h => ?_) (fun h => ?_) | refine condB (fun h => ?_) (fun h => ?_) | refine condN (fun h => ?_) (fun h => ?_) | refine condE (fun h => ?_) (fun h => ?_) | refine condV (fun h => ?_) (fun h => ?_))
    (first | refine ev_fin (And.intro (by first | rfl | (simp [AV.pure, pureL]; done) | fail) ?_) | refine ev_fin0 (And.intro (by first | rfl | (simp [AV.pure, pureL]; done) | fail) ?_)); (conv => whnf); refine And.intro (by first | rfl | (simp [AV.pure, pureL, pureLL, *]; done) | fail) ?_; rfl
  · have hg : ∀ c : UInt8, s[((dots x).length : Int).toNat]? = some c → s[(dots x).length]? = some c := fun c h => h
    unfold psR
    rw [ea] at ha ⊢
    simp only [Int.toNat_natCast]
    by_cases hal : (dots x).length < s.length
    · obtain ⟨b, hsb⟩ : ∃ b, s[(dots x).length]? = some b := ⟨s[(dots x).length], List.getElem?_eq_getElem hal⟩
      have hb : s[((dots x).length : Int).toNat]? = some b := hsb
      by_cases hz : b = 47
      · subst hz
        rw [if_neg (by rintro (h | h | h); omega; omega; exact h hsb)]
        have hn := number_gives253 s ((dots x).length + 1) 32 ((dots x).length + 1) (by omega) hs (by omega) (by omega)
        rcases ref_miss (s := s) (a := (dots x).length + 1) (most := 32) with q | ⟨n, hk, q, hd, h1, hl2⟩
        · rw [q] at hn ⊢
          rw [if_pos (by simp only; omega)]
          generalize (dots x).length = d at *
          refine gives_code (F := f234) rfl rfl (W_ok 300 _ _ _ _ ?_)
          repeat' ((conv => whnf); first | refine zIstr (b := 47) ?_ hb (by omega) | refine bslP (by first | rfl | (simp [pureL, pureLL, AV.pure]; done) | fail) rfl ?_ | refine TakeC.full (by first | rfl | omega | (simp; done) | (simp; omega) | fail) ?_ | refine zBs ?_ | refine zBn ?_ | refine zBv rfl rfl ?_ | refine zN ?_ | refine zC ?_ | refine zC4 ?_ | refine zOr16 ?_ | refine zC1 ?_ | refine zByte ?_ | refine zMaxL ?_ | refine zMaxR ?_ | refine zMinL ?_ | refine zMinR ?_ | refine zShr ?_ | refine zC8 ?_ | refine zQ ?_ | refine zR ?_ | refine zS ?_ | refine zA ?_ | refine zM ?_ | refine xr rfl ?_ | refine ai rfl ?_ | refine condT ?_ | refine condF ?_ | refine condG1 ?_ | refine condG0 ?_ | refine cD ?_ | refine dD ?_ | refine cB ?_ | refine dB ?_ | refine cN ?_ | refine dN ?_ | refine cV ?_ | refine dV ?_ | refine cE ?_ | refine dE ?_ | refine condX0 ?_ | refine condX1 ?_ | refine condNot ?_ | refine condAnd ?_ | refine condOr ?_ | refine aO ?_ | refine aB ?_ | refine aR ?_ | refine aR ?_ (by simp; omega) | refine xr (by assumption) ?_ | refine ai (by assumption) ?_ | refine kV (ha) ?_ | refine kV (hn) ?_ | refine condD (fun h => ?_) (fun h => ?_) | refine condB (fun h => ?_) (fun h => ?_) | refine condN (fun h => ?_) (fun h => ?_) | refine condE (fun h => ?_) (fun h => ?_) | refine condV (fun h => ?_) (fun h => ?_))
          (first | refine ev_fin (And.intro (by first | rfl | (simp [AV.pure, pureL]; done) | fail) ?_) | refine ev_fin0 (And.intro (by first | rfl | (simp [AV.pure, pureL]; done) | fail) ?_)); (conv => whnf); refine And.intro (by first | rfl | (simp [AV.pure, pureL, pureLL, *]; done) | fail) ?_; rfl
        · rw [q] at hn ⊢
          simp only
          generalize (dots x).length = d at *
          generalize (itoaK (n : Int)).length = d2 at *
          by_cases hto : d + 1 + d2 = s.length
          · rw [if_neg (by omega), psV]
            have vv := valid_gives179 ⟨(x : Int), (n : Int)⟩ (pfx_ok hx (by omega) (by omega))
            cases hvp : validP ⟨(x : Int), (n : Int)⟩
            · rw [hvp] at vv
              rw [if_neg (by simp)]
              refine gives_code (F := f234) rfl rfl (W_ok 300 _ _ _ _ ?_)
              repeat' ((conv => whnf); first | refine zIstr (b := 47) ?_ hb (by omega) | refine bslP (by first | rfl | (simp [pureL, pureLL, AV.pure]; done) | fail) rfl ?_ | refine TakeC.full (by first | rfl | omega | (simp; done) | (simp; omega) | fail) ?_ | refine zBs ?_ | refine zBn ?_ | refine zBv rfl rfl ?_ | refine zN ?_ | refine zC ?_ | refine zC4 ?_ | refine zOr16 ?_ | refine zC1 ?_ | refine zByte ?_ | refine zMaxL ?_ | refine zMaxR ?_ | refine zMinL ?_ | refine zMinR ?_ | refine zShr ?_ | refine zC8 ?_ | refine zQ ?_ | refine zR ?_ | refine zS ?_ | refine zA ?_ | refine zM ?_ | refine xr rfl ?_ | refine ai rfl ?_ | refine condT ?_ | refine condF ?_ | refine condG1 ?_ | refine condG0 ?_ | refine cD ?_ | refine dD ?_ | refine cB ?_ | refine dB ?_ | refine cN ?_ | refine dN ?_ | refine cV ?_ | refine dV ?_ | refine cE ?_ | refine dE ?_ | refine condX0 ?_ | refine condX1 ?_ | refine condNot ?_ | refine condAnd ?_ | refine condOr ?_ | refine aO ?_ | refine aB ?_ | refine aR ?_ | refine aR ?_ (by simp; omega) | refine xr (by assumption) ?_ | refine ai (by assumption) ?_ | refine kV (ha) ?_ | refine kV (hn) ?_ | refine kV (vv) ?_ | refine condD (fun h => ?_) (fun h => ?_) | refine condB (fun h => ?_) (fun h => ?_) | refine condN (fun h => ?_) (fun h => ?_) | refine condE (fun h => ?_) (fun h => ?_) | refine condV (fun h => ?_) (fun h => ?_))
              (first | refine ev_fin (And.intro (by first | rfl | (simp [AV.pure, pureL]; done) | fail) ?_) | refine ev_fin0 (And.intro (by first | rfl | (simp [AV.pure, pureL]; done) | fail) ?_)); (conv => whnf); refine And.intro (by first | rfl | (simp [AV.pure, pureL, pureLL, *]; done) | fail) ?_; rfl
            · rw [hvp] at vv
              rw [if_pos rfl]
              refine gives_code (F := f234) rfl rfl (W_ok 300 _ _ _ _ ?_)
              repeat' ((conv => whnf); first | refine zIstr (b := 47) ?_ hb (by omega) | refine bslP (by first | rfl | (simp [pureL, pureLL, AV.pure]; done) | fail) rfl ?_ | refine TakeC.full (by first | rfl | omega | (simp; done) | (simp; omega) | fail) ?_ | refine zBs ?_ | refine zBn ?_ | refine zBv rfl rfl ?_ | refine zN ?_ | refine zC ?_ | refine zC4 ?_ | refine zOr16 ?_ | refine zC1 ?_ | refine zByte ?_ | refine zMaxL ?_ | refine zMaxR ?_ | refine zMinL ?_ | refine zMinR ?_ | refine zShr ?_ | refine zC8 ?_ | refine zQ ?_ | refine zR ?_ | refine zS ?_ | refine zA ?_ | refine zM ?_ | refine xr rfl ?_ | refine ai rfl ?_ | refine condT ?_ | refine condF ?_ | refine condG1 ?_ | refine condG0 ?_ | refine cD ?_ | refine dD ?_ | refine cB ?_ | refine dB ?_ | refine cN ?_ | refine dN ?_ | refine cV ?_ | refine dV ?_ | refine cE ?_ | refine dE ?_ | refine condX0 ?_ | refine condX1 ?_ | refine condNot ?_ | refine condAnd ?_ | refine condOr ?_ | refine aO ?_ | refine aB ?_ | refine aR ?_ | refine aR ?_ (by simp; omega) | refine xr (by assumption) ?_ | refine ai (by assumption) ?_ | refine kV (ha) ?_ | refine kV (hn) ?_ | refine kV (vv) ?_ | refine condD (fun h => ?_) (fun h => ?_) | refine condB (fun h => ?_) (fun h => ?_) | refine condN (fun h => ?_) (fun h => ?_) | refine condE (fun h => ?_) (fun h => ?_) | refine condV (fun h => ?_) (fun h => ?_))
              (first | refine ev_fin (And.intro (by first | rfl | (simp [AV.pure, pureL]; done) | fail) ?_) | refine ev_fin0 (And.intro (by first | rfl | (simp [AV.pure, pureL]; done) | fail) ?_)); (conv => whnf); refine And.intro (by first | rfl | (simp [AV.pure, pureL, pureLL, *]; done) | fail) ?_; rfl
          · rw [if_pos (by omega)]
            refine gives_code (F := f234) rfl rfl (W_ok 300 _ _ _ _ ?_)
            repeat' ((conv => whnf); first | refine zIstr (b := 47) ?_ hb (by omega) | refine bslP (by first | rfl | (simp [pureL, pureLL, AV.pure]; done) | fail) rfl ?_ | refine TakeC.full (by first | rfl | omega | (simp; done) | (simp; omega) | fail) ?_ | refine zBs ?_ | refine zBn ?_ | refine zBv rfl rfl ?_ | refine zN ?_ | refine zC ?_ | refine zC4 ?_ | refine zOr16 ?_ | refine zC1 ?_ | refine zByte ?_ | refine zMaxL ?_ | refine zMaxR ?_ | refine zMinL ?_ | refine zMinR ?_ | refine zShr ?_ | refine zC8 ?_ | refine zQ ?_ | refine zR ?_ | refine zS ?_ | refine zA ?_ | refine zM ?_ | refine xr rfl ?_ | refine ai rfl ?_ | refine condT ?_ | refine condF ?_ | refine condG1 ?_ | refine condG0 ?_ | refine cD ?_ | refine dD ?_ | refine cB ?_ | refine dB ?_ | refine cN ?_ | refine dN ?_ | refine cV ?_ | refine dV ?_ | refine cE ?_ | refine dE ?_ | refine condX0 ?_ | refine condX1 ?_ | refine condNot ?_ | refine condAnd ?_ | refine condOr ?_ | refine aO ?_ | refine aB ?_ | refine aR ?_ | refine aR ?_ (by simp; omega) | refine xr (by assumption) ?_ | refine ai (by assumption) ?_ | refine kV (ha) ?_ | refine kV (hn) ?_ | refine condD (fun h => ?_) (fun h => ?_) | refine condB (fun h => ?_) (fun h => ?_) | refine condN (fun h => ?_) (fun h => ?_) | refine condE (fun h => ?_) (fun h => ?_) | refine condV (fun h => ?_) (fun h => ?_))
            (first | refine ev_fin (And.intro (by first | rfl | (simp [AV.pure, pureL]; done) | fail) ?_) | refine ev_fin0 (And.intro (by first | rfl | (simp [AV.pure, pureL]; done) | fail) ?_)); (conv => whnf); refine And.intro (by first | rfl | (simp [AV.pure, pureL, pureLL, *]; done) | fail) ?_; rfl
      · have hz2 : ¬ (b.toNat : Int) = 47 := by
          intro e; apply hz; apply UInt8.toNat_inj.1
          show b.toNat = 47
          omega
        rw [if_pos (.inr (.inr (by rw [hsb]; simpa using hz)))]
        generalize (dots x).length = d at *
        refine gives_code (F := f234) rfl rfl (W_ok 300 _ _ _ _ ?_)
        repeat' ((conv => whnf); first | refine zIstr (b := b) ?_ hb (by omega) | refine bslP (by first | rfl | (simp [pureL, pureLL, AV.pure]; done) | fail) rfl ?_ | refine TakeC.full (by first | rfl | omega | (simp; done) | (simp; omega) | fail) ?_ | refine zBs ?_ | refine zBn ?_ | refine zBv rfl rfl ?_ | refine zN ?_ | refine zC ?_ | refine zC4 ?_ | refine zOr16 ?_ | refine zC1 ?_ | refine zByte ?_ | refine zMaxL ?_ | refine zMaxR ?_ | refine zMinL ?_ | refine zMinR ?_ | refine zShr ?_ | refine zC8 ?_ | refine zQ ?_ | refine zR ?_ | refine zS ?_ | refine zA ?_ | refine zM ?_ | refine xr rfl ?_ | refine ai rfl ?_ | refine condT ?_ | refine condF ?_ | refine condG1 ?_ | refine condG0 ?_ | refine cD ?_ | refine dD ?_ | refine cB ?_ | refine dB ?_ | refine cN ?_ | refine dN ?_ | refine cV ?_ | refine dV ?_ | refine cE ?_ | refine dE ?_ | refine condX0 ?_ | refine condX1 ?_ | refine condNot ?_ | refine condAnd ?_ | refine condOr ?_ | refine aO ?_ | refine aB ?_ | refine aR ?_ | refine aR ?_ (by simp; omega) | refine xr (by assumption) ?_ | refine ai (by assumption) ?_ | refine kV (ha) ?_ | refine condD (fun h => ?_) (fun h => ?_) | refine condB (fun h => ?_) (fun h => ?_) | refine condN (fun h => ?_) (fun h => ?_) | refine condE (fun h => ?_) (fun h => ?_) | refine condV (fun h => ?_) (fun h => ?_))
        (first | refine ev_fin (And.intro (by first | rfl | (simp [AV.pure, pureL]; done) | fail) ?_) | refine ev_fin0 (And.intro (by first | rfl | (simp [AV.pure, pureL]; done) | fail) ?_)); (conv => whnf); refine And.intro (by first | rfl | (simp [AV.pure, pureL, pureLL, *]; done) | fail) ?_; rfl
    · rw [if_pos (.inr (.inl (by omega)))]
      generalize (dots x).length = d at *
      refine gives_code (F := f234) rfl rfl (W_ok 300 _ _ _ _ ?_)
      repeat' ((conv => whnf); first | refine bslP (by first | rfl | (simp [pureL, pureLL, AV.pure]; done) | fail) rfl ?_ | refine TakeC.full (by first | rfl | omega | (simp; done) | (simp; omega) | fail) ?_ | refine zBs ?_ | refine zBn ?_ | refine zBv rfl rfl ?_ | refine zN ?_ | refine zC ?_ | refine zC4 ?_ | refine zOr16 ?_ | refine zC1 ?_ | refine zByte ?_ | refine zMaxL ?_ | refine zMaxR ?_ | refine zMinL ?_ | refine zMinR ?_ | refine zShr ?_ | refine zC8 ?_ | refine zQ ?_ | refine zR ?_ | refine zS ?_ | refine zA ?_ | refine zM ?_ | refine xr rfl ?_ | refine ai rfl ?_ | refine condT ?_ | refine condF ?_ | refine condG1 ?_ | refine condG0 ?_ | refine cD ?_ | refine dD ?_ | refine cB ?_ | refine dB ?_ | refine cN ?_ | refine dN ?_ | refine cV ?_ | refine dV ?_ | refine cE ?_ | refine dE ?_ | refine condX0 ?_ | refine condX1 ?_ | refine condNot ?_ | refine condAnd ?_ | refine condOr ?_ | refine aO ?_ | refine aB ?_ | refine aR ?_ | refine aR ?_ (by simp; omega) | refine xr (by assumption) ?_ | refine ai (by assumption) ?_ | refine kV (ha) ?_ | refine condD (fun h => ?_) (fun h => ?_) | refine condB (fun h => ?_) (fun h => ?_) | refine condN (fun h => ?_) (fun h => ?_) | refine condE (fun h => ?_) (fun h => ?_) | refine condV (fun h => ?_) (fun h => ?_))
      (first | refine ev_fin (And.intro (by first | rfl | (simp [AV.pure, pureL]; done) | fail) ?_) | refine ev_fin0 (And.intro (by first | rfl | (simp [AV.pure, pureL]; done) | fail) ?_)); (conv => whnf); refine And.intro (by first | rfl | (simp [AV.pure, pureL, pureLL, *]; done) | fail) ?_; rfl
end Go.AM.IR
set_option maxHeartbeats 4000000
set_option maxRecDepth 20000
namespace Go.AM.IR
def prR6 (x : PRule × Int) : Ret := ⟨.tup [.agg x.1.enc, .int .i64 x.2], []⟩
section
variable {kv : AV → Prop}
theorem zEqF2 {a b : List UInt8} (n : a ≠ b) (h : kv (.bool false)) : ∃ v, binA .eql (.str a) (.str b) = some v ∧ kv v := ⟨.bool false, by show some (AV.bool (a == b)) = _; simp [n], h⟩
theorem zEqY {a b : List UInt8} (n : a = b) (h : kv (.bool true)) : ∃ v, binA .eql (.str a) (.str b) = some v ∧ kv v := ⟨.bool true, by show some (AV.bool (a == b)) = _; simp [n], h⟩
end
def rcA (v : Bool) (p : Pfx) (mn mx : Int) : List AV := [.bool v, .int .u32 p.addr, .int .i64 p.len, .int .i64 mn, .int .i64 mx]
theorem max_loop349 (s : List UInt8) (v : Bool) (p : Pfx) (hp : p.ok) (mn : Int) (hm : 0 ≤ mn ∧ mn ≤ 32) (R : Ret) (g2 g4 : Nat) (X : Option Int)
    (go : ∀ (T : List (Nat × AV)) (H : Heap) (c : Nat) (mx : Int), X = none →
      Ev G ⟨[.inLoop f349x27L, .inBlock 3, .code (.seq (.region f349x28 false) .ret)], ⟨(2, .ref 66 g2 0) :: (4, .ref 68 g4 0) :: (0, .str s) :: T, (66, some (g2, .cells (rcA false ⟨0, 0⟩ 0 0))) :: (68, some (g4, .cells (rcA v p (mn + 1) mx))) :: H, c⟩, [.cell 2 (some 5), .t 3], 0⟩ R)
    (hR : ∀ m, X = some m → R = prR6 (⟨v, p, mn, m⟩, 0)) :
    ∀ (f : Nat) (mx : Int) (T : List (Nat × AV)) (H : Heap) (c : Nat) (hf : 32 - mx < f) (hx : mn ≤ mx ∧ mx ≤ 33) (e : X = scanI s v p mn f mx),
   Ev G ⟨f349x25LH, ⟨(2, .ref 66 g2 0) :: (4, .ref 68 g4 0) :: (0, .str s) :: T, (66, some (g2, .cells (rcA false ⟨0, 0⟩ 0 0))) :: (68, some (g4, .cells (rcA v p mn mx))) :: H, c⟩, [.cell 2 (some 5), .t 3], 0⟩ R
  | 0, mx, T, H, c, hf, hx, e => by
    refine ev_loop' (W_ok 300 _ _ _ _ ?_)
    repeat' ((conv => whnf); first | refine bslP (by first | rfl | (simp [pureL, pureLL, AV.pure]; done) | fail) rfl ?_ | refine TakeC.full (by first | rfl | omega | (simp; done) | (simp; omega) | fail) ?_ | refine zBs ?_ | refine zBn ?_ | refine zBv rfl rfl ?_ | refine zN ?_ | refine zC ?_ | refine zC4 ?_ | refine zOr16 ?_ | refine zC1 ?_ | refine zByte ?_ | refine zMaxL ?_ | refine zMaxR ?_ | refine zMinL ?_ | refine zMinR ?_ | refine zShr ?_ | refine zC8 ?_ | refine zQ ?_ | refine zR ?_ | refine zS ?_ | refine zA ?_ | refine zM ?_ | refine xr rfl ?_ | refine ai rfl ?_ | refine condT ?_ | refine condF ?_ | refine condG1 ?_ | refine condG0 ?_ | refine cD ?_ | refine dD ?_ | refine cB ?_ | refine dB ?_ | refine cN ?_ | refine dN ?_ | refine cV ?_ | refine dV ?_ | refine cE ?_ | refine dE ?_ | refine condX0 ?_ | refine condX1 ?_ | refine condNot ?_ | refine condAnd ?_ | refine condOr ?_ | refine aO ?_ | refine aB ?_ | refine aR ?_ | refine aR ?_ (by simp; omega) | refine xr (by assumption) ?_ | refine ai (by assumption) ?_ | refine condD (fun h => ?_) (fun h => ?_) | refine condB (fun h => ?_) (fun h => ?_) | refine condN (fun h => ?_) (fun h => ?_) | refine condE (fun h => ?_) (fun h => ?_) | refine condV (fun h => ?_) (fun h => ?_))
    refine ev_keep [2, 4, 0] [66, 68] ?_
    exact go _ _ _ mx e
  | f + 1, mx, T, H, c, hf, hx, e => by
    rw [scanI] at e
    by_cases h1 : 32 < mx
    · rw [if_pos h1] at e
      refine ev_loop' (W_ok 300 _ _ _ _ ?_)
      repeat' ((conv => whnf); first | refine bslP (by first | rfl | (simp [pureL, pureLL, AV.pure]; done) | fail) rfl ?_ | refine TakeC.full (by first | rfl | omega | (simp; done) | (simp; omega) | fail) ?_ | refine zBs ?_ | refine zBn ?_ | refine zBv rfl rfl ?_ | refine zN ?_ | refine zC ?_ | refine zC4 ?_ | refine zOr16 ?_ | refine zC1 ?_ | refine zByte ?_ | refine zMaxL ?_ | refine zMaxR ?_ | refine zMinL ?_ | refine zMinR ?_ | refine zShr ?_ | refine zC8 ?_ | refine zQ ?_ | refine zR ?_ | refine zS ?_ | refine zA ?_ | refine zM ?_ | refine xr rfl ?_ | refine ai rfl ?_ | refine condT ?_ | refine condF ?_ | refine condG1 ?_ | refine condG0 ?_ | refine cD ?_ | refine dD ?_ | refine cB ?_ | refine dB ?_ | refine cN ?_ | refine dN ?_ | refine cV ?_ | refine dV ?_ | refine cE ?_ | refine dE ?_ | refine condX0 ?_ | refine condX1 ?_ | refine condNot ?_ | refine condAnd ?_ | refine condOr ?_ | refine aO ?_ | refine aB ?_ | refine aR ?_ | refine aR ?_ (by simp; omega) | refine xr (by assumption) ?_ | refine ai (by assumption) ?_ | refine condD (fun h => ?_) (fun h => ?_) | refine condB (fun h => ?_) (fun h => ?_) | refine condN (fun h => ?_) (fun h => ?_) | refine condE (fun h => ?_) (fun h => ?_) | refine condV (fun h => ?_) (fun h => ?_))
      refine ev_keep [2, 4, 0] [66, 68] ?_
      exact go _ _ _ mx e
    · rw [if_neg h1] at e
      have ht := text_gives333 ⟨v, p, mn, mx⟩ ⟨hp, by unfold okI; simp only; omega, by unfold okI; simp only; omega⟩
      unfold txR at ht
      by_cases hc : chkS ⟨v, p, mn, mx⟩ = 0
      · rw [if_pos hc] at ht
        by_cases hx2 : rtext ⟨v, p, mn, mx⟩ = s
        · rw [if_pos ⟨hc, hx2⟩] at e
          rw [hx2] at ht
          rw [hR mx e]
          refine ev_loop' (W_ok 300 _ _ _ _ ?_)
          repeat' ((conv => whnf); first | refine zEqT ?_ | refine bslP (by first | rfl | (simp [pureL, pureLL, AV.pure]; done) | fail) rfl ?_ | refine TakeC.full (by first | rfl | omega | (simp; done) | (simp; omega) | fail) ?_ | refine zBs ?_ | refine zBn ?_ | refine zBv rfl rfl ?_ | refine zN ?_ | refine zC ?_ | refine zC4 ?_ | refine zOr16 ?_ | refine zC1 ?_ | refine zByte ?_ | refine zMaxL ?_ | refine zMaxR ?_ | refine zMinL ?_ | refine zMinR ?_ | refine zShr ?_ | refine zC8 ?_ | refine zQ ?_ | refine zR ?_ | refine zS ?_ | refine zA ?_ | refine zM ?_ | refine xr rfl ?_ | refine ai rfl ?_ | refine condT ?_ | refine condF ?_ | refine condG1 ?_ | refine condG0 ?_ | refine cD ?_ | refine dD ?_ | refine cB ?_ | refine dB ?_ | refine cN ?_ | refine dN ?_ | refine cV ?_ | refine dV ?_ | refine cE ?_ | refine dE ?_ | refine condX0 ?_ | refine condX1 ?_ | refine condNot ?_ | refine condAnd ?_ | refine condOr ?_ | refine aO ?_ | refine aB ?_ | refine aR ?_ | refine aR ?_ (by simp; omega) | refine xr (by assumption) ?_ | refine ai (by assumption) ?_ | refine kV (ht) ?_ | refine condD (fun h => ?_) (fun h => ?_) | refine condB (fun h => ?_) (fun h => ?_) | refine condN (fun h => ?_) (fun h => ?_) | refine condE (fun h => ?_) (fun h => ?_) | refine condV (fun h => ?_) (fun h => ?_))
          (first | refine ev_fin (And.intro (by first | rfl | (simp [AV.pure, pureL]; done) | fail) ?_) | refine ev_fin0 (And.intro (by first | rfl | (simp [AV.pure, pureL]; done) | fail) ?_)); (conv => whnf); refine And.intro (by first | rfl | (simp [AV.pure, pureL, pureLL, *]; done) | fail) ?_; rfl
        · rw [if_neg (fun h => hx2 h.2)] at e
          generalize rtext ⟨v, p, mn, mx⟩ = t at *
          refine ev_loop' (W_ok 300 _ _ _ _ ?_)
          repeat' ((conv => whnf); first | refine zEqF2 hx2 ?_ | refine bslP (by first | rfl | (simp [pureL, pureLL, AV.pure]; done) | fail) rfl ?_ | refine TakeC.full (by first | rfl | omega | (simp; done) | (simp; omega) | fail) ?_ | refine zBs ?_ | refine zBn ?_ | refine zBv rfl rfl ?_ | refine zN ?_ | refine zC ?_ | refine zC4 ?_ | refine zOr16 ?_ | refine zC1 ?_ | refine zByte ?_ | refine zMaxL ?_ | refine zMaxR ?_ | refine zMinL ?_ | refine zMinR ?_ | refine zShr ?_ | refine zC8 ?_ | refine zQ ?_ | refine zR ?_ | refine zS ?_ | refine zA ?_ | refine zM ?_ | refine xr rfl ?_ | refine ai rfl ?_ | refine condT ?_ | refine condF ?_ | refine condG1 ?_ | refine condG0 ?_ | refine cD ?_ | refine dD ?_ | refine cB ?_ | refine dB ?_ | refine cN ?_ | refine dN ?_ | refine cV ?_ | refine dV ?_ | refine cE ?_ | refine dE ?_ | refine condX0 ?_ | refine condX1 ?_ | refine condNot ?_ | refine condAnd ?_ | refine condOr ?_ | refine aO ?_ | refine aB ?_ | refine aR ?_ | refine aR ?_ (by simp; omega) | refine xr (by assumption) ?_ | refine ai (by assumption) ?_ | refine kV (ht) ?_ | refine condD (fun h => ?_) (fun h => ?_) | refine condB (fun h => ?_) (fun h => ?_) | refine condN (fun h => ?_) (fun h => ?_) | refine condE (fun h => ?_) (fun h => ?_) | refine condV (fun h => ?_) (fun h => ?_))
          refine ev_keep [2, 4, 0] [66, 68] ?_
          exact max_loop349 s v p hp mn hm R g2 g4 X go hR f (mx + 1) _ _ _ (by omega) (by omega) e
      · rw [if_neg hc] at ht
        rw [if_neg (fun h => hc h.1)] at e
        generalize chkS ⟨v, p, mn, mx⟩ = k at *
        refine ev_loop' (W_ok 300 _ _ _ _ ?_)
        repeat' ((conv => whnf); first | refine bslP (by first | rfl | (simp [pureL, pureLL, AV.pure]; done) | fail) rfl ?_ | refine TakeC.full (by first | rfl | omega | (simp; done) | (simp; omega) | fail) ?_ | refine zBs ?_ | refine zBn ?_ | refine zBv rfl rfl ?_ | refine zN ?_ | refine zC ?_ | refine zC4 ?_ | refine zOr16 ?_ | refine zC1 ?_ | refine zByte ?_ | refine zMaxL ?_ | refine zMaxR ?_ | refine zMinL ?_ | refine zMinR ?_ | refine zShr ?_ | refine zC8 ?_ | refine zQ ?_ | refine zR ?_ | refine zS ?_ | refine zA ?_ | refine zM ?_ | refine xr rfl ?_ | refine ai rfl ?_ | refine condT ?_ | refine condF ?_ | refine condG1 ?_ | refine condG0 ?_ | refine cD ?_ | refine dD ?_ | refine cB ?_ | refine dB ?_ | refine cN ?_ | refine dN ?_ | refine cV ?_ | refine dV ?_ | refine cE ?_ | refine dE ?_ | refine condX0 ?_ | refine condX1 ?_ | refine condNot ?_ | refine condAnd ?_ | refine condOr ?_ | refine aO ?_ | refine aB ?_ | refine aR ?_ | refine aR ?_ (by simp; omega) | refine xr (by assumption) ?_ | refine ai (by assumption) ?_ | refine kV (ht) ?_ | refine condD (fun h => ?_) (fun h => ?_) | refine condB (fun h => ?_) (fun h => ?_) | refine condN (fun h => ?_) (fun h => ?_) | refine condE (fun h => ?_) (fun h => ?_) | refine condV (fun h => ?_) (fun h => ?_))
        refine ev_keep [2, 4, 0] [66, 68] ?_
        exact max_loop349 s v p hp mn hm R g2 g4 X go hR f (mx + 1) _ _ _ (by omega) (by omega) e
def outO (v : Bool) (p : Pfx) : Option (Int × Int) → PRule × Int
  | some (a, m) => (⟨v, p, a, m⟩, 0)
  | none => (zeroR, 2)
theorem min_loop349 (s : List UInt8) (v : Bool) (p : Pfx) (hp : p.ok) (g2 g4 : Nat) :
    ∀ (f : Nat) (mn mx : Int) (T : List (Nat × AV)) (H : Heap) (c : Nat) (hf : 32 - mn < f) (hx : 0 ≤ mn ∧ mn ≤ 33),
   Ev G ⟨f349x27LH, ⟨(2, .ref 66 g2 0) :: (4, .ref 68 g4 0) :: (0, .str s) :: T, (66, some (g2, .cells (rcA false ⟨0, 0⟩ 0 0))) :: (68, some (g4, .cells (rcA v p mn mx))) :: H, c⟩, [.cell 2 (some 5), .t 3], 0⟩ (prR6 (outO v p (scanO s v p f mn)))
  | 0, mn, mx, T, H, c, hf, hx => by
    refine ev_loop' (W_ok 300 _ _ _ _ ?_)
    repeat' ((conv => whnf); first | refine bslP (by first | rfl | (simp [pureL, pureLL, AV.pure]; done) | fail) rfl ?_ | refine TakeC.full (by first | rfl | omega | (simp; done) | (simp; omega) | fail) ?_ | refine zBs ?_ | refine zBn ?_ | refine zBv rfl rfl ?_ | refine zN ?_ | refine zC ?_ | refine zC4 ?_ | refine zOr16 ?_ | refine zC1 ?_ | refine zByte ?_ | refine zMaxL ?_ | refine zMaxR ?_ | refine zMinL ?_ | refine zMinR ?_ | refine zShr ?_ | refine zC8 ?_ | refine zQ ?_ | refine zR ?_ | refine zS ?_ | refine zA ?_ | refine zM ?_ | refine xr rfl ?_ | refine ai rfl ?_ | refine condT ?_ | refine condF ?_ | refine condG1 ?_ | refine condG0 ?_ | refine cD ?_ | refine dD ?_ | refine cB ?_ | refine dB ?_ | refine cN ?_ | refine dN ?_ | refine cV ?_ | refine dV ?_ | refine cE ?_ | refine dE ?_ | refine condX0 ?_ | refine condX1 ?_ | refine condNot ?_ | refine condAnd ?_ | refine condOr ?_ | refine aO ?_ | refine aB ?_ | refine aR ?_ | refine aR ?_ (by simp; omega) | refine xr (by assumption) ?_ | refine ai (by assumption) ?_ | refine condD (fun h => ?_) (fun h => ?_) | refine condB (fun h => ?_) (fun h => ?_) | refine condN (fun h => ?_) (fun h => ?_) | refine condE (fun h => ?_) (fun h => ?_) | refine condV (fun h => ?_) (fun h => ?_))
    (first | refine ev_fin (And.intro (by first | rfl | (simp [AV.pure, pureL]; done) | fail) ?_) | refine ev_fin0 (And.intro (by first | rfl | (simp [AV.pure, pureL]; done) | fail) ?_)); (conv => whnf); refine And.intro (by first | rfl | (simp [AV.pure, pureL, pureLL, *]; done) | fail) ?_; rfl
  | f + 1, mn, mx, T, H, c, hf, hx => by
    rw [scanO]
    by_cases h1 : 32 < mn
    · rw [if_pos h1]
      refine ev_loop' (W_ok 300 _ _ _ _ ?_)
      repeat' ((conv => whnf); first | refine bslP (by first | rfl | (simp [pureL, pureLL, AV.pure]; done) | fail) rfl ?_ | refine TakeC.full (by first | rfl | omega | (simp; done) | (simp; omega) | fail) ?_ | refine zBs ?_ | refine zBn ?_ | refine zBv rfl rfl ?_ | refine zN ?_ | refine zC ?_ | refine zC4 ?_ | refine zOr16 ?_ | refine zC1 ?_ | refine zByte ?_ | refine zMaxL ?_ | refine zMaxR ?_ | refine zMinL ?_ | refine zMinR ?_ | refine zShr ?_ | refine zC8 ?_ | refine zQ ?_ | refine zR ?_ | refine zS ?_ | refine zA ?_ | refine zM ?_ | refine xr rfl ?_ | refine ai rfl ?_ | refine condT ?_ | refine condF ?_ | refine condG1 ?_ | refine condG0 ?_ | refine cD ?_ | refine dD ?_ | refine cB ?_ | refine dB ?_ | refine cN ?_ | refine dN ?_ | refine cV ?_ | refine dV ?_ | refine cE ?_ | refine dE ?_ | refine condX0 ?_ | refine condX1 ?_ | refine condNot ?_ | refine condAnd ?_ | refine condOr ?_ | refine aO ?_ | refine aB ?_ | refine aR ?_ | refine aR ?_ (by simp; omega) | refine xr (by assumption) ?_ | refine ai (by assumption) ?_ | refine condD (fun h => ?_) (fun h => ?_) | refine condB (fun h => ?_) (fun h => ?_) | refine condN (fun h => ?_) (fun h => ?_) | refine condE (fun h => ?_) (fun h => ?_) | refine condV (fun h => ?_) (fun h => ?_))
      (first | refine ev_fin (And.intro (by first | rfl | (simp [AV.pure, pureL]; done) | fail) ?_) | refine ev_fin0 (And.intro (by first | rfl | (simp [AV.pure, pureL]; done) | fail) ?_)); (conv => whnf); refine And.intro (by first | rfl | (simp [AV.pure, pureL, pureLL, *]; done) | fail) ?_; rfl
    · rw [if_neg h1]
      refine ev_loop' (W_ok 300 _ _ _ _ ?_)
      repeat' ((conv => whnf); first | refine bslP (by first | rfl | (simp [pureL, pureLL, AV.pure]; done) | fail) rfl ?_ | refine TakeC.full (by first | rfl | omega | (simp; done) | (simp; omega) | fail) ?_ | refine zBs ?_ | refine zBn ?_ | refine zBv rfl rfl ?_ | refine zN ?_ | refine zC ?_ | refine zC4 ?_ | refine zOr16 ?_ | refine zC1 ?_ | refine zByte ?_ | refine zMaxL ?_ | refine zMaxR ?_ | refine zMinL ?_ | refine zMinR ?_ | refine zShr ?_ | refine zC8 ?_ | refine zQ ?_ | refine zR ?_ | refine zS ?_ | refine zA ?_ | refine zM ?_ | refine xr rfl ?_ | refine ai rfl ?_ | refine condT ?_ | refine condF ?_ | refine condG1 ?_ | refine condG0 ?_ | refine cD ?_ | refine dD ?_ | refine cB ?_ | refine dB ?_ | refine cN ?_ | refine dN ?_ | refine cV ?_ | refine dV ?_ | refine cE ?_ | refine dE ?_ | refine condX0 ?_ | refine condX1 ?_ | refine condNot ?_ | refine condAnd ?_ | refine condOr ?_ | refine aO ?_ | refine aB ?_ | refine aR ?_ | refine aR ?_ (by simp; omega) | refine xr (by assumption) ?_ | refine ai (by assumption) ?_ | refine condD (fun h => ?_) (fun h => ?_) | refine condB (fun h => ?_) (fun h => ?_) | refine condN (fun h => ?_) (fun h => ?_) | refine condE (fun h => ?_) (fun h => ?_) | refine condV (fun h => ?_) (fun h => ?_))
      refine ev_keep [2, 4, 0] [66, 68] ?_
      refine max_loop349 s v p hp mn (by omega) _ _ _ (scanI s v p mn 40 mn) ?_ ?_ 40 mn _ _ _ (by omega) (by omega) rfl
      · intro T H c mx e
        rw [e]
        exact min_loop349 s v p hp _ _ f (mn + 1) mx _ _ _ (by omega) (by omega)
      · intro m e
        rw [e]; rfl
theorem refB_eq (s : List UInt8) (v : Bool) (rest : List UInt8) : refB s v rest = if (psR (rest.takeWhile (· != 32))).2 = 0 then outO v (psR (rest.takeWhile (· != 32))).1 (scanO s v (psR (rest.takeWhile (· != 32))).1 40 (psR (rest.takeWhile (· != 32))).1.len) else (zeroR, 2) := by
  unfold refB
  split
  · cases scanO s v (psR (rest.takeWhile (· != 32))).1 40 (psR (rest.takeWhile (· != 32))).1.len <;> rfl
  · rfl
theorem tail349 (s : List UInt8) (v : Bool) (rest done : List UInt8) (hr : rest.length < 2 ^ 40) (g2 g4 : Nat) (n : Int) (hn : n = done.length) (ht : rest.takeWhile (· != 32) = done) (hp : List.take (n.toNat - 0) (List.drop 0 rest) = done) (hnl : n ≤ rest.length) (T : List (Nat × AV)) (H : Heap) (c : Nat) :
   Ev G ⟨[.code (.seq (.region f349x13 false) (.seq (.seq (.region f349x14 false) (.cond (.t 56) (.seq (.region f349x15 false) .ret) .skip)) (.seq (.region f349x16 false) (.seq (.seq (.region f349x17 false) (.block 3 (.loop f349x27L))) (.seq (.region f349x28 false) .ret)))))], ⟨(6, .int .i64 n) :: (2, .ref 66 g2 0) :: (4, .ref 68 g4 0) :: (0, .str s) :: (5, .str rest) :: T, (66, some (g2, .cells (rcA false ⟨0, 0⟩ 0 0))) :: (68, some (g4, .cells (rcA v ⟨0, 0⟩ 0 0))) :: H, c⟩, [.cell 2 (some 5), .t 3], 0⟩ (prR6 (refB s v rest)) := by
  have hps : Gives G 234 [.str (List.take (n.toNat - 0) (List.drop 0 rest))] [] (pfR (psR done)) := by rw [hp]; exact parse_gives234 done (by omega)
  have hok := psR_ok (s := done)
  rw [refB_eq, ht]
  generalize psR done = pp at *
  obtain ⟨q, e⟩ := pp
  simp only at hok ⊢
  by_cases e0 : e = 0
  · subst e0
    rw [if_pos rfl]
    obtain ⟨ho, hv⟩ := hok rfl
    have hql := validP_len hv
    refine W_ok 300 _ _ _ _ ?_
    repeat' ((conv => whnf); first | refine bslP (by first | rfl | (simp [pureL, pureLL, AV.pure]; done) | fail) rfl ?_ | refine TakeC.full (by first | rfl | omega | (simp; done) | (simp; omega) | fail) ?_ | refine zBs ?_ | refine zBn ?_ | refine zBv rfl rfl ?_ | refine zN ?_ | refine zC ?_ | refine zC4 ?_ | refine zOr16 ?_ | refine zC1 ?_ | refine zByte ?_ | refine zMaxL ?_ | refine zMaxR ?_ | refine zMinL ?_ | refine zMinR ?_ | refine zShr ?_ | refine zC8 ?_ | refine zQ ?_ | refine zR ?_ | refine zS ?_ | refine zA ?_ | refine zM ?_ | refine xr rfl ?_ | refine ai rfl ?_ | refine condT ?_ | refine condF ?_ | refine condG1 ?_ | refine condG0 ?_ | refine cD ?_ | refine dD ?_ | refine cB ?_ | refine dB ?_ | refine cN ?_ | refine dN ?_ | refine cV ?_ | refine dV ?_ | refine cE ?_ | refine dE ?_ | refine condX0 ?_ | refine condX1 ?_ | refine condNot ?_ | refine condAnd ?_ | refine condOr ?_ | refine aO ?_ | refine aB ?_ | refine aR ?_ | refine aR ?_ (by simp; omega) | refine xr (by assumption) ?_ | refine ai (by assumption) ?_ | refine kV (hps) ?_ | refine condD (fun h => ?_) (fun h => ?_) | refine condB (fun h => ?_) (fun h => ?_) | refine condN (fun h => ?_) (fun h => ?_) | refine condE (fun h => ?_) (fun h => ?_) | refine condV (fun h => ?_) (fun h => ?_))
    refine ev_keep [2, 4, 0] [66, 68] ?_
    exact min_loop349 s v q ho _ _ 40 q.len 0 _ _ _ (by omega) (by omega)
  · rw [if_neg e0]
    refine W_ok 300 _ _ _ _ ?_
    repeat' ((conv => whnf); first | refine bslP (by first | rfl | (simp [pureL, pureLL, AV.pure]; done) | fail) rfl ?_ | refine TakeC.full (by first | rfl | omega | (simp; done) | (simp; omega) | fail) ?_ | refine zBs ?_ | refine zBn ?_ | refine zBv rfl rfl ?_ | refine zN ?_ | refine zC ?_ | refine zC4 ?_ | refine zOr16 ?_ | refine zC1 ?_ | refine zByte ?_ | refine zMaxL ?_ | refine zMaxR ?_ | refine zMinL ?_ | refine zMinR ?_ | refine zShr ?_ | refine zC8 ?_ | refine zQ ?_ | refine zR ?_ | refine zS ?_ | refine zA ?_ | refine zM ?_ | refine xr rfl ?_ | refine ai rfl ?_ | refine condT ?_ | refine condF ?_ | refine condG1 ?_ | refine condG0 ?_ | refine cD ?_ | refine dD ?_ | refine cB ?_ | refine dB ?_ | refine cN ?_ | refine dN ?_ | refine cV ?_ | refine dV ?_ | refine cE ?_ | refine dE ?_ | refine condX0 ?_ | refine condX1 ?_ | refine condNot ?_ | refine condAnd ?_ | refine condOr ?_ | refine aO ?_ | refine aB ?_ | refine aR ?_ | refine aR ?_ (by simp; omega) | refine xr (by assumption) ?_ | refine ai (by assumption) ?_ | refine kV (hps) ?_ | refine condD (fun h => ?_) (fun h => ?_) | refine condB (fun h => ?_) (fun h => ?_) | refine condN (fun h => ?_) (fun h => ?_) | refine condE (fun h => ?_) (fun h => ?_) | refine condV (fun h => ?_) (fun h => ?_))
    (first | refine ev_fin (And.intro (by first | rfl | (simp [AV.pure, pureL]; done) | fail) ?_) | refine ev_fin0 (And.intro (by first | rfl | (simp [AV.pure, pureL]; done) | fail) ?_)); (conv => whnf); refine And.intro (by first | rfl | (simp [AV.pure, pureL, pureLL, *]; done) | fail) ?_; rfl
theorem sp_loop349 (s : List UInt8) (v : Bool) (rest : List UInt8) (hr : rest.length < 2 ^ 40) (g2 g4 : Nat) :
    ∀ (r done : List UInt8) (T : List (Nat × AV)) (H : Heap) (c : Nat) (n : Int) (e : rest = done ++ r) (hn : n = done.length) (hd : (32 : UInt8) ∉ done),
   Ev G ⟨f349x12LH, ⟨(6, .int .i64 n) :: (2, .ref 66 g2 0) :: (4, .ref 68 g4 0) :: (0, .str s) :: (5, .str rest) :: T, (66, some (g2, .cells (rcA false ⟨0, 0⟩ 0 0))) :: (68, some (g4, .cells (rcA v ⟨0, 0⟩ 0 0))) :: H, c⟩, [.cell 2 (some 5), .t 3], 0⟩ (prR6 (refB s v rest))
  | [], done, T, H, c, n, e, hn, hdn => by
    have hd : rest.length = done.length := by simp [e]
    have e2 : rest = done := by simpa using e
    refine ev_loop' (W_okd 1 300 _ _ _ _ ?_)
    repeat' ((conv => whnf); first | refine bslP (by first | rfl | (simp [pureL, pureLL, AV.pure]; done) | fail) rfl ?_ | refine TakeC.full (by first | rfl | omega | (simp; done) | (simp; omega) | fail) ?_ | refine zBs ?_ | refine zBn ?_ | refine zBv rfl rfl ?_ | refine zN ?_ | refine zC ?_ | refine zC4 ?_ | refine zOr16 ?_ | refine zC1 ?_ | refine zByte ?_ | refine zMaxL ?_ | refine zMaxR ?_ | refine zMinL ?_ | refine zMinR ?_ | refine zShr ?_ | refine zC8 ?_ | refine zQ ?_ | refine zR ?_ | refine zS ?_ | refine zA ?_ | refine zM ?_ | refine xr rfl ?_ | refine ai rfl ?_ | refine condT ?_ | refine condF ?_ | refine condG1 ?_ | refine condG0 ?_ | refine cD ?_ | refine dD ?_ | refine cB ?_ | refine dB ?_ | refine cN ?_ | refine dN ?_ | refine cV ?_ | refine dV ?_ | refine cE ?_ | refine dE ?_ | refine condX0 ?_ | refine condX1 ?_ | refine condNot ?_ | refine condAnd ?_ | refine condOr ?_ | refine aO ?_ | refine aB ?_ | refine aR ?_ | refine aR ?_ (by simp; omega) | refine xr (by assumption) ?_ | refine ai (by assumption) ?_ | refine condD (fun h => ?_) (fun h => ?_) | refine condB (fun h => ?_) (fun h => ?_) | refine condN (fun h => ?_) (fun h => ?_) | refine condE (fun h => ?_) (fun h => ?_) | refine condV (fun h => ?_) (fun h => ?_))
    refine ev_keep [6, 2, 4, 0, 5] [66, 68] ?_
    exact tail349 s v rest done hr g2 g4 n hn (by rw [e2]; exact takeW_all hdn) (by rw [e2, hn]; simp) (by omega) _ _ _
  | x :: r, done, T, H, c, n, e, hn, hdn => by
    have hd : rest.length = done.length + (r.length + 1) := by simp [e]
    have hb := idx_at e hn
    by_cases hx : x = 32
    · subst hx
      refine ev_loop' (W_okd 1 300 _ _ _ _ ?_)
      repeat' ((conv => whnf); first | refine zIstr (b := 32) ?_ hb (by omega) | refine bslP (by first | rfl | (simp [pureL, pureLL, AV.pure]; done) | fail) rfl ?_ | refine TakeC.full (by first | rfl | omega | (simp; done) | (simp; omega) | fail) ?_ | refine zBs ?_ | refine zBn ?_ | refine zBv rfl rfl ?_ | refine zN ?_ | refine zC ?_ | refine zC4 ?_ | refine zOr16 ?_ | refine zC1 ?_ | refine zByte ?_ | refine zMaxL ?_ | refine zMaxR ?_ | refine zMinL ?_ | refine zMinR ?_ | refine zShr ?_ | refine zC8 ?_ | refine zQ ?_ | refine zR ?_ | refine zS ?_ | refine zA ?_ | refine zM ?_ | refine xr rfl ?_ | refine ai rfl ?_ | refine condT ?_ | refine condF ?_ | refine condG1 ?_ | refine condG0 ?_ | refine cD ?_ | refine dD ?_ | refine cB ?_ | refine dB ?_ | refine cN ?_ | refine dN ?_ | refine cV ?_ | refine dV ?_ | refine cE ?_ | refine dE ?_ | refine condX0 ?_ | refine condX1 ?_ | refine condNot ?_ | refine condAnd ?_ | refine condOr ?_ | refine aO ?_ | refine aB ?_ | refine aR ?_ | refine aR ?_ (by simp; omega) | refine xr (by assumption) ?_ | refine ai (by assumption) ?_ | refine condD (fun h => ?_) (fun h => ?_) | refine condB (fun h => ?_) (fun h => ?_) | refine condN (fun h => ?_) (fun h => ?_) | refine condE (fun h => ?_) (fun h => ?_) | refine condV (fun h => ?_) (fun h => ?_))
      refine ev_keep [6, 2, 4, 0, 5] [66, 68] ?_
      exact tail349 s v rest done hr g2 g4 n hn (by rw [e]; exact (takeW hdn).1) (by rw [e, hn]; simp) (by omega) _ _ _
    · have hx2 : ¬ (x.toNat : Int) = 32 := by
        intro q; apply hx; apply UInt8.toNat_inj.1
        show x.toNat = 32
        omega
      refine ev_loop' (W_ok 300 _ _ _ _ ?_)
      repeat' ((conv => whnf); first | refine zIstr (b := x) ?_ hb (by omega) | refine bslP (by first | rfl | (simp [pureL, pureLL, AV.pure]; done) | fail) rfl ?_ | refine TakeC.full (by first | rfl | omega | (simp; done) | (simp; omega) | fail) ?_ | refine zBs ?_ | refine zBn ?_ | refine zBv rfl rfl ?_ | refine zN ?_ | refine zC ?_ | refine zC4 ?_ | refine zOr16 ?_ | refine zC1 ?_ | refine zByte ?_ | refine zMaxL ?_ | refine zMaxR ?_ | refine zMinL ?_ | refine zMinR ?_ | refine zShr ?_ | refine zC8 ?_ | refine zQ ?_ | refine zR ?_ | refine zS ?_ | refine zA ?_ | refine zM ?_ | refine xr rfl ?_ | refine ai rfl ?_ | refine condT ?_ | refine condF ?_ | refine condG1 ?_ | refine condG0 ?_ | refine cD ?_ | refine dD ?_ | refine cB ?_ | refine dB ?_ | refine cN ?_ | refine dN ?_ | refine cV ?_ | refine dV ?_ | refine cE ?_ | refine dE ?_ | refine condX0 ?_ | refine condX1 ?_ | refine condNot ?_ | refine condAnd ?_ | refine condOr ?_ | refine aO ?_ | refine aB ?_ | refine aR ?_ | refine aR ?_ (by simp; omega) | refine xr (by assumption) ?_ | refine ai (by assumption) ?_ | refine condD (fun h => ?_) (fun h => ?_) | refine condB (fun h => ?_) (fun h => ?_) | refine condN (fun h => ?_) (fun h => ?_) | refine condE (fun h => ?_) (fun h => ?_) | refine condV (fun h => ?_) (fun h => ?_))
      refine ev_keep [6, 2, 4, 0, 5] [66, 68] ?_
      exact sp_loop349 s v rest hr g2 g4 r (done ++ [x]) _ _ _ (n + 1) (by simp [e]) (by simp [hn]) (by simp; exact ⟨hdn, fun q => hx q.symm⟩)
theorem sp349 (s : List UInt8) (v : Bool) (rest rest2 : List UInt8) (hr : rest.length < 2 ^ 40) (h2 : rest2 = rest) (g2 g4 : Nat) (T : List (Nat × AV)) (H : Heap) (c : Nat) :
   Ev G ⟨f349x12LH, ⟨(6, .int .i64 0) :: (2, .ref 66 g2 0) :: (4, .ref 68 g4 0) :: (0, .str s) :: (5, .str rest2) :: T, (66, some (g2, .cells (rcA false ⟨0, 0⟩ 0 0))) :: (68, some (g4, .cells (rcA v ⟨0, 0⟩ 0 0))) :: H, c⟩, [.cell 2 (some 5), .t 3], 0⟩ (prR6 (refB s v rest)) := by
  subst h2
  exact sp_loop349 s v rest2 hr g2 g4 rest2 [] _ _ _ 0 rfl rfl (by simp)
theorem parse_gives349 (s : List UInt8) (hs : s.length < 2 ^ 40) : Gives G 349 [.str s] [] (prR6 (refP s)) := by
  unfold refP headS
  have d7 : List.take (s.length - 7) (List.drop 7 s) = s.drop 7 := List.take_of_length_le (by simp)
  have d5 : List.take (s.length - 5) (List.drop 5 s) = s.drop 5 := List.take_of_length_le (by simp)
  by_cases l7 : 7 < s.length
  · by_cases t7 : s.take 7 = wPermit ++ [32]
    · rw [if_pos ⟨l7, t7⟩]
      simp only
      refine gives_code (F := f349) rfl rfl (W_ok 300 _ _ _ _ ?_)
      repeat' ((conv => whnf); first | refine zEqY t7 ?_ | refine bslP (by first | rfl | (simp [pureL, pureLL, AV.pure]; done) | fail) rfl ?_ | refine TakeC.full (by first | rfl | omega | (simp; done) | (simp; omega) | fail) ?_ | refine zBs ?_ | refine zBn ?_ | refine zBv rfl rfl ?_ | refine zN ?_ | refine zC ?_ | refine zC4 ?_ | refine zOr16 ?_ | refine zC1 ?_ | refine zByte ?_ | refine zMaxL ?_ | refine zMaxR ?_ | refine zMinL ?_ | refine zMinR ?_ | refine zShr ?_ | refine zC8 ?_ | refine zQ ?_ | refine zR ?_ | refine zS ?_ | refine zA ?_ | refine zM ?_ | refine xr rfl ?_ | refine ai rfl ?_ | refine condT ?_ | refine condF ?_ | refine condG1 ?_ | refine condG0 ?_ | refine cD ?_ | refine dD ?_ | refine cB ?_ | refine dB ?_ | refine cN ?_ | refine dN ?_ | refine cV ?_ | refine dV ?_ | refine cE ?_ | refine dE ?_ | refine condX0 ?_ | refine condX1 ?_ | refine condNot ?_ | refine condAnd ?_ | refine condOr ?_ | refine aO ?_ | refine aB ?_ | refine aR ?_ | refine aR ?_ (by simp; omega) | refine xr (by assumption) ?_ | refine ai (by assumption) ?_ | refine condD (fun h => ?_) (fun h => ?_) | refine condB (fun h => ?_) (fun h => ?_) | refine condN (fun h => ?_) (fun h => ?_) | refine condE (fun h => ?_) (fun h => ?_) | refine condV (fun h => ?_) (fun h => ?_))
      refine ev_keep [6, 2, 4, 0, 5] [66, 68] ?_
      exact sp349 s true (s.drop 7) _ (by simp; omega) (by first | exact d7 | rfl) _ _ _ _ _
    · rw [if_neg (fun h => t7 h.2)]
      by_cases t5 : s.take 5 = wDeny ++ [32]
      · rw [if_pos ⟨by omega, t5⟩]
        simp only
        refine gives_code (F := f349) rfl rfl (W_ok 300 _ _ _ _ ?_)
        repeat' ((conv => whnf); first | refine zEqF2 t7 ?_ | refine zEqY t5 ?_ | refine bslP (by first | rfl | (simp [pureL, pureLL, AV.pure]; done) | fail) rfl ?_ | refine TakeC.full (by first | rfl | omega | (simp; done) | (simp; omega) | fail) ?_ | refine zBs ?_ | refine zBn ?_ | refine zBv rfl rfl ?_ | refine zN ?_ | refine zC ?_ | refine zC4 ?_ | refine zOr16 ?_ | refine zC1 ?_ | refine zByte ?_ | refine zMaxL ?_ | refine zMaxR ?_ | refine zMinL ?_ | refine zMinR ?_ | refine zShr ?_ | refine zC8 ?_ | refine zQ ?_ | refine zR ?_ | refine zS ?_ | refine zA ?_ | refine zM ?_ | refine xr rfl ?_ | refine ai rfl ?_ | refine condT ?_ | refine condF ?_ | refine condG1 ?_ | refine condG0 ?_ | refine cD ?_ | refine dD ?_ | refine cB ?_ | refine dB ?_ | refine cN ?_ | refine dN ?_ | refine cV ?_ | refine dV ?_ | refine cE ?_ | refine dE ?_ | refine condX0 ?_ | refine condX1 ?_ | refine condNot ?_ | refine condAnd ?_ | refine condOr ?_ | refine aO ?_ | refine aB ?_ | refine aR ?_ | refine aR ?_ (by simp; omega) | refine xr (by assumption) ?_ | refine ai (by assumption) ?_ | refine condD (fun h => ?_) (fun h => ?_) | refine condB (fun h => ?_) (fun h => ?_) | refine condN (fun h => ?_) (fun h => ?_) | refine condE (fun h => ?_) (fun h => ?_) | refine condV (fun h => ?_) (fun h => ?_))
        refine ev_keep [6, 2, 4, 0, 5] [66, 68] ?_
        exact sp349 s false (s.drop 5) _ (by simp; omega) (by first | exact d5 | rfl) _ _ _ _ _
      · rw [if_neg (fun h => t5 h.2)]
        simp only
        refine gives_code (F := f349) rfl rfl (W_ok 300 _ _ _ _ ?_)
        repeat' ((conv => whnf); first | refine zEqF2 t7 ?_ | refine zEqF2 t5 ?_ | refine bslP (by first | rfl | (simp [pureL, pureLL, AV.pure]; done) | fail) rfl ?_ | refine TakeC.full (by first | rfl | omega | (simp; done) | (simp; omega) | fail) ?_ | refine zBs ?_ | refine zBn ?_ | refine zBv rfl rfl ?_ | refine zN ?_ | refine zC ?_ | refine zC4 ?_ | refine zOr16 ?_ | refine zC1 ?_ | refine zByte ?_ | refine zMaxL ?_ | refine zMaxR ?_ | refine zMinL ?_ | refine zMinR ?_ | refine zShr ?_ | refine zC8 ?_ | refine zQ ?_ | refine zR ?_ | refine zS ?_ | refine zA ?_ | refine zM ?_ | refine xr rfl ?_ | refine ai rfl ?_ | refine condT ?_ | refine condF ?_ | refine condG1 ?_ | refine condG0 ?_ | refine cD ?_ | refine dD ?_ | refine cB ?_ | refine dB ?_ | refine cN ?_ | refine dN ?_ | refine cV ?_ | refine dV ?_ | refine cE ?_ | refine dE ?_ | refine condX0 ?_ | refine condX1 ?_ | refine condNot ?_ | refine condAnd ?_ | refine condOr ?_ | refine aO ?_ | refine aB ?_ | refine aR ?_ | refine aR ?_ (by simp; omega) | refine xr (by assumption) ?_ | refine ai (by assumption) ?_ | refine condD (fun h => ?_) (fun h => ?_) | refine condB (fun h => ?_) (fun h => ?_) | refine condN (fun h => ?_) (fun h => ?_) | refine condE (fun h => ?_) (fun h => ?_) | refine condV (fun h => ?_) (fun h => ?_))
        (first | refine ev_fin (And.intro (by first | rfl | (simp [AV.pure, pureL]; done) | fail) ?_) | refine ev_fin0 (And.intro (by first | rfl | (simp [AV.pure, pureL]; done) | fail) ?_)); (conv => whnf); refine And.intro (by first | rfl | (simp [AV.pure, pureL, pureLL, *]; done) | fail) ?_; rfl
  · rw [if_neg (fun h => l7 h.1)]
    by_cases l5 : 5 < s.length
    · by_cases t5 : s.take 5 = wDeny ++ [32]
      · rw [if_pos ⟨l5, t5⟩]
        simp only
        refine gives_code (F := f349) rfl rfl (W_ok 300 _ _ _ _ ?_)
        repeat' ((conv => whnf); first | refine zEqY t5 ?_ | refine bslP (by first | rfl | (simp [pureL, pureLL, AV.pure]; done) | fail) rfl ?_ | refine TakeC.full (by first | rfl | omega | (simp; done) | (simp; omega) | fail) ?_ | refine zBs ?_ | refine zBn ?_ | refine zBv rfl rfl ?_ | refine zN ?_ | refine zC ?_ | refine zC4 ?_ | refine zOr16 ?_ | refine zC1 ?_ | refine zByte ?_ | refine zMaxL ?_ | refine zMaxR ?_ | refine zMinL ?_ | refine zMinR ?_ | refine zShr ?_ | refine zC8 ?_ | refine zQ ?_ | refine zR ?_ | refine zS ?_ | refine zA ?_ | refine zM ?_ | refine xr rfl ?_ | refine ai rfl ?_ | refine condT ?_ | refine condF ?_ | refine condG1 ?_ | refine condG0 ?_ | refine cD ?_ | refine dD ?_ | refine cB ?_ | refine dB ?_ | refine cN ?_ | refine dN ?_ | refine cV ?_ | refine dV ?_ | refine cE ?_ | refine dE ?_ | refine condX0 ?_ | refine condX1 ?_ | refine condNot ?_ | refine condAnd ?_ | refine condOr ?_ | refine aO ?_ | refine aB ?_ | refine aR ?_ | refine aR ?_ (by simp; omega) | refine xr (by assumption) ?_ | refine ai (by assumption) ?_ | refine condD (fun h => ?_) (fun h => ?_) | refine condB (fun h => ?_) (fun h => ?_) | refine condN (fun h => ?_) (fun h => ?_) | refine condE (fun h => ?_) (fun h => ?_) | refine condV (fun h => ?_) (fun h => ?_))
        refine ev_keep [6, 2, 4, 0, 5] [66, 68] ?_
        exact sp349 s false (s.drop 5) _ (by simp; omega) (by first | exact d5 | rfl) _ _ _ _ _
      · rw [if_neg (fun h => t5 h.2)]
        simp only
        refine gives_code (F := f349) rfl rfl (W_ok 300 _ _ _ _ ?_)
        repeat' ((conv => whnf); first | refine zEqF2 t5 ?_ | refine bslP (by first | rfl | (simp [pureL, pureLL, AV.pure]; done) | fail) rfl ?_ | refine TakeC.full (by first | rfl | omega | (simp; done) | (simp; omega) | fail) ?_ | refine zBs ?_ | refine zBn ?_ | refine zBv rfl rfl ?_ | refine zN ?_ | refine zC ?_ | refine zC4 ?_ | refine zOr16 ?_ | refine zC1 ?_ | refine zByte ?_ | refine zMaxL ?_ | refine zMaxR ?_ | refine zMinL ?_ | refine zMinR ?_ | refine zShr ?_ | refine zC8 ?_ | refine zQ ?_ | refine zR ?_ | refine zS ?_ | refine zA ?_ | refine zM ?_ | refine xr rfl ?_ | refine ai rfl ?_ | refine condT ?_ | refine condF ?_ | refine condG1 ?_ | refine condG0 ?_ | refine cD ?_ | refine dD ?_ | refine cB ?_ | refine dB ?_ | refine cN ?_ | refine dN ?_ | refine cV ?_ | refine dV ?_ | refine cE ?_ | refine dE ?_ | refine condX0 ?_ | refine condX1 ?_ | refine condNot ?_ | refine condAnd ?_ | refine condOr ?_ | refine aO ?_ | refine aB ?_ | refine aR ?_ | refine aR ?_ (by simp; omega) | refine xr (by assumption) ?_ | refine ai (by assumption) ?_ | refine condD (fun h => ?_) (fun h => ?_) | refine condB (fun h => ?_) (fun h => ?_) | refine condN (fun h => ?_) (fun h => ?_) | refine condE (fun h => ?_) (fun h => ?_) | refine condV (fun h => ?_) (fun h => ?_))
        (first | refine ev_fin (And.intro (by first | rfl | (simp [AV.pure, pureL]; done) | fail) ?_) | refine ev_fin0 (And.intro (by first | rfl | (simp [AV.pure, pureL]; done) | fail) ?_)); (conv => whnf); refine And.intro (by first | rfl | (simp [AV.pure, pureL, pureLL, *]; done) | fail) ?_; rfl
    · rw [if_neg (fun h => l5 h.1)]
      simp only
      refine gives_code (F := f349) rfl rfl (W_ok 300 _ _ _ _ ?_)
      repeat' ((conv => whnf); first | refine bslP (by first | rfl | (simp [pureL, pureLL, AV.pure]; done) | fail) rfl ?_ | refine TakeC.full (by first | rfl | omega | (simp; done) | (simp; omega) | fail) ?_ | refine zBs ?_ | refine zBn ?_ | refine zBv rfl rfl ?_ | refine zN ?_ | refine zC ?_ | refine zC4 ?_ | refine zOr16 ?_ | refine zC1 ?_ | refine zByte ?_ | refine zMaxL ?_ | refine zMaxR ?_ | refine zMinL ?_ | refine zMinR ?_ | refine zShr ?_ | refine zC8 ?_ | refine zQ ?_ | refine zR ?_ | refine zS ?_ | refine zA ?_ | refine zM ?_ | refine xr rfl ?_ | refine ai rfl ?_ | refine condT ?_ | refine condF ?_ | refine condG1 ?_ | refine condG0 ?_ | refine cD ?_ | refine dD ?_ | refine cB ?_ | refine dB ?_ | refine cN ?_ | refine dN ?_ | refine cV ?_ | refine dV ?_ | refine cE ?_ | refine dE ?_ | refine condX0 ?_ | refine condX1 ?_ | refine condNot ?_ | refine condAnd ?_ | refine condOr ?_ | refine aO ?_ | refine aB ?_ | refine aR ?_ | refine aR ?_ (by simp; omega) | refine xr (by assumption) ?_ | refine ai (by assumption) ?_ | refine condD (fun h => ?_) (fun h => ?_) | refine condB (fun h => ?_) (fun h => ?_) | refine condN (fun h => ?_) (fun h => ?_) | refine condE (fun h => ?_) (fun h => ?_) | refine condV (fun h => ?_) (fun h => ?_))
      (first | refine ev_fin (And.intro (by first | rfl | (simp [AV.pure, pureL]; done) | fail) ?_) | refine ev_fin0 (And.intro (by first | rfl | (simp [AV.pure, pureL]; done) | fail) ?_)); (conv => whnf); refine And.intro (by first | rfl | (simp [AV.pure, pureL, pureLL, *]; done) | fail) ?_; rfl
end Go.AM.IR
set_option maxHeartbeats 4000000
set_option maxRecDepth 20000
namespace Go.AM.IR
theorem enc_pure (r : PRule) : pureL r.enc = true := rfl
section
variable {k : Eff → Prop} {x y : Opd} {g key : Nat} {hg : Nat → Option (Nat × Blk)}
end
end Go.AM.IR
set_option maxHeartbeats 4000000
set_option maxRecDepth 20000
namespace Go.AM.IR
@[simp] theorem pureLL_rules (l : List PRule) : pureLL (l.map PRule.enc) = true := pureLL_mapB enc_pure l
end Go.AM.IR
set_option maxHeartbeats 4000000
set_option maxRecDepth 20000
namespace Go.AM.IR
end Go.AM.IR
set_option maxHeartbeats 4000000
set_option maxRecDepth 20000
namespace Go.AM.IR
section
variable {k : Eff → Prop} {x y : Opd} {g key : Nat} {hg : Nat → Option (Nat × Blk)}
theorem zSame5 {r : PRule} (h : k { res := .bool true }) : ∃ e, aopV (.eqs [.bool, .int, .int, .int, .int] false x y) g key [.agg r.enc, .agg r.enc] hg = some e ∧ k e := ⟨_, by simp [aopV, PRule.enc, eqL, scal], h⟩
end
end Go.AM.IR
set_option maxHeartbeats 4000000
set_option maxRecDepth 20000
namespace Go.AM.IR
theorem law348_gives (s : List UInt8) (hs : s.length < 4294967281) : Gives G 348 [.str s] [] ⟨.bool true, []⟩ := by
  by_cases h : s.length > 200
  · refine gives_code (F := f348) rfl rfl (W_ok 300 _ _ _ _ ?_)
    repeat' ((conv => whnf); first | refine bslP (by first | rfl | (simp [pureL, pureLL, AV.pure]; done) | fail) rfl ?_ | refine TakeC.full (by first | rfl | omega | (simp; done) | (simp; omega) | fail) ?_ | refine zBs ?_ | refine zBn ?_ | refine zBv rfl rfl ?_ | refine zN ?_ | refine zC ?_ | refine zC4 ?_ | refine zOr16 ?_ | refine zC1 ?_ | refine zByte ?_ | refine zMaxL ?_ | refine zMaxR ?_ | refine zMinL ?_ | refine zMinR ?_ | refine zShr ?_ | refine zC8 ?_ | refine zQ ?_ | refine zR ?_ | refine zS ?_ | refine zA ?_ | refine zM ?_ | refine xr rfl ?_ | refine ai rfl ?_ | refine condT ?_ | refine condF ?_ | refine condG1 ?_ | refine condG0 ?_ | refine cD ?_ | refine dD ?_ | refine cB ?_ | refine dB ?_ | refine cN ?_ | refine dN ?_ | refine cV ?_ | refine dV ?_ | refine cE ?_ | refine dE ?_ | refine condX0 ?_ | refine condX1 ?_ | refine condNot ?_ | refine condAnd ?_ | refine condOr ?_ | refine aO ?_ | refine aB ?_ | refine aR ?_ | refine aR ?_ (by simp; omega) | refine xr (by assumption) ?_ | refine ai (by assumption) ?_ | refine kV (awake327_gives) ?_ | refine condD (fun h => ?_) (fun h => ?_) | refine condB (fun h => ?_) (fun h => ?_) | refine condN (fun h => ?_) (fun h => ?_) | refine condE (fun h => ?_) (fun h => ?_) | refine condV (fun h => ?_) (fun h => ?_))
    (first | refine ev_fin (And.intro (by first | rfl | (simp [AV.pure, pureL]; done) | fail) ?_) | refine ev_fin0 (And.intro (by first | rfl | (simp [AV.pure, pureL]; done) | fail) ?_)); rfl
  · have h1 := parse_gives334 s hs
    have h2 := parse_gives349 s (by omega)
    rw [← pl_eq] at h2
    unfold prR5 at h1
    unfold prR6 at h2
    generalize plP s = p at *
    obtain ⟨r, e⟩ := p
    simp only at h1 h2
    refine gives_code (F := f348) rfl rfl (W_ok 300 _ _ _ _ ?_)
    repeat' ((conv => whnf); first | refine zSame5 ?_ | refine zSameI ?_ | refine bslP (by first | rfl | (simp [pureL, pureLL, AV.pure]; done) | fail) rfl ?_ | refine TakeC.full (by first | rfl | omega | (simp; done) | (simp; omega) | fail) ?_ | refine zBs ?_ | refine zBn ?_ | refine zBv rfl rfl ?_ | refine zN ?_ | refine zC ?_ | refine zC4 ?_ | refine zOr16 ?_ | refine zC1 ?_ | refine zByte ?_ | refine zMaxL ?_ | refine zMaxR ?_ | refine zMinL ?_ | refine zMinR ?_ | refine zShr ?_ | refine zC8 ?_ | refine zQ ?_ | refine zR ?_ | refine zS ?_ | refine zA ?_ | refine zM ?_ | refine xr rfl ?_ | refine ai rfl ?_ | refine condT ?_ | refine condF ?_ | refine condG1 ?_ | refine condG0 ?_ | refine cD ?_ | refine dD ?_ | refine cB ?_ | refine dB ?_ | refine cN ?_ | refine dN ?_ | refine cV ?_ | refine dV ?_ | refine cE ?_ | refine dE ?_ | refine condX0 ?_ | refine condX1 ?_ | refine condNot ?_ | refine condAnd ?_ | refine condOr ?_ | refine aO ?_ | refine aB ?_ | refine aR ?_ | refine aR ?_ (by simp; omega) | refine xr (by assumption) ?_ | refine ai (by assumption) ?_ | refine kV (h1) ?_ | refine kV (h2) ?_ | refine kV (awake327_gives) ?_ | refine condD (fun h => ?_) (fun h => ?_) | refine condB (fun h => ?_) (fun h => ?_) | refine condN (fun h => ?_) (fun h => ?_) | refine condE (fun h => ?_) (fun h => ?_) | refine condV (fun h => ?_) (fun h => ?_))
    (first | refine ev_fin (And.intro (by first | rfl | (simp [AV.pure, pureL]; done) | fail) ?_) | refine ev_fin0 (And.intro (by first | rfl | (simp [AV.pure, pureL]; done) | fail) ?_)); rfl
end Go.AM.IR
set_option maxHeartbeats 4000000
set_option maxRecDepth 20000
namespace Go.AM.IR
end Go.AM.IR
set_option maxHeartbeats 4000000
set_option maxRecDepth 20000
namespace Go.AM.IR
theorem law348_all (ass : List (List AV)) (h : ArgsT [.str] ass) (hb : bkLL ass ≤ 1048576) : Gives G 348 (argsA [.str] ass) [] ⟨.bool true, []⟩ := by
  obtain ⟨x0, s0, rfl, h0, h⟩ := argsT_cons h
  obtain rfl := argsT_nil h
  obtain ⟨s, rfl⟩ := T_str h0
  simp only [bkLL, bkL, AV.bk] at hb
  exact law348_gives s (by omega)
end Go.AM.IR
