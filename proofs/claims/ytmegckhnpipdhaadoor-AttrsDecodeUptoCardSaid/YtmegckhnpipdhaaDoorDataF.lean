/- What the functions of this program give, on the abstract machine. -/
import Derived.Test.YtmegckhnpipdhaaDoorDataC
import Derived.Test.YtmegckhnpipdhaaDoorDataE
import Derived.Test.YtmegckhnpipdhaaDoorDataD
import Derived.Test.YtmegckhnpipdhaaDoorMachineC
import Derived.Test.YtmegckhnpipdhaaDoorDataA
set_option linter.unusedVariables false
set_option linter.unusedSimpArgs false
set_option maxHeartbeats 4000000
set_option maxRecDepth 20000
namespace Go.AM.IR
theorem dec_long69 (wide : Bool) (w N : Nat) (hw : wd wide = w) (hN : N < 2 ^ 29) (b v rest : List UInt8) (c k : UInt8) (n : Nat) (hb0 : (byteCells b)[0]? = some [.int .u8 (c.toNat : Int)]) (hb1 : (byteCells b)[1]? = some [.int .u8 (k.toNat : Int)]) (hbit : bit16 c = true) (hlen : b.length < 2 ^ 29) (hh : 4 ≤ b.length)
  (hget : Gives G 93 [.sl 1 (byteCells b), .int .i64 2, .int .i64 2] [] ⟨.int .i64 (n : Int), []⟩) (hn : n ≤ 65535) (last : Int) (nd : Nat) (hnd : nd < 2 ^ 40) (a : Attrs) (hu : a.unknown.length < 2 ^ 29) (R : Ret)
  (h1 : b.length < 4 + n → R = decR (3, zeroA)) (h2 : 4 + n ≤ b.length → (k.toNat : Int) ≤ last → R = decR (16, zeroA))
  (h3 : 4 + n ≤ b.length → ¬ (k.toNat : Int) ≤ last → badHead ⟨c, k, true, (b.drop 4).take n, b.drop (4 + n)⟩ → R = decR (2, zeroA))
  (h4 : 4 + n ≤ b.length → ¬ (k.toNat : Int) ≤ last → ¬ badHead ⟨c, k, true, (b.drop 4).take n, b.drop (4 + n)⟩ → setA w k.toNat ((b.drop 4).take n) a = none → R = decR (2, zeroA))
  (go : 4 + n ≤ b.length → ¬ (k.toNat : Int) ≤ last → ¬ badHead ⟨c, k, true, (b.drop 4).take n, b.drop (4 + n)⟩ → ∀ a', setA w k.toNat ((b.drop 4).take n) a = some a' → ∀ (T : List (Nat × AV)) (H : Heap) (c g1 g2 g3 : Nat), Ev G ⟨f69x21LH, ⟨(4, .ref 68 g1 0) :: (0, .sl 1 (byteCells (b.drop (4 + n)))) :: (8, .int .i64 ((nd + isReq k.toNat : Nat) : Int)) :: (6, .ref 70 g2 0) :: (1, .bool wide) :: (7, .int .i64 (k.toNat : Int)) :: T, (68, some (g1, .cells zeroC)) :: (70, some (g2, .cells (a'.cellsV (.vs 300 g3 a'.unknown.length)))) :: (300, some (g3, .vec 2 (a'.unknown.map TLV.enc))) :: H, c⟩, [.cell 4 (some 16), .t 5], 0⟩ R)
  (T : List (Nat × AV)) (H : Heap) (c_ g1 g2 g3 : Nat) : Ev G ⟨f69x21LH, ⟨(4, .ref 68 g1 0) :: (0, .sl 1 (byteCells b)) :: (8, .int .i64 (nd : Int)) :: (6, .ref 70 g2 0) :: (1, .bool wide) :: (7, .int .i64 last) :: T, (68, some (g1, .cells zeroC)) :: (70, some (g2, .cells (a.cellsV (.vs 300 g3 a.unknown.length)))) :: (300, some (g3, .vec 2 (a.unknown.map TLV.enc))) :: H, c_⟩, [.cell 4 (some 16), .t 5], 0⟩ R := by
  have hbl := byteCells_length b
  have hk := k.toNat_lt
  have hflag := flag_gives94 (k.toNat : Int) (by omega)
  have hwg := width_gives96 wide
  rw [hw] at hwg
  by_cases c1 : b.length < 4 + n
  · rw [h1 c1]
    refine ev_loop' (W_ok 300 _ _ _ _ ?_)
    repeat' ((conv => whnf); first | refine zAndT hbit ?_ | refine zNotB ?_ | refine bslP (by first | rfl | (simp [pureL, pureLL, AV.pure]; done) | fail) rfl ?_ | refine TakeC.full (by first | rfl | omega | (simp; done) | (simp; omega) | fail) ?_ | refine zBs ?_ | refine zBn ?_ | refine zBv rfl rfl ?_ | refine zN ?_ | refine zC ?_ | refine zC4 ?_ | refine zOr16 ?_ | refine zC1 ?_ | refine zByte ?_ | refine zMaxL ?_ | refine zMaxR ?_ | refine zMinL ?_ | refine zMinR ?_ | refine zShr ?_ | refine zC8 ?_ | refine zQ ?_ | refine zR ?_ | refine zS ?_ | refine zA ?_ | refine zM ?_ | refine xr rfl ?_ | refine ai rfl ?_ | refine condT ?_ | refine condF ?_ | refine condG1 ?_ | refine condG0 ?_ | refine cD ?_ | refine dD ?_ | refine cB ?_ | refine dB ?_ | refine cN ?_ | refine dN ?_ | refine cV ?_ | refine dV ?_ | refine cE ?_ | refine dE ?_ | refine condX0 ?_ | refine condX1 ?_ | refine condNot ?_ | refine condAnd ?_ | refine condOr ?_ | refine aO ?_ | refine aB ?_ | refine aR ?_ | refine aR ?_ (by simp; omega) | refine xr (by assumption) ?_ | refine ai (by assumption) ?_ | refine kV (hget) ?_ | refine kV (hflag) ?_ | refine kV (hwg) ?_ | refine condD (fun h => ?_) (fun h => ?_) | refine condB (fun h => ?_) (fun h => ?_) | refine condN (fun h => ?_) (fun h => ?_) | refine condE (fun h => ?_) (fun h => ?_) | refine condV (fun h => ?_) (fun h => ?_))
    refine ev_le [] [(68, some (_, .cells zeroA.enc))] trivial ⟨⟨rfl, .refl _, LeP.nil 2, .refl _, .refl _, .refl _, .refl _, .refl _, .refl _, .refl _, .refl _, .refl _, LeP.nil 1, .refl _, .refl _, LeP.nil 1, LeP.nil 2, trivial⟩, trivial⟩ ?_
    (first | refine ev_fin (And.intro (by first | rfl | (simp [AV.pure, pureL]; done) | fail) ?_) | refine ev_fin0 (And.intro (by first | rfl | (simp [AV.pure, pureL]; done) | fail) ?_))
    (conv => whnf); exact And.intro (by first | rfl | (simp [AV.pure, pureL]; done) | fail) rfl
  have c1 : 4 + n ≤ b.length := by omega
  by_cases c2 : (k.toNat : Int) ≤ last
  · rw [h2 c1 c2]
    refine ev_loop' (W_ok 300 _ _ _ _ ?_)
    repeat' ((conv => whnf); first | refine zAndT hbit ?_ | refine zNotB ?_ | refine bslP (by first | rfl | (simp [pureL, pureLL, AV.pure]; done) | fail) rfl ?_ | refine TakeC.full (by first | rfl | omega | (simp; done) | (simp; omega) | fail) ?_ | refine zBs ?_ | refine zBn ?_ | refine zBv rfl rfl ?_ | refine zN ?_ | refine zC ?_ | refine zC4 ?_ | refine zOr16 ?_ | refine zC1 ?_ | refine zByte ?_ | refine zMaxL ?_ | refine zMaxR ?_ | refine zMinL ?_ | refine zMinR ?_ | refine zShr ?_ | refine zC8 ?_ | refine zQ ?_ | refine zR ?_ | refine zS ?_ | refine zA ?_ | refine zM ?_ | refine xr rfl ?_ | refine ai rfl ?_ | refine condT ?_ | refine condF ?_ | refine condG1 ?_ | refine condG0 ?_ | refine cD ?_ | refine dD ?_ | refine cB ?_ | refine dB ?_ | refine cN ?_ | refine dN ?_ | refine cV ?_ | refine dV ?_ | refine cE ?_ | refine dE ?_ | refine condX0 ?_ | refine condX1 ?_ | refine condNot ?_ | refine condAnd ?_ | refine condOr ?_ | refine aO ?_ | refine aB ?_ | refine aR ?_ | refine aR ?_ (by simp; omega) | refine xr (by assumption) ?_ | refine ai (by assumption) ?_ | refine kV (hget) ?_ | refine kV (hflag) ?_ | refine kV (hwg) ?_ | refine condD (fun h => ?_) (fun h => ?_) | refine condB (fun h => ?_) (fun h => ?_) | refine condN (fun h => ?_) (fun h => ?_) | refine condE (fun h => ?_) (fun h => ?_) | refine condV (fun h => ?_) (fun h => ?_))
    refine ev_le [] [(68, some (_, .cells zeroA.enc))] trivial ⟨⟨rfl, .refl _, LeP.nil 2, .refl _, .refl _, .refl _, .refl _, .refl _, .refl _, .refl _, .refl _, .refl _, LeP.nil 1, .refl _, .refl _, LeP.nil 1, LeP.nil 2, trivial⟩, trivial⟩ ?_
    (first | refine ev_fin (And.intro (by first | rfl | (simp [AV.pure, pureL]; done) | fail) ?_) | refine ev_fin0 (And.intro (by first | rfl | (simp [AV.pure, pureL]; done) | fail) ?_))
    (conv => whnf); exact And.intro (by first | rfl | (simp [AV.pure, pureL]; done) | fail) rfl
  have hvl : ((b.drop 4).take n).length = n := by simp; omega
  by_cases c3 : stripB c = ((flagS (k.toNat : Int)).toNat : Int)
  · by_cases c4 : n ≤ 255
    · rw [h3 c1 c2 (.inr ⟨rfl, by simp only; omega⟩)]
      refine ev_loop' (W_ok 300 _ _ _ _ ?_)
      repeat' ((conv => whnf); first | refine zAndT hbit ?_ | refine zNotB ?_ | refine bslP (by first | rfl | (simp [pureL, pureLL, AV.pure]; done) | fail) rfl ?_ | refine TakeC.full (by first | rfl | omega | (simp; done) | (simp; omega) | fail) ?_ | refine zBs ?_ | refine zBn ?_ | refine zBv rfl rfl ?_ | refine zN ?_ | refine zC ?_ | refine zC4 ?_ | refine zOr16 ?_ | refine zC1 ?_ | refine zByte ?_ | refine zMaxL ?_ | refine zMaxR ?_ | refine zMinL ?_ | refine zMinR ?_ | refine zShr ?_ | refine zC8 ?_ | refine zQ ?_ | refine zR ?_ | refine zS ?_ | refine zA ?_ | refine zM ?_ | refine xr rfl ?_ | refine ai rfl ?_ | refine condT ?_ | refine condF ?_ | refine condG1 ?_ | refine condG0 ?_ | refine cD ?_ | refine dD ?_ | refine cB ?_ | refine dB ?_ | refine cN ?_ | refine dN ?_ | refine cV ?_ | refine dV ?_ | refine cE ?_ | refine dE ?_ | refine condX0 ?_ | refine condX1 ?_ | refine condNot ?_ | refine condAnd ?_ | refine condOr ?_ | refine aO ?_ | refine aB ?_ | refine aR ?_ | refine aR ?_ (by simp; omega) | refine xr (by assumption) ?_ | refine ai (by assumption) ?_ | refine kV (hget) ?_ | refine kV (hflag) ?_ | refine kV (hwg) ?_ | refine condD (fun h => ?_) (fun h => ?_) | refine condB (fun h => ?_) (fun h => ?_) | refine condN (fun h => ?_) (fun h => ?_) | refine condE (fun h => ?_) (fun h => ?_) | refine condV (fun h => ?_) (fun h => ?_))
      refine ev_le [] [(68, some (_, .cells zeroA.enc))] trivial ⟨⟨rfl, .refl _, LeP.nil 2, .refl _, .refl _, .refl _, .refl _, .refl _, .refl _, .refl _, .refl _, .refl _, LeP.nil 1, .refl _, .refl _, LeP.nil 1, LeP.nil 2, trivial⟩, trivial⟩ ?_
      (first | refine ev_fin (And.intro (by first | rfl | (simp [AV.pure, pureL]; done) | fail) ?_) | refine ev_fin0 (And.intro (by first | rfl | (simp [AV.pure, pureL]; done) | fail) ?_))
      (conv => whnf); exact And.intro (by first | rfl | (simp [AV.pure, pureL]; done) | fail) rfl
    · have hnb : ¬ badHead ⟨c, k, true, (b.drop 4).take n, b.drop (4 + n)⟩ := by simp [badHead, c3]; omega
      have hsl := slice_eq b 4 n (4 + (n : Int)).toNat (by omega)
      have hwl := wd_le wide
      rw [hw] at hwl
      have hrd := read_gives95 k.toNat (by omega) a ((b.drop 4).take n) (by omega) (by omega) w hwl
      unfold readR at hrd
      cases hs : setA w k.toNat ((b.drop 4).take n) a with
      | none =>
        rw [hs] at hrd
        rw [h4 c1 c2 hnb hs]
        rw [← hsl] at hrd
        refine ev_loop' (W_ok 300 _ _ _ _ ?_)
        repeat' ((conv => whnf); first | refine zAndT hbit ?_ | refine zNotB ?_ | refine bslP (by first | rfl | (simp [pureL, pureLL, AV.pure]; done) | fail) rfl ?_ | refine TakeC.full (by first | rfl | omega | (simp; done) | (simp; omega) | fail) ?_ | refine zBs ?_ | refine zBn ?_ | refine zBv rfl rfl ?_ | refine zN ?_ | refine zC ?_ | refine zC4 ?_ | refine zOr16 ?_ | refine zC1 ?_ | refine zByte ?_ | refine zMaxL ?_ | refine zMaxR ?_ | refine zMinL ?_ | refine zMinR ?_ | refine zShr ?_ | refine zC8 ?_ | refine zQ ?_ | refine zR ?_ | refine zS ?_ | refine zA ?_ | refine zM ?_ | refine xr rfl ?_ | refine ai rfl ?_ | refine condT ?_ | refine condF ?_ | refine condG1 ?_ | refine condG0 ?_ | refine cD ?_ | refine dD ?_ | refine cB ?_ | refine dB ?_ | refine cN ?_ | refine dN ?_ | refine cV ?_ | refine dV ?_ | refine cE ?_ | refine dE ?_ | refine condX0 ?_ | refine condX1 ?_ | refine condNot ?_ | refine condAnd ?_ | refine condOr ?_ | refine aO ?_ | refine aB ?_ | refine aR ?_ | refine aR ?_ (by simp; omega) | refine xr (by assumption) ?_ | refine ai (by assumption) ?_ | refine kV (hget) ?_ | refine kV (hflag) ?_ | refine kV (hwg) ?_ | refine kX [(70, _, _), (300, _, _)] [] ⟨rfl, rfl, trivial⟩ trivial (hrd) ?_ | refine condD (fun h => ?_) (fun h => ?_) | refine condB (fun h => ?_) (fun h => ?_) | refine condN (fun h => ?_) (fun h => ?_) | refine condE (fun h => ?_) (fun h => ?_) | refine condV (fun h => ?_) (fun h => ?_))
        refine ev_le [] [(68, some (_, .cells zeroA.enc))] trivial ⟨⟨rfl, .refl _, LeP.nil 2, .refl _, .refl _, .refl _, .refl _, .refl _, .refl _, .refl _, .refl _, .refl _, LeP.nil 1, .refl _, .refl _, LeP.nil 1, LeP.nil 2, trivial⟩, trivial⟩ ?_
        (first | refine ev_fin (And.intro (by first | rfl | (simp [AV.pure, pureL]; done) | fail) ?_) | refine ev_fin0 (And.intro (by first | rfl | (simp [AV.pure, pureL]; done) | fail) ?_))
        (conv => whnf); exact And.intro (by first | rfl | (simp [AV.pure, pureL]; done) | fail) rfl
      | some a' =>
        rw [hs] at hrd
        rw [← hsl] at hrd
        have go := go c1 c2 hnb a' hs
        simp only [readRet] at hrd
        by_cases hq : 1 ≤ k.toNat ∧ k.toNat ≤ 3
        · rw [show isKind k.toNat = true from by simp [isKind]; omega] at hrd
          rw [show ((nd + isReq k.toNat : Nat) : Int) = (nd : Int) + 1 from by simp [isReq, hq]] at go
          refine ev_loop' (W_ok 300 _ _ _ _ ?_)
          repeat' ((conv => whnf); first | refine zAndT hbit ?_ | refine zNotB ?_ | refine bslP (by first | rfl | (simp [pureL, pureLL, AV.pure]; done) | fail) rfl ?_ | refine TakeC.full (by first | rfl | omega | (simp; done) | (simp; omega) | fail) ?_ | refine zBs ?_ | refine zBn ?_ | refine zBv rfl rfl ?_ | refine zN ?_ | refine zC ?_ | refine zC4 ?_ | refine zOr16 ?_ | refine zC1 ?_ | refine zByte ?_ | refine zMaxL ?_ | refine zMaxR ?_ | refine zMinL ?_ | refine zMinR ?_ | refine zShr ?_ | refine zC8 ?_ | refine zQ ?_ | refine zR ?_ | refine zS ?_ | refine zA ?_ | refine zM ?_ | refine xr rfl ?_ | refine ai rfl ?_ | refine condT ?_ | refine condF ?_ | refine condG1 ?_ | refine condG0 ?_ | refine cD ?_ | refine dD ?_ | refine cB ?_ | refine dB ?_ | refine cN ?_ | refine dN ?_ | refine cV ?_ | refine dV ?_ | refine cE ?_ | refine dE ?_ | refine condX0 ?_ | refine condX1 ?_ | refine condNot ?_ | refine condAnd ?_ | refine condOr ?_ | refine aO ?_ | refine aB ?_ | refine aR ?_ | refine aR ?_ (by simp; omega) | refine xr (by assumption) ?_ | refine ai (by assumption) ?_ | refine kV (hget) ?_ | refine kV (hflag) ?_ | refine kV (hwg) ?_ | refine kX [(70, _, _), (300, _, _)] [] ⟨rfl, rfl, trivial⟩ trivial (hrd) ?_ | refine condD (fun h => ?_) (fun h => ?_) | refine condB (fun h => ?_) (fun h => ?_) | refine condN (fun h => ?_) (fun h => ?_) | refine condE (fun h => ?_) (fun h => ?_) | refine condV (fun h => ?_) (fun h => ?_))
          refine ev_keep [4, 0, 8, 6, 1, 7] [68, 70, 300] ?_
          rw [tail_eq b _ _ (by omega), show (4 + (n : Int)).toNat = 4 + n from by omega]
          exact go _ _ _ _ _ _
        · rw [show ((nd + isReq k.toNat : Nat) : Int) = (nd : Int) from by simp [isReq, hq]] at go
          cases hik : isKind k.toNat
          · rw [hik] at hrd
            refine ev_loop' (W_ok 300 _ _ _ _ ?_)
            repeat' ((conv => whnf); first | refine zAndT hbit ?_ | refine zNotB ?_ | refine bslP (by first | rfl | (simp [pureL, pureLL, AV.pure]; done) | fail) rfl ?_ | refine TakeC.full (by first | rfl | omega | (simp; done) | (simp; omega) | fail) ?_ | refine zBs ?_ | refine zBn ?_ | refine zBv rfl rfl ?_ | refine zN ?_ | refine zC ?_ | refine zC4 ?_ | refine zOr16 ?_ | refine zC1 ?_ | refine zByte ?_ | refine zMaxL ?_ | refine zMaxR ?_ | refine zMinL ?_ | refine zMinR ?_ | refine zShr ?_ | refine zC8 ?_ | refine zQ ?_ | refine zR ?_ | refine zS ?_ | refine zA ?_ | refine zM ?_ | refine xr rfl ?_ | refine ai rfl ?_ | refine condT ?_ | refine condF ?_ | refine condG1 ?_ | refine condG0 ?_ | refine cD ?_ | refine dD ?_ | refine cB ?_ | refine dB ?_ | refine cN ?_ | refine dN ?_ | refine cV ?_ | refine dV ?_ | refine cE ?_ | refine dE ?_ | refine condX0 ?_ | refine condX1 ?_ | refine condNot ?_ | refine condAnd ?_ | refine condOr ?_ | refine aO ?_ | refine aB ?_ | refine aR ?_ | refine aR ?_ (by simp; omega) | refine xr (by assumption) ?_ | refine ai (by assumption) ?_ | refine kV (hget) ?_ | refine kV (hflag) ?_ | refine kV (hwg) ?_ | refine kX [(70, _, _), (300, _, _)] [] ⟨rfl, rfl, trivial⟩ trivial (hrd) ?_ | refine condD (fun h => ?_) (fun h => ?_) | refine condB (fun h => ?_) (fun h => ?_) | refine condN (fun h => ?_) (fun h => ?_) | refine condE (fun h => ?_) (fun h => ?_) | refine condV (fun h => ?_) (fun h => ?_))
            all_goals
              refine ev_keep [4, 0, 8, 6, 1, 7] [68, 70, 300] ?_
              rw [tail_eq b _ _ (by omega), show (4 + (n : Int)).toNat = 4 + n from by omega]
              exact go _ _ _ _ _ _
          · rw [hik] at hrd
            refine ev_loop' (W_ok 300 _ _ _ _ ?_)
            repeat' ((conv => whnf); first | refine zAndT hbit ?_ | refine zNotB ?_ | refine bslP (by first | rfl | (simp [pureL, pureLL, AV.pure]; done) | fail) rfl ?_ | refine TakeC.full (by first | rfl | omega | (simp; done) | (simp; omega) | fail) ?_ | refine zBs ?_ | refine zBn ?_ | refine zBv rfl rfl ?_ | refine zN ?_ | refine zC ?_ | refine zC4 ?_ | refine zOr16 ?_ | refine zC1 ?_ | refine zByte ?_ | refine zMaxL ?_ | refine zMaxR ?_ | refine zMinL ?_ | refine zMinR ?_ | refine zShr ?_ | refine zC8 ?_ | refine zQ ?_ | refine zR ?_ | refine zS ?_ | refine zA ?_ | refine zM ?_ | refine xr rfl ?_ | refine ai rfl ?_ | refine condT ?_ | refine condF ?_ | refine condG1 ?_ | refine condG0 ?_ | refine cD ?_ | refine dD ?_ | refine cB ?_ | refine dB ?_ | refine cN ?_ | refine dN ?_ | refine cV ?_ | refine dV ?_ | refine cE ?_ | refine dE ?_ | refine condX0 ?_ | refine condX1 ?_ | refine condNot ?_ | refine condAnd ?_ | refine condOr ?_ | refine aO ?_ | refine aB ?_ | refine aR ?_ | refine aR ?_ (by simp; omega) | refine xr (by assumption) ?_ | refine ai (by assumption) ?_ | refine kV (hget) ?_ | refine kV (hflag) ?_ | refine kV (hwg) ?_ | refine kX [(70, _, _), (300, _, _)] [] ⟨rfl, rfl, trivial⟩ trivial (hrd) ?_ | refine condD (fun h => ?_) (fun h => ?_) | refine condB (fun h => ?_) (fun h => ?_) | refine condN (fun h => ?_) (fun h => ?_) | refine condE (fun h => ?_) (fun h => ?_) | refine condV (fun h => ?_) (fun h => ?_))
            all_goals
              refine ev_keep [4, 0, 8, 6, 1, 7] [68, 70, 300] ?_
              rw [tail_eq b _ _ (by omega), show (4 + (n : Int)).toNat = 4 + n from by omega]
              exact go _ _ _ _ _ _
  · rw [h3 c1 c2 (.inl c3)]
    refine ev_loop' (W_ok 300 _ _ _ _ ?_)
    repeat' ((conv => whnf); first | refine zAndT hbit ?_ | refine zNotB ?_ | refine bslP (by first | rfl | (simp [pureL, pureLL, AV.pure]; done) | fail) rfl ?_ | refine TakeC.full (by first | rfl | omega | (simp; done) | (simp; omega) | fail) ?_ | refine zBs ?_ | refine zBn ?_ | refine zBv rfl rfl ?_ | refine zN ?_ | refine zC ?_ | refine zC4 ?_ | refine zOr16 ?_ | refine zC1 ?_ | refine zByte ?_ | refine zMaxL ?_ | refine zMaxR ?_ | refine zMinL ?_ | refine zMinR ?_ | refine zShr ?_ | refine zC8 ?_ | refine zQ ?_ | refine zR ?_ | refine zS ?_ | refine zA ?_ | refine zM ?_ | refine xr rfl ?_ | refine ai rfl ?_ | refine condT ?_ | refine condF ?_ | refine condG1 ?_ | refine condG0 ?_ | refine cD ?_ | refine dD ?_ | refine cB ?_ | refine dB ?_ | refine cN ?_ | refine dN ?_ | refine cV ?_ | refine dV ?_ | refine cE ?_ | refine dE ?_ | refine condX0 ?_ | refine condX1 ?_ | refine condNot ?_ | refine condAnd ?_ | refine condOr ?_ | refine aO ?_ | refine aB ?_ | refine aR ?_ | refine aR ?_ (by simp; omega) | refine xr (by assumption) ?_ | refine ai (by assumption) ?_ | refine kV (hget) ?_ | refine kV (hflag) ?_ | refine kV (hwg) ?_ | refine condD (fun h => ?_) (fun h => ?_) | refine condB (fun h => ?_) (fun h => ?_) | refine condN (fun h => ?_) (fun h => ?_) | refine condE (fun h => ?_) (fun h => ?_) | refine condV (fun h => ?_) (fun h => ?_))
    refine ev_le [] [(68, some (_, .cells zeroA.enc))] trivial ⟨⟨rfl, .refl _, LeP.nil 2, .refl _, .refl _, .refl _, .refl _, .refl _, .refl _, .refl _, .refl _, .refl _, LeP.nil 1, .refl _, .refl _, LeP.nil 1, LeP.nil 2, trivial⟩, trivial⟩ ?_
    (first | refine ev_fin (And.intro (by first | rfl | (simp [AV.pure, pureL]; done) | fail) ?_) | refine ev_fin0 (And.intro (by first | rfl | (simp [AV.pure, pureL]; done) | fail) ?_))
    (conv => whnf); exact And.intro (by first | rfl | (simp [AV.pure, pureL]; done) | fail) rfl
end Go.AM.IR
set_option maxHeartbeats 4000000
set_option maxRecDepth 20000
namespace Go.AM.IR
theorem attD_short (c k n : UInt8) (r : List UInt8) (hb : bit16 c = false) : attD (c :: k :: n :: r) = if r.length < n.toNat then none else some ⟨c, k, false, r.take n.toNat, r.drop n.toNat⟩ := by
  simp [attD, hb]
theorem attD_long (c k n m : UInt8) (r : List UInt8) (hb : bit16 c = true) : attD (c :: k :: n :: m :: r) = if r.length < n.toNat * 256 + m.toNat then none else some ⟨c, k, true, r.take (n.toNat * 256 + m.toNat), r.drop (n.toNat * 256 + m.toNat)⟩ := by
  simp [attD, hb]
theorem isReq_le (k : Nat) : isReq k ≤ 1 := by unfold isReq; split <;> omega
theorem drop_len3 (c k n : UInt8) (r : List UInt8) (x : Nat) : (c :: k :: n :: r).drop (3 + x) = r.drop x := by rw [Nat.add_comm]; rfl
theorem drop_len4 (c k n m : UInt8) (r : List UInt8) (x : Nat) : (c :: k :: n :: m :: r).drop (4 + x) = r.drop x := by rw [Nat.add_comm]; rfl
theorem dec_loop69 (wide : Bool) (w N : Nat) (hw : wd wide = w) (hN : N < 2 ^ 29) : ∀ (f : Nat) (b : List UInt8) (last : Int) (nd : Nat) (a : Attrs) (T : List (Nat × AV)) (H : Heap) (c g1 g2 g3 : Nat) (hf : b.length ≤ f) (hu : a.unknown.length + b.length ≤ N) (hnd : nd + b.length ≤ N) (hD : DB N a),
   Ev G ⟨f69x21LH, ⟨(4, .ref 68 g1 0) :: (0, .sl 1 (byteCells b)) :: (8, .int .i64 (nd : Int)) :: (6, .ref 70 g2 0) :: (1, .bool wide) :: (7, .int .i64 last) :: T, (68, some (g1, .cells zeroC)) :: (70, some (g2, .cells (a.cellsV (.vs 300 g3 a.unknown.length)))) :: (300, some (g3, .vec 2 (a.unknown.map TLV.enc))) :: H, c⟩, [.cell 4 (some 16), .t 5], 0⟩ (decR (decF w f b last nd a))
  | f, [], last, nd, a, T, H, c_, g1, g2, g3, hf, hu, hnd, hD => by
    rw [show decF w f [] last nd a = finD nd a from by cases f <;> rfl]
    have hul : (a.unknown.map TLV.enc).length = a.unknown.length := by simp
    have hck := check_gives65 a (hD.lenB (by omega) (by omega))
    refine ev_frzk [(300, _, _)] [4, 0, 8, 6, 1, 7] [68, 70] ⟨rfl, (by first | rfl | (simp [Blk.pure, pureL, pureLL, AV.pure, *]; done) | fail), trivial⟩ ?_; repeat ((conv => whnf); first | refine And.intro (by first | rfl | omega | (simp [pureL, pureLL, AV.pure]; done) | (simp; omega) | (simp [pureL, pureLL, AV.pure, *]; done) | assumption | fail) ?_ | intro T H)
    by_cases h3 : nd < 3
    · rw [show finD nd a = (6, zeroA) from by rw [finD, if_pos h3]]
      refine ev_loop' (W_ok 300 _ _ _ _ ?_)
      repeat' ((conv => whnf); first | refine bslP (by first | rfl | (simp [pureL, pureLL, AV.pure]; done) | fail) rfl ?_ | refine TakeC.full (by first | rfl | omega | (simp; done) | (simp; omega) | fail) ?_ | refine zBs ?_ | refine zBn ?_ | refine zBv rfl rfl ?_ | refine zN ?_ | refine zC ?_ | refine zC4 ?_ | refine zOr16 ?_ | refine zC1 ?_ | refine zByte ?_ | refine zMaxL ?_ | refine zMaxR ?_ | refine zMinL ?_ | refine zMinR ?_ | refine zShr ?_ | refine zC8 ?_ | refine zQ ?_ | refine zR ?_ | refine zS ?_ | refine zA ?_ | refine zM ?_ | refine xr rfl ?_ | refine ai rfl ?_ | refine condT ?_ | refine condF ?_ | refine condG1 ?_ | refine condG0 ?_ | refine cD ?_ | refine dD ?_ | refine cB ?_ | refine dB ?_ | refine cN ?_ | refine dN ?_ | refine cV ?_ | refine dV ?_ | refine cE ?_ | refine dE ?_ | refine condX0 ?_ | refine condX1 ?_ | refine condNot ?_ | refine condAnd ?_ | refine condOr ?_ | refine aO ?_ | refine aB ?_ | refine aR ?_ | refine aR ?_ (by simp; omega) | refine xr (by assumption) ?_ | refine ai (by assumption) ?_ | refine condD (fun h => ?_) (fun h => ?_) | refine condB (fun h => ?_) (fun h => ?_) | refine condN (fun h => ?_) (fun h => ?_) | refine condE (fun h => ?_) (fun h => ?_) | refine condV (fun h => ?_) (fun h => ?_))
      refine ev_le [] [(68, some (_, .cells zeroA.enc))] trivial ⟨⟨rfl, .refl _, LeP.nil 2, .refl _, .refl _, .refl _, .refl _, .refl _, .refl _, .refl _, .refl _, .refl _, LeP.nil 1, .refl _, .refl _, LeP.nil 1, LeP.nil 2, trivial⟩, trivial⟩ ?_
      (first | refine ev_fin (And.intro (by first | rfl | (simp [AV.pure, pureL]; done) | fail) ?_) | refine ev_fin0 (And.intro (by first | rfl | (simp [AV.pure, pureL]; done) | fail) ?_))
      (conv => whnf); exact And.intro (by first | rfl | (simp [AV.pure, pureL]; done) | fail) rfl
    · by_cases h0 : checkS a = 0
      · rw [show finD nd a = (0, a) from by rw [finD, if_neg h3, if_pos h0]]
        rw [h0] at hck
        refine ev_loop' (W_ok 300 _ _ _ _ ?_)
        repeat' ((conv => whnf); first | refine bslP (by first | rfl | (simp [pureL, pureLL, AV.pure]; done) | fail) rfl ?_ | refine TakeC.full (by first | rfl | omega | (simp; done) | (simp; omega) | fail) ?_ | refine zBs ?_ | refine zBn ?_ | refine zBv rfl rfl ?_ | refine zN ?_ | refine zC ?_ | refine zC4 ?_ | refine zOr16 ?_ | refine zC1 ?_ | refine zByte ?_ | refine zMaxL ?_ | refine zMaxR ?_ | refine zMinL ?_ | refine zMinR ?_ | refine zShr ?_ | refine zC8 ?_ | refine zQ ?_ | refine zR ?_ | refine zS ?_ | refine zA ?_ | refine zM ?_ | refine xr rfl ?_ | refine ai rfl ?_ | refine condT ?_ | refine condF ?_ | refine condG1 ?_ | refine condG0 ?_ | refine cD ?_ | refine dD ?_ | refine cB ?_ | refine dB ?_ | refine cN ?_ | refine dN ?_ | refine cV ?_ | refine dV ?_ | refine cE ?_ | refine dE ?_ | refine condX0 ?_ | refine condX1 ?_ | refine condNot ?_ | refine condAnd ?_ | refine condOr ?_ | refine aO ?_ | refine aB ?_ | refine aR ?_ | refine aR ?_ (by simp; omega) | refine xr (by assumption) ?_ | refine ai (by assumption) ?_ | refine kV (hck) ?_ | refine condD (fun h => ?_) (fun h => ?_) | refine condB (fun h => ?_) (fun h => ?_) | refine condN (fun h => ?_) (fun h => ?_) | refine condE (fun h => ?_) (fun h => ?_) | refine condV (fun h => ?_) (fun h => ?_))
        (first | refine ev_fin (And.intro (by first | rfl | (simp [AV.pure, pureL]; done) | fail) ?_) | refine ev_fin0 (And.intro (by first | rfl | (simp [AV.pure, pureL]; done) | fail) ?_))
        (conv => whnf); exact And.intro (by simp [AV.pure, pureL]) rfl
      · rw [show finD nd a = (checkS a, zeroA) from by rw [finD, if_neg h3, if_neg h0]]
        refine ev_loop' (W_ok 300 _ _ _ _ ?_)
        repeat' ((conv => whnf); first | refine bslP (by first | rfl | (simp [pureL, pureLL, AV.pure]; done) | fail) rfl ?_ | refine TakeC.full (by first | rfl | omega | (simp; done) | (simp; omega) | fail) ?_ | refine zBs ?_ | refine zBn ?_ | refine zBv rfl rfl ?_ | refine zN ?_ | refine zC ?_ | refine zC4 ?_ | refine zOr16 ?_ | refine zC1 ?_ | refine zByte ?_ | refine zMaxL ?_ | refine zMaxR ?_ | refine zMinL ?_ | refine zMinR ?_ | refine zShr ?_ | refine zC8 ?_ | refine zQ ?_ | refine zR ?_ | refine zS ?_ | refine zA ?_ | refine zM ?_ | refine xr rfl ?_ | refine ai rfl ?_ | refine condT ?_ | refine condF ?_ | refine condG1 ?_ | refine condG0 ?_ | refine cD ?_ | refine dD ?_ | refine cB ?_ | refine dB ?_ | refine cN ?_ | refine dN ?_ | refine cV ?_ | refine dV ?_ | refine cE ?_ | refine dE ?_ | refine condX0 ?_ | refine condX1 ?_ | refine condNot ?_ | refine condAnd ?_ | refine condOr ?_ | refine aO ?_ | refine aB ?_ | refine aR ?_ | refine aR ?_ (by simp; omega) | refine xr (by assumption) ?_ | refine ai (by assumption) ?_ | refine kV (hck) ?_ | refine condD (fun h => ?_) (fun h => ?_) | refine condB (fun h => ?_) (fun h => ?_) | refine condN (fun h => ?_) (fun h => ?_) | refine condE (fun h => ?_) (fun h => ?_) | refine condV (fun h => ?_) (fun h => ?_))
        refine ev_le [] [(68, some (_, .cells zeroA.enc))] trivial ⟨⟨rfl, .refl _, LeP.nil 2, .refl _, .refl _, .refl _, .refl _, .refl _, .refl _, .refl _, .refl _, .refl _, LeP.nil 1, .refl _, .refl _, LeP.nil 1, LeP.nil 2, trivial⟩, trivial⟩ ?_
        (first | refine ev_fin (And.intro (by first | rfl | (simp [AV.pure, pureL]; done) | fail) ?_) | refine ev_fin0 (And.intro (by first | rfl | (simp [AV.pure, pureL]; done) | fail) ?_))
        (conv => whnf); exact And.intro (by first | rfl | (simp [AV.pure, pureL]; done) | fail) rfl
  | 0, c :: r, last, nd, a, T, H, c_, g1, g2, g3, hf, hu, hnd, hD => absurd hf (by simp)
  | f + 1, [c], last, nd, a, T, H, c_, g1, g2, g3, hf, hu, hnd, hD => by
    rw [decF_none rfl]
    cases hbit : bit16 c
    · refine ev_loop' (W_ok 300 _ _ _ _ ?_)
      repeat' ((conv => whnf); first | refine zAndF hbit ?_ | refine bslP (by first | rfl | (simp [pureL, pureLL, AV.pure]; done) | fail) rfl ?_ | refine TakeC.full (by first | rfl | omega | (simp; done) | (simp; omega) | fail) ?_ | refine zBs ?_ | refine zBn ?_ | refine zBv rfl rfl ?_ | refine zN ?_ | refine zC ?_ | refine zC4 ?_ | refine zOr16 ?_ | refine zC1 ?_ | refine zByte ?_ | refine zMaxL ?_ | refine zMaxR ?_ | refine zMinL ?_ | refine zMinR ?_ | refine zShr ?_ | refine zC8 ?_ | refine zQ ?_ | refine zR ?_ | refine zS ?_ | refine zA ?_ | refine zM ?_ | refine xr rfl ?_ | refine ai rfl ?_ | refine condT ?_ | refine condF ?_ | refine condG1 ?_ | refine condG0 ?_ | refine cD ?_ | refine dD ?_ | refine cB ?_ | refine dB ?_ | refine cN ?_ | refine dN ?_ | refine cV ?_ | refine dV ?_ | refine cE ?_ | refine dE ?_ | refine condX0 ?_ | refine condX1 ?_ | refine condNot ?_ | refine condAnd ?_ | refine condOr ?_ | refine aO ?_ | refine aB ?_ | refine aR ?_ | refine aR ?_ (by simp; omega) | refine xr (by assumption) ?_ | refine ai (by assumption) ?_ | refine condD (fun h => ?_) (fun h => ?_) | refine condB (fun h => ?_) (fun h => ?_) | refine condN (fun h => ?_) (fun h => ?_) | refine condE (fun h => ?_) (fun h => ?_) | refine condV (fun h => ?_) (fun h => ?_))
      refine ev_le [] [(68, some (_, .cells zeroA.enc))] trivial ⟨⟨rfl, .refl _, LeP.nil 2, .refl _, .refl _, .refl _, .refl _, .refl _, .refl _, .refl _, .refl _, .refl _, LeP.nil 1, .refl _, .refl _, LeP.nil 1, LeP.nil 2, trivial⟩, trivial⟩ ?_
      (first | refine ev_fin (And.intro (by first | rfl | (simp [AV.pure, pureL]; done) | fail) ?_) | refine ev_fin0 (And.intro (by first | rfl | (simp [AV.pure, pureL]; done) | fail) ?_))
      (conv => whnf); exact And.intro (by first | rfl | (simp [AV.pure, pureL]; done) | fail) rfl
    · refine ev_loop' (W_ok 300 _ _ _ _ ?_)
      repeat' ((conv => whnf); first | refine zAndT hbit ?_ | refine bslP (by first | rfl | (simp [pureL, pureLL, AV.pure]; done) | fail) rfl ?_ | refine TakeC.full (by first | rfl | omega | (simp; done) | (simp; omega) | fail) ?_ | refine zBs ?_ | refine zBn ?_ | refine zBv rfl rfl ?_ | refine zN ?_ | refine zC ?_ | refine zC4 ?_ | refine zOr16 ?_ | refine zC1 ?_ | refine zByte ?_ | refine zMaxL ?_ | refine zMaxR ?_ | refine zMinL ?_ | refine zMinR ?_ | refine zShr ?_ | refine zC8 ?_ | refine zQ ?_ | refine zR ?_ | refine zS ?_ | refine zA ?_ | refine zM ?_ | refine xr rfl ?_ | refine ai rfl ?_ | refine condT ?_ | refine condF ?_ | refine condG1 ?_ | refine condG0 ?_ | refine cD ?_ | refine dD ?_ | refine cB ?_ | refine dB ?_ | refine cN ?_ | refine dN ?_ | refine cV ?_ | refine dV ?_ | refine cE ?_ | refine dE ?_ | refine condX0 ?_ | refine condX1 ?_ | refine condNot ?_ | refine condAnd ?_ | refine condOr ?_ | refine aO ?_ | refine aB ?_ | refine aR ?_ | refine aR ?_ (by simp; omega) | refine xr (by assumption) ?_ | refine ai (by assumption) ?_ | refine condD (fun h => ?_) (fun h => ?_) | refine condB (fun h => ?_) (fun h => ?_) | refine condN (fun h => ?_) (fun h => ?_) | refine condE (fun h => ?_) (fun h => ?_) | refine condV (fun h => ?_) (fun h => ?_))
      refine ev_le [] [(68, some (_, .cells zeroA.enc))] trivial ⟨⟨rfl, .refl _, LeP.nil 2, .refl _, .refl _, .refl _, .refl _, .refl _, .refl _, .refl _, .refl _, .refl _, LeP.nil 1, .refl _, .refl _, LeP.nil 1, LeP.nil 2, trivial⟩, trivial⟩ ?_
      (first | refine ev_fin (And.intro (by first | rfl | (simp [AV.pure, pureL]; done) | fail) ?_) | refine ev_fin0 (And.intro (by first | rfl | (simp [AV.pure, pureL]; done) | fail) ?_))
      (conv => whnf); exact And.intro (by first | rfl | (simp [AV.pure, pureL]; done) | fail) rfl
  | f + 1, [c, k], last, nd, a, T, H, c_, g1, g2, g3, hf, hu, hnd, hD => by
    rw [decF_none rfl]
    cases hbit : bit16 c
    · refine ev_loop' (W_ok 300 _ _ _ _ ?_)
      repeat' ((conv => whnf); first | refine zAndF hbit ?_ | refine bslP (by first | rfl | (simp [pureL, pureLL, AV.pure]; done) | fail) rfl ?_ | refine TakeC.full (by first | rfl | omega | (simp; done) | (simp; omega) | fail) ?_ | refine zBs ?_ | refine zBn ?_ | refine zBv rfl rfl ?_ | refine zN ?_ | refine zC ?_ | refine zC4 ?_ | refine zOr16 ?_ | refine zC1 ?_ | refine zByte ?_ | refine zMaxL ?_ | refine zMaxR ?_ | refine zMinL ?_ | refine zMinR ?_ | refine zShr ?_ | refine zC8 ?_ | refine zQ ?_ | refine zR ?_ | refine zS ?_ | refine zA ?_ | refine zM ?_ | refine xr rfl ?_ | refine ai rfl ?_ | refine condT ?_ | refine condF ?_ | refine condG1 ?_ | refine condG0 ?_ | refine cD ?_ | refine dD ?_ | refine cB ?_ | refine dB ?_ | refine cN ?_ | refine dN ?_ | refine cV ?_ | refine dV ?_ | refine cE ?_ | refine dE ?_ | refine condX0 ?_ | refine condX1 ?_ | refine condNot ?_ | refine condAnd ?_ | refine condOr ?_ | refine aO ?_ | refine aB ?_ | refine aR ?_ | refine aR ?_ (by simp; omega) | refine xr (by assumption) ?_ | refine ai (by assumption) ?_ | refine condD (fun h => ?_) (fun h => ?_) | refine condB (fun h => ?_) (fun h => ?_) | refine condN (fun h => ?_) (fun h => ?_) | refine condE (fun h => ?_) (fun h => ?_) | refine condV (fun h => ?_) (fun h => ?_))
      refine ev_le [] [(68, some (_, .cells zeroA.enc))] trivial ⟨⟨rfl, .refl _, LeP.nil 2, .refl _, .refl _, .refl _, .refl _, .refl _, .refl _, .refl _, .refl _, .refl _, LeP.nil 1, .refl _, .refl _, LeP.nil 1, LeP.nil 2, trivial⟩, trivial⟩ ?_
      (first | refine ev_fin (And.intro (by first | rfl | (simp [AV.pure, pureL]; done) | fail) ?_) | refine ev_fin0 (And.intro (by first | rfl | (simp [AV.pure, pureL]; done) | fail) ?_))
      (conv => whnf); exact And.intro (by first | rfl | (simp [AV.pure, pureL]; done) | fail) rfl
    · refine ev_loop' (W_ok 300 _ _ _ _ ?_)
      repeat' ((conv => whnf); first | refine zAndT hbit ?_ | refine bslP (by first | rfl | (simp [pureL, pureLL, AV.pure]; done) | fail) rfl ?_ | refine TakeC.full (by first | rfl | omega | (simp; done) | (simp; omega) | fail) ?_ | refine zBs ?_ | refine zBn ?_ | refine zBv rfl rfl ?_ | refine zN ?_ | refine zC ?_ | refine zC4 ?_ | refine zOr16 ?_ | refine zC1 ?_ | refine zByte ?_ | refine zMaxL ?_ | refine zMaxR ?_ | refine zMinL ?_ | refine zMinR ?_ | refine zShr ?_ | refine zC8 ?_ | refine zQ ?_ | refine zR ?_ | refine zS ?_ | refine zA ?_ | refine zM ?_ | refine xr rfl ?_ | refine ai rfl ?_ | refine condT ?_ | refine condF ?_ | refine condG1 ?_ | refine condG0 ?_ | refine cD ?_ | refine dD ?_ | refine cB ?_ | refine dB ?_ | refine cN ?_ | refine dN ?_ | refine cV ?_ | refine dV ?_ | refine cE ?_ | refine dE ?_ | refine condX0 ?_ | refine condX1 ?_ | refine condNot ?_ | refine condAnd ?_ | refine condOr ?_ | refine aO ?_ | refine aB ?_ | refine aR ?_ | refine aR ?_ (by simp; omega) | refine xr (by assumption) ?_ | refine ai (by assumption) ?_ | refine condD (fun h => ?_) (fun h => ?_) | refine condB (fun h => ?_) (fun h => ?_) | refine condN (fun h => ?_) (fun h => ?_) | refine condE (fun h => ?_) (fun h => ?_) | refine condV (fun h => ?_) (fun h => ?_))
      refine ev_le [] [(68, some (_, .cells zeroA.enc))] trivial ⟨⟨rfl, .refl _, LeP.nil 2, .refl _, .refl _, .refl _, .refl _, .refl _, .refl _, .refl _, .refl _, .refl _, LeP.nil 1, .refl _, .refl _, LeP.nil 1, LeP.nil 2, trivial⟩, trivial⟩ ?_
      (first | refine ev_fin (And.intro (by first | rfl | (simp [AV.pure, pureL]; done) | fail) ?_) | refine ev_fin0 (And.intro (by first | rfl | (simp [AV.pure, pureL]; done) | fail) ?_))
      (conv => whnf); exact And.intro (by first | rfl | (simp [AV.pure, pureL]; done) | fail) rfl
  | f + 1, c :: k :: n :: r, last, nd, a, T, H, c_, g1, g2, g3, hf, hu, hnd, hD => by
    have hn := n.toNat_lt
    have hle : (c :: k :: n :: r).length = r.length + 3 := rfl
    have hrq := isReq_le k.toNat
    cases hbit : bit16 c
    · have hget := get_gives93 (c :: k :: n :: r) (by omega) 2 1 (by omega) (by omega) (by omega) (by omega)
      rw [show rd (((c :: k :: n :: r).drop (2 : Int).toNat).take (1 : Int).toNat) = n.toNat from by simp [rd]] at hget
      have hat := attD_short c k n r hbit
      refine dec_short69 wide w N hw hN (c :: k :: n :: r) [] [] c k n.toNat rfl rfl hbit (by omega) (by omega) hget (by omega) last nd (by omega) a (by omega) _ ?_ ?_ ?_ ?_ ?_ T H c_ g1 g2 g3
      all_goals try simp only [drop_len3, show ∀ x : List UInt8, (c :: k :: n :: x).drop 3 = x from fun _ => rfl]
      · intro q; rw [if_pos (by omega)] at hat; rw [decF_none hat]
      · intro q q2; rw [if_neg (by omega)] at hat; rw [decF_some hat, if_pos q2]
      · intro q q2 q3; rw [if_neg (by omega)] at hat; rw [decF_some hat, if_neg q2, if_pos q3]
      · intro q q2 q3 q4; rw [if_neg (by omega)] at hat; rw [decF_some hat, if_neg q2, if_neg q3]; simp only [q4]
      · intro q q2 q3 a' q4 T H c_ g1 g2 g3
        rw [if_neg (by omega)] at hat; rw [decF_some hat, if_neg q2, if_neg q3]; simp only [q4]
        obtain ⟨d1, d2⟩ := setA_DB hD (by simp; omega) q4
        exact dec_loop69 wide w N hw hN f _ _ _ a' T H c_ g1 g2 g3 (by simp; omega) (by simp; omega) (by simp; omega) d1
    · cases r with
      | nil =>
        rw [decF_none (show attD [c, k, n] = none from by simp [attD, hbit])]
        refine ev_loop' (W_ok 300 _ _ _ _ ?_)
        repeat' ((conv => whnf); first | refine zAndT hbit ?_ | refine bslP (by first | rfl | (simp [pureL, pureLL, AV.pure]; done) | fail) rfl ?_ | refine TakeC.full (by first | rfl | omega | (simp; done) | (simp; omega) | fail) ?_ | refine zBs ?_ | refine zBn ?_ | refine zBv rfl rfl ?_ | refine zN ?_ | refine zC ?_ | refine zC4 ?_ | refine zOr16 ?_ | refine zC1 ?_ | refine zByte ?_ | refine zMaxL ?_ | refine zMaxR ?_ | refine zMinL ?_ | refine zMinR ?_ | refine zShr ?_ | refine zC8 ?_ | refine zQ ?_ | refine zR ?_ | refine zS ?_ | refine zA ?_ | refine zM ?_ | refine xr rfl ?_ | refine ai rfl ?_ | refine condT ?_ | refine condF ?_ | refine condG1 ?_ | refine condG0 ?_ | refine cD ?_ | refine dD ?_ | refine cB ?_ | refine dB ?_ | refine cN ?_ | refine dN ?_ | refine cV ?_ | refine dV ?_ | refine cE ?_ | refine dE ?_ | refine condX0 ?_ | refine condX1 ?_ | refine condNot ?_ | refine condAnd ?_ | refine condOr ?_ | refine aO ?_ | refine aB ?_ | refine aR ?_ | refine aR ?_ (by simp; omega) | refine xr (by assumption) ?_ | refine ai (by assumption) ?_ | refine condD (fun h => ?_) (fun h => ?_) | refine condB (fun h => ?_) (fun h => ?_) | refine condN (fun h => ?_) (fun h => ?_) | refine condE (fun h => ?_) (fun h => ?_) | refine condV (fun h => ?_) (fun h => ?_))
        refine ev_le [] [(68, some (_, .cells zeroA.enc))] trivial ⟨⟨rfl, .refl _, LeP.nil 2, .refl _, .refl _, .refl _, .refl _, .refl _, .refl _, .refl _, .refl _, .refl _, LeP.nil 1, .refl _, .refl _, LeP.nil 1, LeP.nil 2, trivial⟩, trivial⟩ ?_
        (first | refine ev_fin (And.intro (by first | rfl | (simp [AV.pure, pureL]; done) | fail) ?_) | refine ev_fin0 (And.intro (by first | rfl | (simp [AV.pure, pureL]; done) | fail) ?_))
        (conv => whnf); exact And.intro (by first | rfl | (simp [AV.pure, pureL]; done) | fail) rfl
      | cons m r =>
        have hm := m.toNat_lt
        simp only [List.length_cons] at hle
        have hget := get_gives93 (c :: k :: n :: m :: r) (by simp only [List.length_cons] at hf hu hnd ⊢; omega) 2 2 (by omega) (by omega) (by omega) (by simp only [List.length_cons]; omega)
        rw [show rd (((c :: k :: n :: m :: r).drop (2 : Int).toNat).take (2 : Int).toNat) = n.toNat * 256 + m.toNat from by simp [rd]] at hget
        have hat := attD_long c k n m r hbit
        simp only [List.length_cons] at hf hu hnd
        refine dec_long69 wide w N hw hN (c :: k :: n :: m :: r) [] [] c k (n.toNat * 256 + m.toNat) rfl rfl hbit (by simp only [List.length_cons]; omega) (by simp only [List.length_cons]; omega) hget (by omega) last nd (by omega) a (by omega) _ ?_ ?_ ?_ ?_ ?_ T H c_ g1 g2 g3
        all_goals try simp only [drop_len4, List.length_cons, show ∀ x : List UInt8, (c :: k :: n :: m :: x).drop 4 = x from fun _ => rfl]
        · intro q; rw [if_pos (by omega)] at hat; rw [decF_none hat]
        · intro q q2; rw [if_neg (by omega)] at hat; rw [decF_some hat, if_pos q2]
        · intro q q2 q3; rw [if_neg (by omega)] at hat; rw [decF_some hat, if_neg q2, if_pos q3]
        · intro q q2 q3 q4; rw [if_neg (by omega)] at hat; rw [decF_some hat, if_neg q2, if_neg q3]; simp only [q4]
        · intro q q2 q3 a' q4 T H c_ g1 g2 g3
          rw [if_neg (by omega)] at hat; rw [decF_some hat, if_neg q2, if_neg q3]; simp only [q4]
          obtain ⟨d1, d2⟩ := setA_DB hD (by simp; omega) q4
          exact dec_loop69 wide w N hw hN f _ _ _ a' T H c_ g1 g2 g3 (by simp; omega) (by simp; omega) (by simp; omega) d1
theorem decode_gives69 (b : List UInt8) (wide : Bool) (hb : b.length < 2 ^ 28) : Gives G 69 [.sl 1 (byteCells b), .bool wide] [] (decR (decD (wd wide) b)) := by
  refine gives_code (F := f69) rfl rfl (W_ok 300 _ _ _ _ ?_)
  repeat' ((conv => whnf); first | refine bslP (by first | rfl | (simp [pureL, pureLL, AV.pure]; done) | fail) rfl ?_ | refine TakeC.full (by first | rfl | omega | (simp; done) | (simp; omega) | fail) ?_ | refine zBs ?_ | refine zBn ?_ | refine zBv rfl rfl ?_ | refine zN ?_ | refine zC ?_ | refine zC4 ?_ | refine zOr16 ?_ | refine zC1 ?_ | refine zByte ?_ | refine zMaxL ?_ | refine zMaxR ?_ | refine zMinL ?_ | refine zMinR ?_ | refine zShr ?_ | refine zC8 ?_ | refine zQ ?_ | refine zR ?_ | refine zS ?_ | refine zA ?_ | refine zM ?_ | refine xr rfl ?_ | refine ai rfl ?_ | refine condT ?_ | refine condF ?_ | refine condG1 ?_ | refine condG0 ?_ | refine cD ?_ | refine dD ?_ | refine cB ?_ | refine dB ?_ | refine cN ?_ | refine dN ?_ | refine cV ?_ | refine dV ?_ | refine cE ?_ | refine dE ?_ | refine condX0 ?_ | refine condX1 ?_ | refine condNot ?_ | refine condAnd ?_ | refine condOr ?_ | refine aO ?_ | refine aB ?_ | refine aR ?_ | refine aR ?_ (by simp; omega) | refine xr (by assumption) ?_ | refine ai (by assumption) ?_ | refine condD (fun h => ?_) (fun h => ?_) | refine condB (fun h => ?_) (fun h => ?_) | refine condN (fun h => ?_) (fun h => ?_) | refine condE (fun h => ?_) (fun h => ?_) | refine condV (fun h => ?_) (fun h => ?_))
  refine ev_nil 300 2 [] [(70, some (_, .cells (zeroA.cellsV (.vs 300 _ 0))))] trivial ⟨⟨rfl, .refl _, LeP.nil 2, .refl _, .refl _, .refl _, .refl _, .refl _, .refl _, .refl _, .refl _, .refl _, LeP.nil 1, .refl _, .refl _, LeP.nil 1, LeP.nilV _ _ _, trivial⟩, trivial⟩ ?_
  refine ev_keep [4, 0, 8, 6, 1, 7] [68, 70, 300] ?_
  exact dec_loop69 wide (wd wide) b.length rfl (by omega) b.length b (-1) 0 zeroA _ _ _ _ _ _ (Nat.le_refl _) (by simp [zeroA]) (by simp) ⟨by simp [zeroA], by simp [zeroA], by simp [zeroA], by simp [zeroA], by simp [zeroA]⟩
end Go.AM.IR
set_option maxHeartbeats 20000000
set_option maxRecDepth 20000
namespace Go.AM.IR
theorem pureL_bools (m : Nat → Bool) : ∀ l : List Nat, pureL (l.map fun i => AV.bool (m i)) = true
  | [] => rfl
  | _ :: r => by simp only [List.map_cons, pureL, AV.pure, pureL_bools m r, Bool.and_self]
@[simp] theorem pureL_metC (m : Nat → Bool) : pureL (metC m) = true := pureL_bools m _
theorem dec_loop71 (wide : Bool) (b : List UInt8) (hl : b.length < 2 ^ 29) : ∀ (f : Nat) (r0 : List UInt8) (A : Nat) (at_ : Int) (hat : at_ = (A : Int)) (hA : A ≤ b.length) (hb : b.drop A = r0) (last : Int) (nd : Nat) (m0 : Nat → Bool) (a : Attrs) (T : List (Nat × AV)) (H : Heap) (c g1 g2 g3 g4 : Nat) (hf : r0.length ≤ f) (hu : a.unknown.length ≤ A) (hm : MetOk m0 last nd) (hD : DB b.length a),
   Ev G ⟨f71x27LH, ⟨(4, .ref 68 g1 0) :: (8, .ref 72 g4 0) :: (6, .ref 70 g2 0) :: (1, .bool wide) :: (0, .sl 1 (byteCells b)) :: (7, .int .i64 last) :: (9, .int .i64 at_) :: T, (68, some (g1, .cells zeroC)) :: (72, some (g4, .cells (metC m0))) :: (70, some (g2, .cells (a.cellsV (.vs 300 g3 a.unknown.length)))) :: (300, some (g3, .vec 2 (a.unknown.map TLV.enc))) :: H, c⟩, [.cell 4 (some 16), .t 5], 0⟩ (decR (decF (wd wide) f r0 last nd a))
  | f, [], A, at_, hat, hA, hb, last, nd, m0, a, T, H, c_, g1, g2, g3, g4, hf, hu, hm, hD => by
    rw [show decF (wd wide) f [] last nd a = finD nd a from by cases f <;> rfl]
    have hbl := byteCells_length b
    have hul : (a.unknown.map TLV.enc).length = a.unknown.length := by simp
    have hal : b.length ≤ A := by simpa using hb
    have hck := check_gives66 a (hD.lenB (by omega) (by omega))
    obtain ⟨hn, _⟩ := hm
    refine ev_frzp [(300, _, _)] [4, 8, 6, 1, 0, 7, 9] [68, 70] [72] ⟨rfl, (by first | rfl | (simp [Blk.pure, pureL, pureLL, AV.pure, *]; done) | fail), trivial⟩ ?_; repeat ((conv => whnf); first | refine And.intro (by first | rfl | omega | (simp [pureL, pureLL, AV.pure]; done) | (simp; omega) | (simp [pureL, pureLL, AV.pure, *]; done) | assumption | fail) ?_ | intro T H)
    by_cases h3 : nd < 3
    · rw [show finD nd a = (6, zeroA) from by rw [finD, if_pos h3]]
      cases h1 : m0 1
      · refine ev_loop' (W_ok 300 _ _ _ _ ?_)
        repeat' ((conv => whnf); first | refine zIarr ?_ | refine bslP (by first | rfl | (simp [pureL, pureLL, AV.pure]; done) | fail) rfl ?_ | refine TakeC.full (by first | rfl | omega | (simp; done) | (simp; omega) | fail) ?_ | refine zBs ?_ | refine zBn ?_ | refine zBv rfl rfl ?_ | refine zN ?_ | refine zC ?_ | refine zC4 ?_ | refine zOr16 ?_ | refine zC1 ?_ | refine zByte ?_ | refine zMaxL ?_ | refine zMaxR ?_ | refine zMinL ?_ | refine zMinR ?_ | refine zShr ?_ | refine zC8 ?_ | refine zQ ?_ | refine zR ?_ | refine zS ?_ | refine zA ?_ | refine zM ?_ | refine xr rfl ?_ | refine ai rfl ?_ | refine condT ?_ | refine condF ?_ | refine condG1 ?_ | refine condG0 ?_ | refine cD ?_ | refine dD ?_ | refine cB ?_ | refine dB ?_ | refine cN ?_ | refine dN ?_ | refine cV ?_ | refine dV ?_ | refine cE ?_ | refine dE ?_ | refine condX0 ?_ | refine condX1 ?_ | refine condNot ?_ | refine condAnd ?_ | refine condOr ?_ | refine aO ?_ | refine aB ?_ | refine aR ?_ | refine aR ?_ (by simp; omega) | refine xr (by assumption) ?_ | refine ai (by assumption) ?_ | refine condD (fun h => ?_) (fun h => ?_) | refine condB (fun h => ?_) (fun h => ?_) | refine condN (fun h => ?_) (fun h => ?_) | refine condE (fun h => ?_) (fun h => ?_) | refine condV (fun h => ?_) (fun h => ?_))
        refine ev_le [] [(68, some (_, .cells zeroA.enc))] trivial ⟨⟨rfl, .refl _, LeP.nil 2, .refl _, .refl _, .refl _, .refl _, .refl _, .refl _, .refl _, .refl _, .refl _, LeP.nil 1, .refl _, .refl _, LeP.nil 1, LeP.nil 2, trivial⟩, trivial⟩ ?_
        (first | refine ev_fin (And.intro (by first | rfl | (simp [AV.pure, pureL]; done) | fail) ?_) | refine ev_fin0 (And.intro (by first | rfl | (simp [AV.pure, pureL]; done) | fail) ?_))
        (conv => whnf); exact And.intro (by first | rfl | (simp [AV.pure, pureL]; done) | fail) rfl
      · cases h2 : m0 2
        · refine ev_loop' (W_ok 300 _ _ _ _ ?_)
          repeat' ((conv => whnf); first | refine zIarr ?_ | refine bslP (by first | rfl | (simp [pureL, pureLL, AV.pure]; done) | fail) rfl ?_ | refine TakeC.full (by first | rfl | omega | (simp; done) | (simp; omega) | fail) ?_ | refine zBs ?_ | refine zBn ?_ | refine zBv rfl rfl ?_ | refine zN ?_ | refine zC ?_ | refine zC4 ?_ | refine zOr16 ?_ | refine zC1 ?_ | refine zByte ?_ | refine zMaxL ?_ | refine zMaxR ?_ | refine zMinL ?_ | refine zMinR ?_ | refine zShr ?_ | refine zC8 ?_ | refine zQ ?_ | refine zR ?_ | refine zS ?_ | refine zA ?_ | refine zM ?_ | refine xr rfl ?_ | refine ai rfl ?_ | refine condT ?_ | refine condF ?_ | refine condG1 ?_ | refine condG0 ?_ | refine cD ?_ | refine dD ?_ | refine cB ?_ | refine dB ?_ | refine cN ?_ | refine dN ?_ | refine cV ?_ | refine dV ?_ | refine cE ?_ | refine dE ?_ | refine condX0 ?_ | refine condX1 ?_ | refine condNot ?_ | refine condAnd ?_ | refine condOr ?_ | refine aO ?_ | refine aB ?_ | refine aR ?_ | refine aR ?_ (by simp; omega) | refine xr (by assumption) ?_ | refine ai (by assumption) ?_ | refine condD (fun h => ?_) (fun h => ?_) | refine condB (fun h => ?_) (fun h => ?_) | refine condN (fun h => ?_) (fun h => ?_) | refine condE (fun h => ?_) (fun h => ?_) | refine condV (fun h => ?_) (fun h => ?_))
          refine ev_le [] [(68, some (_, .cells zeroA.enc))] trivial ⟨⟨rfl, .refl _, LeP.nil 2, .refl _, .refl _, .refl _, .refl _, .refl _, .refl _, .refl _, .refl _, .refl _, LeP.nil 1, .refl _, .refl _, LeP.nil 1, LeP.nil 2, trivial⟩, trivial⟩ ?_
          (first | refine ev_fin (And.intro (by first | rfl | (simp [AV.pure, pureL]; done) | fail) ?_) | refine ev_fin0 (And.intro (by first | rfl | (simp [AV.pure, pureL]; done) | fail) ?_))
          (conv => whnf); exact And.intro (by first | rfl | (simp [AV.pure, pureL]; done) | fail) rfl
        · have h3 : m0 3 = false := by
            cases q : m0 3
            · rfl
            · rw [h1, h2, q] at hn; simp at hn; omega
          refine ev_loop' (W_ok 300 _ _ _ _ ?_)
          repeat' ((conv => whnf); first | refine zIarr ?_ | refine bslP (by first | rfl | (simp [pureL, pureLL, AV.pure]; done) | fail) rfl ?_ | refine TakeC.full (by first | rfl | omega | (simp; done) | (simp; omega) | fail) ?_ | refine zBs ?_ | refine zBn ?_ | refine zBv rfl rfl ?_ | refine zN ?_ | refine zC ?_ | refine zC4 ?_ | refine zOr16 ?_ | refine zC1 ?_ | refine zByte ?_ | refine zMaxL ?_ | refine zMaxR ?_ | refine zMinL ?_ | refine zMinR ?_ | refine zShr ?_ | refine zC8 ?_ | refine zQ ?_ | refine zR ?_ | refine zS ?_ | refine zA ?_ | refine zM ?_ | refine xr rfl ?_ | refine ai rfl ?_ | refine condT ?_ | refine condF ?_ | refine condG1 ?_ | refine condG0 ?_ | refine cD ?_ | refine dD ?_ | refine cB ?_ | refine dB ?_ | refine cN ?_ | refine dN ?_ | refine cV ?_ | refine dV ?_ | refine cE ?_ | refine dE ?_ | refine condX0 ?_ | refine condX1 ?_ | refine condNot ?_ | refine condAnd ?_ | refine condOr ?_ | refine aO ?_ | refine aB ?_ | refine aR ?_ | refine aR ?_ (by simp; omega) | refine xr (by assumption) ?_ | refine ai (by assumption) ?_ | refine condD (fun h => ?_) (fun h => ?_) | refine condB (fun h => ?_) (fun h => ?_) | refine condN (fun h => ?_) (fun h => ?_) | refine condE (fun h => ?_) (fun h => ?_) | refine condV (fun h => ?_) (fun h => ?_))
          refine ev_le [] [(68, some (_, .cells zeroA.enc))] trivial ⟨⟨rfl, .refl _, LeP.nil 2, .refl _, .refl _, .refl _, .refl _, .refl _, .refl _, .refl _, .refl _, .refl _, LeP.nil 1, .refl _, .refl _, LeP.nil 1, LeP.nil 2, trivial⟩, trivial⟩ ?_
          (first | refine ev_fin (And.intro (by first | rfl | (simp [AV.pure, pureL]; done) | fail) ?_) | refine ev_fin0 (And.intro (by first | rfl | (simp [AV.pure, pureL]; done) | fail) ?_))
          (conv => whnf); exact And.intro (by first | rfl | (simp [AV.pure, pureL]; done) | fail) rfl
    · have hh : m0 1 = true ∧ m0 2 = true ∧ m0 3 = true := by
        cases h1 : m0 1 <;> cases h2 : m0 2 <;> cases h4 : m0 3 <;> rw [h1, h2, h4] at hn <;> simp at hn <;> first | omega | simp
      obtain ⟨h1, h2, h4⟩ := hh
      by_cases h0 : checkS a = 0
      · rw [show finD nd a = (0, a) from by rw [finD, if_neg h3, if_pos h0]]
        rw [h0] at hck
        refine ev_loop' (W_ok 300 _ _ _ _ ?_)
        repeat' ((conv => whnf); first | refine zIarr ?_ | refine bslP (by first | rfl | (simp [pureL, pureLL, AV.pure]; done) | fail) rfl ?_ | refine TakeC.full (by first | rfl | omega | (simp; done) | (simp; omega) | fail) ?_ | refine zBs ?_ | refine zBn ?_ | refine zBv rfl rfl ?_ | refine zN ?_ | refine zC ?_ | refine zC4 ?_ | refine zOr16 ?_ | refine zC1 ?_ | refine zByte ?_ | refine zMaxL ?_ | refine zMaxR ?_ | refine zMinL ?_ | refine zMinR ?_ | refine zShr ?_ | refine zC8 ?_ | refine zQ ?_ | refine zR ?_ | refine zS ?_ | refine zA ?_ | refine zM ?_ | refine xr rfl ?_ | refine ai rfl ?_ | refine condT ?_ | refine condF ?_ | refine condG1 ?_ | refine condG0 ?_ | refine cD ?_ | refine dD ?_ | refine cB ?_ | refine dB ?_ | refine cN ?_ | refine dN ?_ | refine cV ?_ | refine dV ?_ | refine cE ?_ | refine dE ?_ | refine condX0 ?_ | refine condX1 ?_ | refine condNot ?_ | refine condAnd ?_ | refine condOr ?_ | refine aO ?_ | refine aB ?_ | refine aR ?_ | refine aR ?_ (by simp; omega) | refine xr (by assumption) ?_ | refine ai (by assumption) ?_ | refine kV (hck) ?_ | refine condD (fun h => ?_) (fun h => ?_) | refine condB (fun h => ?_) (fun h => ?_) | refine condN (fun h => ?_) (fun h => ?_) | refine condE (fun h => ?_) (fun h => ?_) | refine condV (fun h => ?_) (fun h => ?_))
        (first | refine ev_fin (And.intro (by first | rfl | (simp [AV.pure, pureL]; done) | fail) ?_) | refine ev_fin0 (And.intro (by first | rfl | (simp [AV.pure, pureL]; done) | fail) ?_))
        (conv => whnf); exact And.intro (by simp [AV.pure, pureL]) rfl
      · rw [show finD nd a = (checkS a, zeroA) from by rw [finD, if_neg h3, if_neg h0]]
        refine ev_loop' (W_ok 300 _ _ _ _ ?_)
        repeat' ((conv => whnf); first | refine zIarr ?_ | refine bslP (by first | rfl | (simp [pureL, pureLL, AV.pure]; done) | fail) rfl ?_ | refine TakeC.full (by first | rfl | omega | (simp; done) | (simp; omega) | fail) ?_ | refine zBs ?_ | refine zBn ?_ | refine zBv rfl rfl ?_ | refine zN ?_ | refine zC ?_ | refine zC4 ?_ | refine zOr16 ?_ | refine zC1 ?_ | refine zByte ?_ | refine zMaxL ?_ | refine zMaxR ?_ | refine zMinL ?_ | refine zMinR ?_ | refine zShr ?_ | refine zC8 ?_ | refine zQ ?_ | refine zR ?_ | refine zS ?_ | refine zA ?_ | refine zM ?_ | refine xr rfl ?_ | refine ai rfl ?_ | refine condT ?_ | refine condF ?_ | refine condG1 ?_ | refine condG0 ?_ | refine cD ?_ | refine dD ?_ | refine cB ?_ | refine dB ?_ | refine cN ?_ | refine dN ?_ | refine cV ?_ | refine dV ?_ | refine cE ?_ | refine dE ?_ | refine condX0 ?_ | refine condX1 ?_ | refine condNot ?_ | refine condAnd ?_ | refine condOr ?_ | refine aO ?_ | refine aB ?_ | refine aR ?_ | refine aR ?_ (by simp; omega) | refine xr (by assumption) ?_ | refine ai (by assumption) ?_ | refine kV (hck) ?_ | refine condD (fun h => ?_) (fun h => ?_) | refine condB (fun h => ?_) (fun h => ?_) | refine condN (fun h => ?_) (fun h => ?_) | refine condE (fun h => ?_) (fun h => ?_) | refine condV (fun h => ?_) (fun h => ?_))
        refine ev_le [] [(68, some (_, .cells zeroA.enc))] trivial ⟨⟨rfl, .refl _, LeP.nil 2, .refl _, .refl _, .refl _, .refl _, .refl _, .refl _, .refl _, .refl _, .refl _, LeP.nil 1, .refl _, .refl _, LeP.nil 1, LeP.nil 2, trivial⟩, trivial⟩ ?_
        (first | refine ev_fin (And.intro (by first | rfl | (simp [AV.pure, pureL]; done) | fail) ?_) | refine ev_fin0 (And.intro (by first | rfl | (simp [AV.pure, pureL]; done) | fail) ?_))
        (conv => whnf); exact And.intro (by first | rfl | (simp [AV.pure, pureL]; done) | fail) rfl
  | 0, c :: r, A, at_, hat, hA, hb, last, nd, m0, a, T, H, c_, g1, g2, g3, g4, hf, hu, hm, hD => absurd hf (by simp)
  | f + 1, [c], A, at_, hat, hA, hb, last, nd, m0, a, T, H, c_, g1, g2, g3, g4, hf, hu, hm, hD => by
    rw [decF_none rfl]
    have hbl := byteCells_length b
    have hrl := (drop_at hb).2.2
    simp only [List.length_nil] at hrl
    refine ev_loop' (W_ok 300 _ _ _ _ ?_)
    repeat' ((conv => whnf); first | refine bslP (by first | rfl | (simp [pureL, pureLL, AV.pure]; done) | fail) rfl ?_ | refine TakeC.full (by first | rfl | omega | (simp; done) | (simp; omega) | fail) ?_ | refine zBs ?_ | refine zBn ?_ | refine zBv rfl rfl ?_ | refine zN ?_ | refine zC ?_ | refine zC4 ?_ | refine zOr16 ?_ | refine zC1 ?_ | refine zByte ?_ | refine zMaxL ?_ | refine zMaxR ?_ | refine zMinL ?_ | refine zMinR ?_ | refine zShr ?_ | refine zC8 ?_ | refine zQ ?_ | refine zR ?_ | refine zS ?_ | refine zA ?_ | refine zM ?_ | refine xr rfl ?_ | refine ai rfl ?_ | refine condT ?_ | refine condF ?_ | refine condG1 ?_ | refine condG0 ?_ | refine cD ?_ | refine dD ?_ | refine cB ?_ | refine dB ?_ | refine cN ?_ | refine dN ?_ | refine cV ?_ | refine dV ?_ | refine cE ?_ | refine dE ?_ | refine condX0 ?_ | refine condX1 ?_ | refine condNot ?_ | refine condAnd ?_ | refine condOr ?_ | refine aO ?_ | refine aB ?_ | refine aR ?_ | refine aR ?_ (by simp; omega) | refine xr (by assumption) ?_ | refine ai (by assumption) ?_ | refine condD (fun h => ?_) (fun h => ?_) | refine condB (fun h => ?_) (fun h => ?_) | refine condN (fun h => ?_) (fun h => ?_) | refine condE (fun h => ?_) (fun h => ?_) | refine condV (fun h => ?_) (fun h => ?_))
    refine ev_le [] [(68, some (_, .cells zeroA.enc))] trivial ⟨⟨rfl, .refl _, LeP.nil 2, .refl _, .refl _, .refl _, .refl _, .refl _, .refl _, .refl _, .refl _, .refl _, LeP.nil 1, .refl _, .refl _, LeP.nil 1, LeP.nil 2, trivial⟩, trivial⟩ ?_
    (first | refine ev_fin (And.intro (by first | rfl | (simp [AV.pure, pureL]; done) | fail) ?_) | refine ev_fin0 (And.intro (by first | rfl | (simp [AV.pure, pureL]; done) | fail) ?_))
    (conv => whnf); exact And.intro (by first | rfl | (simp [AV.pure, pureL]; done) | fail) rfl
  | f + 1, [c, k], A, at_, hat, hA, hb, last, nd, m0, a, T, H, c_, g1, g2, g3, g4, hf, hu, hm, hD => by
    rw [decF_none rfl]
    have hbl := byteCells_length b
    have hrl := (drop_at hb).2.2
    simp only [List.length_nil, List.length_cons] at hrl
    refine ev_loop' (W_ok 300 _ _ _ _ ?_)
    repeat' ((conv => whnf); first | refine bslP (by first | rfl | (simp [pureL, pureLL, AV.pure]; done) | fail) rfl ?_ | refine TakeC.full (by first | rfl | omega | (simp; done) | (simp; omega) | fail) ?_ | refine zBs ?_ | refine zBn ?_ | refine zBv rfl rfl ?_ | refine zN ?_ | refine zC ?_ | refine zC4 ?_ | refine zOr16 ?_ | refine zC1 ?_ | refine zByte ?_ | refine zMaxL ?_ | refine zMaxR ?_ | refine zMinL ?_ | refine zMinR ?_ | refine zShr ?_ | refine zC8 ?_ | refine zQ ?_ | refine zR ?_ | refine zS ?_ | refine zA ?_ | refine zM ?_ | refine xr rfl ?_ | refine ai rfl ?_ | refine condT ?_ | refine condF ?_ | refine condG1 ?_ | refine condG0 ?_ | refine cD ?_ | refine dD ?_ | refine cB ?_ | refine dB ?_ | refine cN ?_ | refine dN ?_ | refine cV ?_ | refine dV ?_ | refine cE ?_ | refine dE ?_ | refine condX0 ?_ | refine condX1 ?_ | refine condNot ?_ | refine condAnd ?_ | refine condOr ?_ | refine aO ?_ | refine aB ?_ | refine aR ?_ | refine aR ?_ (by simp; omega) | refine xr (by assumption) ?_ | refine ai (by assumption) ?_ | refine condD (fun h => ?_) (fun h => ?_) | refine condB (fun h => ?_) (fun h => ?_) | refine condN (fun h => ?_) (fun h => ?_) | refine condE (fun h => ?_) (fun h => ?_) | refine condV (fun h => ?_) (fun h => ?_))
    refine ev_le [] [(68, some (_, .cells zeroA.enc))] trivial ⟨⟨rfl, .refl _, LeP.nil 2, .refl _, .refl _, .refl _, .refl _, .refl _, .refl _, .refl _, .refl _, .refl _, LeP.nil 1, .refl _, .refl _, LeP.nil 1, LeP.nil 2, trivial⟩, trivial⟩ ?_
    (first | refine ev_fin (And.intro (by first | rfl | (simp [AV.pure, pureL]; done) | fail) ?_) | refine ev_fin0 (And.intro (by first | rfl | (simp [AV.pure, pureL]; done) | fail) ?_))
    (conv => whnf); exact And.intro (by first | rfl | (simp [AV.pure, pureL]; done) | fail) rfl
  | f + 1, c :: k :: n :: r, A, at_, hat, hA, hb, last, nd, m0, a, T, H, c_, g1, g2, g3, g4, hf, hu, hm, hD => by
    have hbl := byteCells_length b
    have hn := n.toNat_lt
    have hk := k.toNat_lt
    have hc := c.toNat_lt
    obtain ⟨x1, x2, hrl⟩ := drop_at hb
    obtain ⟨x3, x4, _⟩ := drop_at x2
    have y1 : (byteCells b)[at_.toNat]? = some [.int .u8 (c.toNat : Int)] := by rw [hat]; exact x1
    have y2 : (byteCells b)[(at_ + 1).toNat]? = some [.int .u8 (k.toNat : Int)] := by rw [hat]; exact x3
    simp only [List.length_cons] at hf hrl
    cases hbit : bit16 c
    · have hget := number_gives100 b (by omega) (at_ + 2) 1 (by omega) (by omega) (by omega) (by omega)
      rw [show rd ((b.drop (at_ + 2).toNat).take (1 : Int).toNat) = n.toNat from by rw [show (at_ + 2).toNat = A + 2 from by omega, ← List.drop_drop, hb]; simp [rd]] at hget
      have hat2 := attD_short c k n r hbit
      have e3 : b.drop (A + 3) = r := by rw [← List.drop_drop, hb]; rfl
      have e4 : b.drop (A + 3 + n.toNat) = r.drop n.toNat := by rw [← List.drop_drop, e3]
      refine dec_short71 wide b A at_ hat c k n.toNat y1 y2 hbit (by omega) (by omega) hget (by omega) last m0 a (by omega) _ ?_ ?_ ?_ ?_ ?_ T H c_ g1 g2 g3 g4
      all_goals try simp only [e3, e4]
      · intro q; rw [if_pos (by omega)] at hat2; rw [decF_none hat2]
      · intro q q2; rw [if_neg (by omega)] at hat2; rw [decF_some hat2, if_pos q2]
      · intro q q2 q3; rw [if_neg (by omega)] at hat2; rw [decF_some hat2, if_neg q2, if_pos q3]
      · intro q q2 q3 q4; rw [if_neg (by omega)] at hat2; rw [decF_some hat2, if_neg q2, if_neg q3]; simp only [q4]
      · intro q q2 q3 a' q4 T H c_ g1 g2 g3 g4 at2 hat3
        rw [if_neg (by omega)] at hat2; rw [decF_some hat2, if_neg q2, if_neg q3]; simp only [q4]
        obtain ⟨d1, d2⟩ := setA_DB hD (by simp; omega) q4
        exact dec_loop71 wide b hl f (r.drop n.toNat) (A + 3 + n.toNat) at2 hat3 (by omega) e4 _ _ _ a' T H c_ g1 g2 g3 g4 (by simp; omega) (by omega) (met_put hm (by omega) q2) d1
    · cases r with
      | nil =>
        simp only [List.length_nil] at hrl
        rw [decF_none (show attD [c, k, n] = none from by simp [attD, hbit])]
        refine ev_loop' (W_ok 300 _ _ _ _ ?_)
        repeat' ((conv => whnf); first | refine zAndLT hbit ?_ | refine bslP (by first | rfl | (simp [pureL, pureLL, AV.pure]; done) | fail) rfl ?_ | refine TakeC.full (by first | rfl | omega | (simp; done) | (simp; omega) | fail) ?_ | refine zBs ?_ | refine zBn ?_ | refine zBv rfl rfl ?_ | refine zN ?_ | refine zC ?_ | refine zC4 ?_ | refine zOr16 ?_ | refine zC1 ?_ | refine zByte ?_ | refine zMaxL ?_ | refine zMaxR ?_ | refine zMinL ?_ | refine zMinR ?_ | refine zShr ?_ | refine zC8 ?_ | refine zQ ?_ | refine zR ?_ | refine zS ?_ | refine zA ?_ | refine zM ?_ | refine xr rfl ?_ | refine ai rfl ?_ | refine condT ?_ | refine condF ?_ | refine condG1 ?_ | refine condG0 ?_ | refine cD ?_ | refine dD ?_ | refine cB ?_ | refine dB ?_ | refine cN ?_ | refine dN ?_ | refine cV ?_ | refine dV ?_ | refine cE ?_ | refine dE ?_ | refine condX0 ?_ | refine condX1 ?_ | refine condNot ?_ | refine condAnd ?_ | refine condOr ?_ | refine aO ?_ | refine aB ?_ | refine aR ?_ | refine aR ?_ (by simp; omega) | refine xr (by assumption) ?_ | refine ai (by assumption) ?_ | refine condD (fun h => ?_) (fun h => ?_) | refine condB (fun h => ?_) (fun h => ?_) | refine condN (fun h => ?_) (fun h => ?_) | refine condE (fun h => ?_) (fun h => ?_) | refine condV (fun h => ?_) (fun h => ?_))
        refine ev_le [] [(68, some (_, .cells zeroA.enc))] trivial ⟨⟨rfl, .refl _, LeP.nil 2, .refl _, .refl _, .refl _, .refl _, .refl _, .refl _, .refl _, .refl _, .refl _, LeP.nil 1, .refl _, .refl _, LeP.nil 1, LeP.nil 2, trivial⟩, trivial⟩ ?_
        (first | refine ev_fin (And.intro (by first | rfl | (simp [AV.pure, pureL]; done) | fail) ?_) | refine ev_fin0 (And.intro (by first | rfl | (simp [AV.pure, pureL]; done) | fail) ?_))
        (conv => whnf); exact And.intro (by first | rfl | (simp [AV.pure, pureL]; done) | fail) rfl
      | cons m r =>
        have hm2 := m.toNat_lt
        simp only [List.length_cons] at hf hrl
        have hget := number_gives100 b (by omega) (at_ + 2) 2 (by omega) (by omega) (by omega) (by omega)
        rw [show rd ((b.drop (at_ + 2).toNat).take (2 : Int).toNat) = (n.toNat * 256 + m.toNat) from by rw [show (at_ + 2).toNat = A + 2 from by omega, ← List.drop_drop, hb]; simp [rd]] at hget
        have hat2 := attD_long c k n m r hbit
        have e3 : b.drop (A + 4) = r := by rw [← List.drop_drop, hb]; rfl
        have e4 : b.drop (A + 4 + (n.toNat * 256 + m.toNat)) = r.drop (n.toNat * 256 + m.toNat) := by rw [← List.drop_drop, e3]
        refine dec_long71 wide b A at_ hat c k (n.toNat * 256 + m.toNat) y1 y2 hbit (by omega) (by omega) hget (by omega) last m0 a (by omega) _ ?_ ?_ ?_ ?_ ?_ T H c_ g1 g2 g3 g4
        all_goals try simp only [e3, e4]
        · intro q; rw [if_pos (by omega)] at hat2; rw [decF_none hat2]
        · intro q q2; rw [if_neg (by omega)] at hat2; rw [decF_some hat2, if_pos q2]
        · intro q q2 q3; rw [if_neg (by omega)] at hat2; rw [decF_some hat2, if_neg q2, if_pos q3]
        · intro q q2 q3 q4; rw [if_neg (by omega)] at hat2; rw [decF_some hat2, if_neg q2, if_neg q3]; simp only [q4]
        · intro q q2 q3 a' q4 T H c_ g1 g2 g3 g4 at2 hat3
          rw [if_neg (by omega)] at hat2; rw [decF_some hat2, if_neg q2, if_neg q3]; simp only [q4]
          obtain ⟨d1, d2⟩ := setA_DB hD (by simp; omega) q4
          exact dec_loop71 wide b hl f (r.drop (n.toNat * 256 + m.toNat)) (A + 4 + (n.toNat * 256 + m.toNat)) at2 hat3 (by omega) e4 _ _ _ a' T H c_ g1 g2 g3 g4 (by simp; omega) (by omega) (met_put hm (by omega) q2) d1
theorem decode_gives71 (b : List UInt8) (wide : Bool) (hb : b.length < 2 ^ 28) : Gives G 71 [.sl 1 (byteCells b), .bool wide] [] (decR (decD (wd wide) b)) := by
  refine gives_code (F := f71) rfl rfl (W_ok 300 _ _ _ _ ?_)
  repeat' ((conv => whnf); first | refine bslP (by first | rfl | (simp [pureL, pureLL, AV.pure]; done) | fail) rfl ?_ | refine TakeC.full (by first | rfl | omega | (simp; done) | (simp; omega) | fail) ?_ | refine zBs ?_ | refine zBn ?_ | refine zBv rfl rfl ?_ | refine zN ?_ | refine zC ?_ | refine zC4 ?_ | refine zOr16 ?_ | refine zC1 ?_ | refine zByte ?_ | refine zMaxL ?_ | refine zMaxR ?_ | refine zMinL ?_ | refine zMinR ?_ | refine zShr ?_ | refine zC8 ?_ | refine zQ ?_ | refine zR ?_ | refine zS ?_ | refine zA ?_ | refine zM ?_ | refine xr rfl ?_ | refine ai rfl ?_ | refine condT ?_ | refine condF ?_ | refine condG1 ?_ | refine condG0 ?_ | refine cD ?_ | refine dD ?_ | refine cB ?_ | refine dB ?_ | refine cN ?_ | refine dN ?_ | refine cV ?_ | refine dV ?_ | refine cE ?_ | refine dE ?_ | refine condX0 ?_ | refine condX1 ?_ | refine condNot ?_ | refine condAnd ?_ | refine condOr ?_ | refine aO ?_ | refine aB ?_ | refine aR ?_ | refine aR ?_ (by simp; omega) | refine xr (by assumption) ?_ | refine ai (by assumption) ?_ | refine condD (fun h => ?_) (fun h => ?_) | refine condB (fun h => ?_) (fun h => ?_) | refine condN (fun h => ?_) (fun h => ?_) | refine condE (fun h => ?_) (fun h => ?_) | refine condV (fun h => ?_) (fun h => ?_))
  refine ev_nil 300 2 [] [(70, some (_, .cells (zeroA.cellsV (.vs 300 _ 0))))] trivial ⟨⟨rfl, .refl _, LeP.nil 2, .refl _, .refl _, .refl _, .refl _, .refl _, .refl _, .refl _, .refl _, .refl _, LeP.nil 1, .refl _, .refl _, LeP.nil 1, LeP.nilV _ _ _, trivial⟩, trivial⟩ ?_
  refine ev_keep [4, 8, 6, 1, 0, 7, 9] [68, 72, 70, 300] ?_
  exact dec_loop71 wide b (by omega) b.length b 0 0 rfl (by omega) rfl (-1) 0 (fun _ => false) zeroA _ _ _ _ _ _ _ (Nat.le_refl _) (by simp [zeroA]) ⟨rfl, by simp⟩ ⟨by simp [zeroA], by simp [zeroA], by simp [zeroA], by simp [zeroA], by simp [zeroA]⟩
end Go.AM.IR
set_option maxHeartbeats 4000000
set_option maxRecDepth 20000
namespace Go.AM.IR
deriving instance DecidableEq for Seg, TLV, Attrs
theorem eq_loop99 (la lb : List Int) (hlen : la.length = lb.length) (hl : la.length < 2 ^ 40) : ∀ (r1 d1 r2 d2 : List Int) (T : List (Nat × AV)) (H : Heap) (c : Nat) (n : Int) (e1 : la = d1 ++ r1) (e2 : lb = d2 ++ r2) (hn1 : n = d1.length) (hn2 : n = d2.length),
   Ev G ⟨f99x9LH, ⟨(13, .int .i64 n) :: (1, .sl 1 (lb.map encU)) :: (0, .sl 1 (la.map encU)) :: (12, .int .i64 la.length) :: T, H, c⟩, [.t 4], 0⟩ ⟨.bool (decide (r1 = r2)), []⟩
  | [], d1, [], d2, T, H, c, n, e1, e2, hn1, hn2 => by
    have hd : la.length = d1.length := by simp [e1]
    refine ev_loop' (W_ok 300 _ _ _ _ ?_)
    repeat' ((conv => whnf); first | refine bslP (by first | rfl | (simp [pureL, pureLL, AV.pure]; done) | fail) rfl ?_ | refine TakeC.full (by first | rfl | omega | (simp; done) | (simp; omega) | fail) ?_ | refine zBs ?_ | refine zBn ?_ | refine zBv rfl rfl ?_ | refine zN ?_ | refine zC ?_ | refine zC4 ?_ | refine zOr16 ?_ | refine zC1 ?_ | refine zByte ?_ | refine zMaxL ?_ | refine zMaxR ?_ | refine zMinL ?_ | refine zMinR ?_ | refine zShr ?_ | refine zC8 ?_ | refine zQ ?_ | refine zR ?_ | refine zS ?_ | refine zA ?_ | refine zM ?_ | refine xr rfl ?_ | refine ai rfl ?_ | refine condT ?_ | refine condF ?_ | refine condG1 ?_ | refine condG0 ?_ | refine cD ?_ | refine dD ?_ | refine cB ?_ | refine dB ?_ | refine cN ?_ | refine dN ?_ | refine cV ?_ | refine dV ?_ | refine cE ?_ | refine dE ?_ | refine condX0 ?_ | refine condX1 ?_ | refine condNot ?_ | refine condAnd ?_ | refine condOr ?_ | refine aO ?_ | refine aB ?_ | refine aR ?_ | refine aR ?_ (by simp; omega) | refine xr (by assumption) ?_ | refine ai (by assumption) ?_ | refine condD (fun h => ?_) (fun h => ?_) | refine condB (fun h => ?_) (fun h => ?_) | refine condN (fun h => ?_) (fun h => ?_) | refine condE (fun h => ?_) (fun h => ?_) | refine condV (fun h => ?_) (fun h => ?_))
    all_goals try ((first | refine ev_fin (And.intro (by first | rfl | (simp [AV.pure, pureL]; done) | fail) ?_) | refine ev_fin0 (And.intro (by first | rfl | (simp [AV.pure, pureL]; done) | fail) ?_)); first | rfl | (simp [Bool.cond_eq_ite, *]; done) | (simp [Bool.cond_eq_ite, *]; omega))
  | x :: r1, d1, y :: r2, d2, T, H, c, n, e1, e2, hn1, hn2 => by
    have hd : la.length = d1.length + (r1.length + 1) := by simp [e1]
    have hx : (la.map encU)[n.toNat]? = some (encU x) := by simp [e1, hn1]
    have hy : (lb.map encU)[n.toNat]? = some (encU y) := by simp [e2, hn2]
    refine ev_loop' (W_ok 300 _ _ _ _ ?_)
    repeat' ((conv => whnf); first | refine bslP (by first | rfl | (simp [pureL, pureLL, AV.pure]; done) | fail) rfl ?_ | refine TakeC.full (by first | rfl | omega | (simp; done) | (simp; omega) | fail) ?_ | refine zBs ?_ | refine zBn ?_ | refine zBv rfl rfl ?_ | refine zN ?_ | refine zC ?_ | refine zC4 ?_ | refine zOr16 ?_ | refine zC1 ?_ | refine zByte ?_ | refine zMaxL ?_ | refine zMaxR ?_ | refine zMinL ?_ | refine zMinR ?_ | refine zShr ?_ | refine zC8 ?_ | refine zQ ?_ | refine zR ?_ | refine zS ?_ | refine zA ?_ | refine zM ?_ | refine xr rfl ?_ | refine ai rfl ?_ | refine condT ?_ | refine condF ?_ | refine condG1 ?_ | refine condG0 ?_ | refine cD ?_ | refine dD ?_ | refine cB ?_ | refine dB ?_ | refine cN ?_ | refine dN ?_ | refine cV ?_ | refine dV ?_ | refine cE ?_ | refine dE ?_ | refine condX0 ?_ | refine condX1 ?_ | refine condNot ?_ | refine condAnd ?_ | refine condOr ?_ | refine aO ?_ | refine aB ?_ | refine aR ?_ | refine aR ?_ (by simp; omega) | refine xr (by assumption) ?_ | refine ai (by assumption) ?_ | refine condD (fun h => ?_) (fun h => ?_) | refine condB (fun h => ?_) (fun h => ?_) | refine condN (fun h => ?_) (fun h => ?_) | refine condE (fun h => ?_) (fun h => ?_) | refine condV (fun h => ?_) (fun h => ?_))
    all_goals try ((first | refine ev_fin (And.intro (by first | rfl | (simp [AV.pure, pureL]; done) | fail) ?_) | refine ev_fin0 (And.intro (by first | rfl | (simp [AV.pure, pureL]; done) | fail) ?_)); first | rfl | (simp [Bool.cond_eq_ite, *]; done) | (simp [Bool.cond_eq_ite, *]; omega))
    rw [show decide (x :: r1 = y :: r2) = decide (r1 = r2) from by simp [*]]
    refine ev_keep [13, 1, 0, 12] [] ?_; exact eq_loop99 la lb hlen hl r1 (d1 ++ [x]) r2 (d2 ++ [y]) _ _ _ (n + 1) (by simp [e1]) (by simp [e2]) (by simp [hn1]) (by simp; omega)
  | [], d1, y :: r2, d2, T, H, c, n, e1, e2, hn1, hn2 => by
    exfalso; rw [e1, e2] at hlen; simp at hlen; omega
  | x :: r1, d1, [], d2, T, H, c, n, e1, e2, hn1, hn2 => by
    exfalso; rw [e1, e2] at hlen; simp at hlen; omega
theorem eq_gives99 (la lb : List Int) (h1 : la.length < 2 ^ 40) (h2 : lb.length < 2 ^ 40) : Gives G 99 [.sl 1 (la.map encU), .sl 1 (lb.map encU)] [] ⟨.bool (decide (la = lb)), []⟩ := by
  have l1 : (la.map encU).length = la.length := by simp
  have l2 : (lb.map encU).length = lb.length := by simp
  by_cases hlen : la.length = lb.length
  · refine gives_code (F := f99) rfl rfl (W_ok 300 _ _ _ _ ?_)
    repeat' ((conv => whnf); first | refine bslP (by first | rfl | (simp [pureL, pureLL, AV.pure]; done) | fail) rfl ?_ | refine TakeC.full (by first | rfl | omega | (simp; done) | (simp; omega) | fail) ?_ | refine zBs ?_ | refine zBn ?_ | refine zBv rfl rfl ?_ | refine zN ?_ | refine zC ?_ | refine zC4 ?_ | refine zOr16 ?_ | refine zC1 ?_ | refine zByte ?_ | refine zMaxL ?_ | refine zMaxR ?_ | refine zMinL ?_ | refine zMinR ?_ | refine zShr ?_ | refine zC8 ?_ | refine zQ ?_ | refine zR ?_ | refine zS ?_ | refine zA ?_ | refine zM ?_ | refine xr rfl ?_ | refine ai rfl ?_ | refine condT ?_ | refine condF ?_ | refine condG1 ?_ | refine condG0 ?_ | refine cD ?_ | refine dD ?_ | refine cB ?_ | refine dB ?_ | refine cN ?_ | refine dN ?_ | refine cV ?_ | refine dV ?_ | refine cE ?_ | refine dE ?_ | refine condX0 ?_ | refine condX1 ?_ | refine condNot ?_ | refine condAnd ?_ | refine condOr ?_ | refine aO ?_ | refine aB ?_ | refine aR ?_ | refine aR ?_ (by simp; omega) | refine xr (by assumption) ?_ | refine ai (by assumption) ?_ | refine condD (fun h => ?_) (fun h => ?_) | refine condB (fun h => ?_) (fun h => ?_) | refine condN (fun h => ?_) (fun h => ?_) | refine condE (fun h => ?_) (fun h => ?_) | refine condV (fun h => ?_) (fun h => ?_))
    refine ev_keep [13, 1, 0, 12] [] ?_
    rw [l1]
    exact eq_loop99 la lb hlen h1 la [] lb [] _ _ _ 0 rfl rfl rfl rfl
  · rw [show decide (la = lb) = false from by simp; intro h; exact hlen (by rw [h])]
    refine gives_code (F := f99) rfl rfl (W_ok 300 _ _ _ _ ?_)
    repeat' ((conv => whnf); first | refine bslP (by first | rfl | (simp [pureL, pureLL, AV.pure]; done) | fail) rfl ?_ | refine TakeC.full (by first | rfl | omega | (simp; done) | (simp; omega) | fail) ?_ | refine zBs ?_ | refine zBn ?_ | refine zBv rfl rfl ?_ | refine zN ?_ | refine zC ?_ | refine zC4 ?_ | refine zOr16 ?_ | refine zC1 ?_ | refine zByte ?_ | refine zMaxL ?_ | refine zMaxR ?_ | refine zMinL ?_ | refine zMinR ?_ | refine zShr ?_ | refine zC8 ?_ | refine zQ ?_ | refine zR ?_ | refine zS ?_ | refine zA ?_ | refine zM ?_ | refine xr rfl ?_ | refine ai rfl ?_ | refine condT ?_ | refine condF ?_ | refine condG1 ?_ | refine condG0 ?_ | refine cD ?_ | refine dD ?_ | refine cB ?_ | refine dB ?_ | refine cN ?_ | refine dN ?_ | refine cV ?_ | refine dV ?_ | refine cE ?_ | refine dE ?_ | refine condX0 ?_ | refine condX1 ?_ | refine condNot ?_ | refine condAnd ?_ | refine condOr ?_ | refine aO ?_ | refine aB ?_ | refine aR ?_ | refine aR ?_ (by simp; omega) | refine xr (by assumption) ?_ | refine ai (by assumption) ?_ | refine condD (fun h => ?_) (fun h => ?_) | refine condB (fun h => ?_) (fun h => ?_) | refine condN (fun h => ?_) (fun h => ?_) | refine condE (fun h => ?_) (fun h => ?_) | refine condV (fun h => ?_) (fun h => ?_))
    all_goals try ((first | refine ev_fin (And.intro (by first | rfl | (simp [AV.pure, pureL]; done) | fail) ?_) | refine ev_fin0 (And.intro (by first | rfl | (simp [AV.pure, pureL]; done) | fail) ?_)); first | rfl | (simp [Bool.cond_eq_ite, *]; done) | (simp [Bool.cond_eq_ite, *]; omega))
theorem in_loop97 (pa pb : List Seg) (hlen : pa.length = pb.length) (hl : pa.length < 2 ^ 40) (i : Int) (s t : Seg) (h0 : 0 ≤ i) (hs : (pa.map Seg.enc)[i.toNat]? = some s.enc) (ht : (pb.map Seg.enc)[i.toNat]? = some t.enc) (hi : i < 2 ^ 40)
   (hst : s.as.length = t.as.length) (hsl : s.as.length < 2 ^ 40) (R : Bool)
   (go : ∀ T H c, Ev G ⟨f97x16LH, ⟨(14, .int .i64 (i + 1)) :: (1, .sl 2 (pb.map Seg.enc)) :: (0, .sl 2 (pa.map Seg.enc)) :: (13, .int .i64 pa.length) :: T, H, c⟩, [.t 4], 0⟩ ⟨.bool R, []⟩) : ∀ (r1 d1 r2 d2 : List Int) (T : List (Nat × AV)) (H : Heap) (c : Nat) (n : Int) (e1 : s.as = d1 ++ r1) (e2 : t.as = d2 ++ r2) (hn1 : n = d1.length) (hn2 : n = d2.length),
   Ev G ⟨f97x14LH, ⟨(49, .int .i64 n) :: (5, .int .i64 i) :: (1, .sl 2 (pb.map Seg.enc)) :: (0, .sl 2 (pa.map Seg.enc)) :: (13, .int .i64 pa.length) :: (14, .int .i64 i) :: (48, .int .i64 s.as.length) :: T, H, c⟩, [.t 4], 0⟩ ⟨.bool (decide (r1 = r2) && R), []⟩
  | [], d1, [], d2, T, H, c, n, e1, e2, hn1, hn2 => by
    have hd : s.as.length = d1.length := by simp [e1]
    refine ev_loop' (W_ok 300 _ _ _ _ ?_)
    repeat' ((conv => whnf); first | refine bslP (by first | rfl | (simp [pureL, pureLL, AV.pure]; done) | fail) rfl ?_ | refine TakeC.full (by first | rfl | omega | (simp; done) | (simp; omega) | fail) ?_ | refine zBs ?_ | refine zBn ?_ | refine zBv rfl rfl ?_ | refine zN ?_ | refine zC ?_ | refine zC4 ?_ | refine zOr16 ?_ | refine zC1 ?_ | refine zByte ?_ | refine zMaxL ?_ | refine zMaxR ?_ | refine zMinL ?_ | refine zMinR ?_ | refine zShr ?_ | refine zC8 ?_ | refine zQ ?_ | refine zR ?_ | refine zS ?_ | refine zA ?_ | refine zM ?_ | refine xr rfl ?_ | refine ai rfl ?_ | refine condT ?_ | refine condF ?_ | refine condG1 ?_ | refine condG0 ?_ | refine cD ?_ | refine dD ?_ | refine cB ?_ | refine dB ?_ | refine cN ?_ | refine dN ?_ | refine cV ?_ | refine dV ?_ | refine cE ?_ | refine dE ?_ | refine condX0 ?_ | refine condX1 ?_ | refine condNot ?_ | refine condAnd ?_ | refine condOr ?_ | refine aO ?_ | refine aB ?_ | refine aR ?_ | refine aR ?_ (by simp; omega) | refine xr (by assumption) ?_ | refine ai (by assumption) ?_ | refine condD (fun h => ?_) (fun h => ?_) | refine condB (fun h => ?_) (fun h => ?_) | refine condN (fun h => ?_) (fun h => ?_) | refine condE (fun h => ?_) (fun h => ?_) | refine condV (fun h => ?_) (fun h => ?_))
    refine ev_keep [14, 1, 0, 13] [] ?_
    rw [show (decide (([] : List Int) = []) && R) = R from by simp]
    exact go _ _ _
  | x :: r1, d1, y :: r2, d2, T, H, c, n, e1, e2, hn1, hn2 => by
    have hd : s.as.length = d1.length + (r1.length + 1) := by simp [e1]
    have hx : (s.as.map encI)[n.toNat]? = some (encI x) := by simp [e1, hn1]
    have hy : (t.as.map encI)[n.toNat]? = some (encI y) := by simp [e2, hn2]
    refine ev_loop' (W_ok 300 _ _ _ _ ?_)
    repeat' ((conv => whnf); first | refine bslP (by first | rfl | (simp [pureL, pureLL, AV.pure]; done) | fail) rfl ?_ | refine TakeC.full (by first | rfl | omega | (simp; done) | (simp; omega) | fail) ?_ | refine zBs ?_ | refine zBn ?_ | refine zBv rfl rfl ?_ | refine zN ?_ | refine zC ?_ | refine zC4 ?_ | refine zOr16 ?_ | refine zC1 ?_ | refine zByte ?_ | refine zMaxL ?_ | refine zMaxR ?_ | refine zMinL ?_ | refine zMinR ?_ | refine zShr ?_ | refine zC8 ?_ | refine zQ ?_ | refine zR ?_ | refine zS ?_ | refine zA ?_ | refine zM ?_ | refine xr rfl ?_ | refine ai rfl ?_ | refine condT ?_ | refine condF ?_ | refine condG1 ?_ | refine condG0 ?_ | refine cD ?_ | refine dD ?_ | refine cB ?_ | refine dB ?_ | refine cN ?_ | refine dN ?_ | refine cV ?_ | refine dV ?_ | refine cE ?_ | refine dE ?_ | refine condX0 ?_ | refine condX1 ?_ | refine condNot ?_ | refine condAnd ?_ | refine condOr ?_ | refine aO ?_ | refine aB ?_ | refine aR ?_ | refine aR ?_ (by simp; omega) | refine xr (by assumption) ?_ | refine ai (by assumption) ?_ | refine condD (fun h => ?_) (fun h => ?_) | refine condB (fun h => ?_) (fun h => ?_) | refine condN (fun h => ?_) (fun h => ?_) | refine condE (fun h => ?_) (fun h => ?_) | refine condV (fun h => ?_) (fun h => ?_))
    all_goals try ((first | refine ev_fin (And.intro (by first | rfl | (simp [AV.pure, pureL]; done) | fail) ?_) | refine ev_fin0 (And.intro (by first | rfl | (simp [AV.pure, pureL]; done) | fail) ?_)); first | rfl | (simp [Bool.cond_eq_ite, *]; done) | (simp [Bool.cond_eq_ite, *]; omega))
    rw [show decide (x :: r1 = y :: r2) = decide (r1 = r2) from by simp [*]]
    refine ev_keep [49, 5, 1, 0, 13, 14, 48] [] ?_; exact in_loop97 pa pb hlen hl i s t h0 hs ht hi hst hsl R go r1 (d1 ++ [x]) r2 (d2 ++ [y]) _ _ _ (n + 1) (by simp [e1]) (by simp [e2]) (by simp [hn1]) (by simp; omega)
  | [], d1, y :: r2, d2, T, H, c, n, e1, e2, hn1, hn2 => by
    exfalso; rw [e1, e2] at hst; simp at hst; omega
  | x :: r1, d1, [], d2, T, H, c, n, e1, e2, hn1, hn2 => by
    exfalso; rw [e1, e2] at hst; simp at hst; omega
theorem out_loop97 (pa pb : List Seg) (hlen : pa.length = pb.length) (hl : pa.length < 2 ^ 40) (ha : ∀ s ∈ pa, s.as.length < 2 ^ 40) (hb : ∀ s ∈ pb, s.as.length < 2 ^ 40) : ∀ (r1 d1 r2 d2 : List Seg) (T : List (Nat × AV)) (H : Heap) (c : Nat) (n : Int) (e1 : pa = d1 ++ r1) (e2 : pb = d2 ++ r2) (hn1 : n = d1.length) (hn2 : n = d2.length),
   Ev G ⟨f97x16LH, ⟨(14, .int .i64 n) :: (1, .sl 2 (pb.map Seg.enc)) :: (0, .sl 2 (pa.map Seg.enc)) :: (13, .int .i64 pa.length) :: T, H, c⟩, [.t 4], 0⟩ ⟨.bool (decide (r1 = r2)), []⟩
  | [], d1, [], d2, T, H, c, n, e1, e2, hn1, hn2 => by
    have hd : pa.length = d1.length := by simp [e1]
    refine ev_loop' (W_ok 300 _ _ _ _ ?_)
    repeat' ((conv => whnf); first | refine bslP (by first | rfl | (simp [pureL, pureLL, AV.pure]; done) | fail) rfl ?_ | refine TakeC.full (by first | rfl | omega | (simp; done) | (simp; omega) | fail) ?_ | refine zBs ?_ | refine zBn ?_ | refine zBv rfl rfl ?_ | refine zN ?_ | refine zC ?_ | refine zC4 ?_ | refine zOr16 ?_ | refine zC1 ?_ | refine zByte ?_ | refine zMaxL ?_ | refine zMaxR ?_ | refine zMinL ?_ | refine zMinR ?_ | refine zShr ?_ | refine zC8 ?_ | refine zQ ?_ | refine zR ?_ | refine zS ?_ | refine zA ?_ | refine zM ?_ | refine xr rfl ?_ | refine ai rfl ?_ | refine condT ?_ | refine condF ?_ | refine condG1 ?_ | refine condG0 ?_ | refine cD ?_ | refine dD ?_ | refine cB ?_ | refine dB ?_ | refine cN ?_ | refine dN ?_ | refine cV ?_ | refine dV ?_ | refine cE ?_ | refine dE ?_ | refine condX0 ?_ | refine condX1 ?_ | refine condNot ?_ | refine condAnd ?_ | refine condOr ?_ | refine aO ?_ | refine aB ?_ | refine aR ?_ | refine aR ?_ (by simp; omega) | refine xr (by assumption) ?_ | refine ai (by assumption) ?_ | refine condD (fun h => ?_) (fun h => ?_) | refine condB (fun h => ?_) (fun h => ?_) | refine condN (fun h => ?_) (fun h => ?_) | refine condE (fun h => ?_) (fun h => ?_) | refine condV (fun h => ?_) (fun h => ?_))
    all_goals try ((first | refine ev_fin (And.intro (by first | rfl | (simp [AV.pure, pureL]; done) | fail) ?_) | refine ev_fin0 (And.intro (by first | rfl | (simp [AV.pure, pureL]; done) | fail) ?_)); first | rfl | (simp [Bool.cond_eq_ite, *]; done) | (simp [Bool.cond_eq_ite, *]; omega))
  | x :: r1, d1, y :: r2, d2, T, H, c, n, e1, e2, hn1, hn2 => by
    have hd : pa.length = d1.length + (r1.length + 1) := by simp [e1]
    have hx : (pa.map Seg.enc)[n.toNat]? = some x.enc := by simp [e1, hn1]
    have hy : (pb.map Seg.enc)[n.toNat]? = some y.enc := by simp [e2, hn2]
    have hxl := ha x (by simp [e1])
    have hyl := hb y (by simp [e2])
    have l1 : (x.as.map encI).length = x.as.length := by simp
    have l2 : (y.as.map encI).length = y.as.length := by simp
    have hee : (x = y) ↔ (x.kind = y.kind ∧ x.as = y.as) := by cases x; cases y; simp
    have ih := fun T H c => out_loop97 pa pb hlen hl ha hb r1 (d1 ++ [x]) r2 (d2 ++ [y]) T H c (n + 1) (by simp [e1]) (by simp [e2]) (by simp [hn1]) (by simp; omega)
    by_cases hk : x.kind = y.kind
    · by_cases hal : x.as.length = y.as.length
      · refine ev_loop' (W_ok 300 _ _ _ _ ?_)
        repeat' ((conv => whnf); first | refine bslP (by first | rfl | (simp [pureL, pureLL, AV.pure]; done) | fail) rfl ?_ | refine TakeC.full (by first | rfl | omega | (simp; done) | (simp; omega) | fail) ?_ | refine zBs ?_ | refine zBn ?_ | refine zBv rfl rfl ?_ | refine zN ?_ | refine zC ?_ | refine zC4 ?_ | refine zOr16 ?_ | refine zC1 ?_ | refine zByte ?_ | refine zMaxL ?_ | refine zMaxR ?_ | refine zMinL ?_ | refine zMinR ?_ | refine zShr ?_ | refine zC8 ?_ | refine zQ ?_ | refine zR ?_ | refine zS ?_ | refine zA ?_ | refine zM ?_ | refine xr rfl ?_ | refine ai rfl ?_ | refine condT ?_ | refine condF ?_ | refine condG1 ?_ | refine condG0 ?_ | refine cD ?_ | refine dD ?_ | refine cB ?_ | refine dB ?_ | refine cN ?_ | refine dN ?_ | refine cV ?_ | refine dV ?_ | refine cE ?_ | refine dE ?_ | refine condX0 ?_ | refine condX1 ?_ | refine condNot ?_ | refine condAnd ?_ | refine condOr ?_ | refine aO ?_ | refine aB ?_ | refine aR ?_ | refine aR ?_ (by simp; omega) | refine xr (by assumption) ?_ | refine ai (by assumption) ?_ | refine condD (fun h => ?_) (fun h => ?_) | refine condB (fun h => ?_) (fun h => ?_) | refine condN (fun h => ?_) (fun h => ?_) | refine condE (fun h => ?_) (fun h => ?_) | refine condV (fun h => ?_) (fun h => ?_))
        refine ev_keep [49, 5, 1, 0, 13, 14, 48] [] ?_
        rw [l1]
        have := in_loop97 pa pb hlen hl n x y (by omega) hx hy (by omega) hal hxl _ ih x.as [] y.as []
        rw [show decide (x :: r1 = y :: r2) = (decide (x.as = y.as) && decide (r1 = r2)) from by simp [hee, hk]]
        exact this _ _ _ 0 rfl rfl rfl rfl
      · rw [show decide (x :: r1 = y :: r2) = false from by simp [hee]; intro _ h; exact absurd (by rw [h]) hal]
        refine ev_loop' (W_ok 300 _ _ _ _ ?_)
        repeat' ((conv => whnf); first | refine bslP (by first | rfl | (simp [pureL, pureLL, AV.pure]; done) | fail) rfl ?_ | refine TakeC.full (by first | rfl | omega | (simp; done) | (simp; omega) | fail) ?_ | refine zBs ?_ | refine zBn ?_ | refine zBv rfl rfl ?_ | refine zN ?_ | refine zC ?_ | refine zC4 ?_ | refine zOr16 ?_ | refine zC1 ?_ | refine zByte ?_ | refine zMaxL ?_ | refine zMaxR ?_ | refine zMinL ?_ | refine zMinR ?_ | refine zShr ?_ | refine zC8 ?_ | refine zQ ?_ | refine zR ?_ | refine zS ?_ | refine zA ?_ | refine zM ?_ | refine xr rfl ?_ | refine ai rfl ?_ | refine condT ?_ | refine condF ?_ | refine condG1 ?_ | refine condG0 ?_ | refine cD ?_ | refine dD ?_ | refine cB ?_ | refine dB ?_ | refine cN ?_ | refine dN ?_ | refine cV ?_ | refine dV ?_ | refine cE ?_ | refine dE ?_ | refine condX0 ?_ | refine condX1 ?_ | refine condNot ?_ | refine condAnd ?_ | refine condOr ?_ | refine aO ?_ | refine aB ?_ | refine aR ?_ | refine aR ?_ (by simp; omega) | refine xr (by assumption) ?_ | refine ai (by assumption) ?_ | refine condD (fun h => ?_) (fun h => ?_) | refine condB (fun h => ?_) (fun h => ?_) | refine condN (fun h => ?_) (fun h => ?_) | refine condE (fun h => ?_) (fun h => ?_) | refine condV (fun h => ?_) (fun h => ?_))
        all_goals try ((first | refine ev_fin (And.intro (by first | rfl | (simp [AV.pure, pureL]; done) | fail) ?_) | refine ev_fin0 (And.intro (by first | rfl | (simp [AV.pure, pureL]; done) | fail) ?_)); first | rfl | (simp [Bool.cond_eq_ite, *]; done) | (simp [Bool.cond_eq_ite, *]; omega))
    · rw [show decide (x :: r1 = y :: r2) = false from by simp [hee, hk]]
      refine ev_loop' (W_ok 300 _ _ _ _ ?_)
      repeat' ((conv => whnf); first | refine bslP (by first | rfl | (simp [pureL, pureLL, AV.pure]; done) | fail) rfl ?_ | refine TakeC.full (by first | rfl | omega | (simp; done) | (simp; omega) | fail) ?_ | refine zBs ?_ | refine zBn ?_ | refine zBv rfl rfl ?_ | refine zN ?_ | refine zC ?_ | refine zC4 ?_ | refine zOr16 ?_ | refine zC1 ?_ | refine zByte ?_ | refine zMaxL ?_ | refine zMaxR ?_ | refine zMinL ?_ | refine zMinR ?_ | refine zShr ?_ | refine zC8 ?_ | refine zQ ?_ | refine zR ?_ | refine zS ?_ | refine zA ?_ | refine zM ?_ | refine xr rfl ?_ | refine ai rfl ?_ | refine condT ?_ | refine condF ?_ | refine condG1 ?_ | refine condG0 ?_ | refine cD ?_ | refine dD ?_ | refine cB ?_ | refine dB ?_ | refine cN ?_ | refine dN ?_ | refine cV ?_ | refine dV ?_ | refine cE ?_ | refine dE ?_ | refine condX0 ?_ | refine condX1 ?_ | refine condNot ?_ | refine condAnd ?_ | refine condOr ?_ | refine aO ?_ | refine aB ?_ | refine aR ?_ | refine aR ?_ (by simp; omega) | refine xr (by assumption) ?_ | refine ai (by assumption) ?_ | refine condD (fun h => ?_) (fun h => ?_) | refine condB (fun h => ?_) (fun h => ?_) | refine condN (fun h => ?_) (fun h => ?_) | refine condE (fun h => ?_) (fun h => ?_) | refine condV (fun h => ?_) (fun h => ?_))
      all_goals try ((first | refine ev_fin (And.intro (by first | rfl | (simp [AV.pure, pureL]; done) | fail) ?_) | refine ev_fin0 (And.intro (by first | rfl | (simp [AV.pure, pureL]; done) | fail) ?_)); first | rfl | (simp [Bool.cond_eq_ite, *]; done) | (simp [Bool.cond_eq_ite, *]; omega))
  | [], d1, y :: r2, d2, T, H, c, n, e1, e2, hn1, hn2 => by
    exfalso; rw [e1, e2] at hlen; simp at hlen; omega
  | x :: r1, d1, [], d2, T, H, c, n, e1, e2, hn1, hn2 => by
    exfalso; rw [e1, e2] at hlen; simp at hlen; omega
theorem same_gives97 (pa pb : List Seg) (h1 : pa.length < 2 ^ 40) (h2 : pb.length < 2 ^ 40) (ha : ∀ s ∈ pa, s.as.length < 2 ^ 40) (hb : ∀ s ∈ pb, s.as.length < 2 ^ 40) : Gives G 97 [.sl 2 (pa.map Seg.enc), .sl 2 (pb.map Seg.enc)] [] ⟨.bool (decide (pa = pb)), []⟩ := by
  have l1 : (pa.map Seg.enc).length = pa.length := by simp
  have l2 : (pb.map Seg.enc).length = pb.length := by simp
  by_cases hlen : pa.length = pb.length
  · refine gives_code (F := f97) rfl rfl (W_ok 300 _ _ _ _ ?_)
    repeat' ((conv => whnf); first | refine bslP (by first | rfl | (simp [pureL, pureLL, AV.pure]; done) | fail) rfl ?_ | refine TakeC.full (by first | rfl | omega | (simp; done) | (simp; omega) | fail) ?_ | refine zBs ?_ | refine zBn ?_ | refine zBv rfl rfl ?_ | refine zN ?_ | refine zC ?_ | refine zC4 ?_ | refine zOr16 ?_ | refine zC1 ?_ | refine zByte ?_ | refine zMaxL ?_ | refine zMaxR ?_ | refine zMinL ?_ | refine zMinR ?_ | refine zShr ?_ | refine zC8 ?_ | refine zQ ?_ | refine zR ?_ | refine zS ?_ | refine zA ?_ | refine zM ?_ | refine xr rfl ?_ | refine ai rfl ?_ | refine condT ?_ | refine condF ?_ | refine condG1 ?_ | refine condG0 ?_ | refine cD ?_ | refine dD ?_ | refine cB ?_ | refine dB ?_ | refine cN ?_ | refine dN ?_ | refine cV ?_ | refine dV ?_ | refine cE ?_ | refine dE ?_ | refine condX0 ?_ | refine condX1 ?_ | refine condNot ?_ | refine condAnd ?_ | refine condOr ?_ | refine aO ?_ | refine aB ?_ | refine aR ?_ | refine aR ?_ (by simp; omega) | refine xr (by assumption) ?_ | refine ai (by assumption) ?_ | refine condD (fun h => ?_) (fun h => ?_) | refine condB (fun h => ?_) (fun h => ?_) | refine condN (fun h => ?_) (fun h => ?_) | refine condE (fun h => ?_) (fun h => ?_) | refine condV (fun h => ?_) (fun h => ?_))
    refine ev_keep [14, 1, 0, 13] [] ?_
    rw [l1]
    exact out_loop97 pa pb hlen h1 ha hb pa [] pb [] _ _ _ 0 rfl rfl rfl rfl
  · rw [show decide (pa = pb) = false from by simp; intro h; exact hlen (by rw [h])]
    refine gives_code (F := f97) rfl rfl (W_ok 300 _ _ _ _ ?_)
    repeat' ((conv => whnf); first | refine bslP (by first | rfl | (simp [pureL, pureLL, AV.pure]; done) | fail) rfl ?_ | refine TakeC.full (by first | rfl | omega | (simp; done) | (simp; omega) | fail) ?_ | refine zBs ?_ | refine zBn ?_ | refine zBv rfl rfl ?_ | refine zN ?_ | refine zC ?_ | refine zC4 ?_ | refine zOr16 ?_ | refine zC1 ?_ | refine zByte ?_ | refine zMaxL ?_ | refine zMaxR ?_ | refine zMinL ?_ | refine zMinR ?_ | refine zShr ?_ | refine zC8 ?_ | refine zQ ?_ | refine zR ?_ | refine zS ?_ | refine zA ?_ | refine zM ?_ | refine xr rfl ?_ | refine ai rfl ?_ | refine condT ?_ | refine condF ?_ | refine condG1 ?_ | refine condG0 ?_ | refine cD ?_ | refine dD ?_ | refine cB ?_ | refine dB ?_ | refine cN ?_ | refine dN ?_ | refine cV ?_ | refine dV ?_ | refine cE ?_ | refine dE ?_ | refine condX0 ?_ | refine condX1 ?_ | refine condNot ?_ | refine condAnd ?_ | refine condOr ?_ | refine aO ?_ | refine aB ?_ | refine aR ?_ | refine aR ?_ (by simp; omega) | refine xr (by assumption) ?_ | refine ai (by assumption) ?_ | refine condD (fun h => ?_) (fun h => ?_) | refine condB (fun h => ?_) (fun h => ?_) | refine condN (fun h => ?_) (fun h => ?_) | refine condE (fun h => ?_) (fun h => ?_) | refine condV (fun h => ?_) (fun h => ?_))
    all_goals try ((first | refine ev_fin (And.intro (by first | rfl | (simp [AV.pure, pureL]; done) | fail) ?_) | refine ev_fin0 (And.intro (by first | rfl | (simp [AV.pure, pureL]; done) | fail) ?_)); first | rfl | (simp [Bool.cond_eq_ite, *]; done) | (simp [Bool.cond_eq_ite, *]; omega))
end Go.AM.IR
