/- What the functions of this program give, on the abstract machine. -/
import Derived.Test.YtomphmeopjpejaaGreatDoorDataA
import Derived.KernelRfl
set_option linter.unusedVariables false
set_option linter.unusedSimpArgs false
set_option maxHeartbeats 4000000
set_option maxRecDepth 20000
namespace Go.AM.IR
deriving instance DecidableEq for RuleP, PathR, ComR, Mat, Actn, PList, PathL, ComL, Trm, Pol, PSet
section
variable {k : Eff → Prop} {kv : AV → Prop} {x y : Opd} {g key : Nat} {hg : Nat → Option (Nat × Blk)}
theorem zEqs {ks : List LK} {neg v : Bool} {a b : List AV} (he : eqL ks a b = some v) (h : k { res := .bool (xor neg v) }) : ∃ e, aopV (.eqs ks neg x y) g key [.agg a, .agg b] hg = some e ∧ k e := ⟨_, by show (eqL ks a b).map _ = _; rw [he]; rfl, h⟩
theorem zSeqF {a b : List UInt8} (n : ¬ a = b) (h : kv (.bool false)) : ∃ v, binA .eql (.str a) (.str b) = some v ∧ kv v := ⟨.bool false, by show some (AV.bool (a == b)) = _; simp [n], h⟩
theorem zSeqT {a b : List UInt8} (n : a = b) (h : kv (.bool true)) : ∃ v, binA .eql (.str a) (.str b) = some v ∧ kv v := ⟨.bool true, by show some (AV.bool (a == b)) = _; simp [n], h⟩
theorem zSneF {a b : List UInt8} (n : a = b) (h : kv (.bool false)) : ∃ v, binA .neq (.str a) (.str b) = some v ∧ kv v := ⟨.bool false, by show some (AV.bool (!(a == b))) = _; simp [n], h⟩
theorem zSneT {a b : List UInt8} (n : ¬ a = b) (h : kv (.bool true)) : ∃ v, binA .neq (.str a) (.str b) = some v ∧ kv v := ⟨.bool true, by show some (AV.bool (!(a == b))) = _; simp [n], h⟩
end
theorem eqs_RuleP (x y : RuleP) : eqL [.bool, .int, .int, .int, .int] x.enc y.enc = some (decide (x = y)) := by
  rcases x with ⟨a, ⟨p, q⟩, c, d⟩; rcases y with ⟨a', ⟨p', q'⟩, c', d'⟩
  simp only [RuleP.enc, eqL, scal, if_true, Option.some.injEq]
  rw [Bool.eq_iff_iff]
  simp [and_assoc]
theorem eq_loop673 (la lb : List RuleP) (hlen : la.length = lb.length) (hl : la.length < 2 ^ 40) : ∀ (r1 d1 r2 d2 : List RuleP) (T : List (Nat × AV)) (H : Heap) (c : Nat) (n : Int) (e1 : la = d1 ++ r1) (e2 : lb = d2 ++ r2) (hn1 : n = d1.length) (hn2 : n = d2.length),
   Ev G ⟨f673x9LH, ⟨(13, .int .i64 n) :: (1, .sl 5 (lb.map RuleP.enc)) :: (0, .sl 5 (la.map RuleP.enc)) :: (12, .int .i64 la.length) :: T, H, c⟩, [.t 4], 0⟩ ⟨.bool (decide (r1 = r2)), []⟩
  | [], d1, [], d2, T, H, c, n, e1, e2, hn1, hn2 => by
    have hd : la.length = d1.length := by simp [e1]
    refine ev_loop' (W_ok 300 _ _ _ _ ?_)
    repeat' (first | refine stpA ?_ | (refine condS ?_ ?_ <;> intro h))
    (first | refine fin1 ?_ | refine fin0 ?_); rfl
  | x :: r1, d1, y :: r2, d2, T, H, c, n, e1, e2, hn1, hn2 => by
    have hd : la.length = d1.length + (r1.length + 1) := by simp [e1]
    have hl1 : (la.map RuleP.enc).length = la.length := by simp
    have hl2 : (lb.map RuleP.enc).length = la.length := by simp [hlen]
    have hx : (la.map RuleP.enc)[n.toNat]? = some x.enc := by simp [e1, hn1]
    have hy : (lb.map RuleP.enc)[n.toNat]? = some y.enc := by simp [e2, hn1]; rw [show d1.length = d2.length by omega]; simp
    have he := eqs_RuleP x y
    by_cases h : x = y
    · rw [decide_eq_true h] at he
      rw [show decide (x :: r1 = y :: r2) = decide (r1 = r2) from by simp [h]]
      refine ev_loop' (W_ok 300 _ _ _ _ ?_)
      repeat' ((conv => whnf); first | refine zEqs he ?_ | refine bslP (by first | rfl | (simp [pureL, pureLL, AV.pure]; done) | fail) rfl ?_ | refine TakeC.full (by first | rfl | omega | (simp; done) | (simp; omega) | fail) ?_ | refine zBs ?_ | refine zBn ?_ | refine zBv rfl rfl ?_ | refine zN ?_ | refine zC ?_ | refine zC4 ?_ | refine zOr16 ?_ | refine zC1 ?_ | refine zByte ?_ | refine zMaxL ?_ | refine zMaxR ?_ | refine zMinL ?_ | refine zMinR ?_ | refine zShr ?_ | refine zC8 ?_ | refine zQ ?_ | refine zR ?_ | refine zS ?_ | refine zA ?_ | refine zM ?_ | refine xr rfl ?_ | refine ai rfl ?_ | refine condT ?_ | refine condF ?_ | refine condG1 ?_ | refine condG0 ?_ | refine cD ?_ | refine dD ?_ | refine cB ?_ | refine dB ?_ | refine cN ?_ | refine dN ?_ | refine cV ?_ | refine dV ?_ | refine cE ?_ | refine dE ?_ | refine condX0 ?_ | refine condX1 ?_ | refine condNot ?_ | refine condAnd ?_ | refine condOr ?_ | refine aO ?_ | refine aB ?_ | refine aR ?_ | refine aR ?_ (by simp; omega) | refine xr (by assumption) ?_ | refine ai (by assumption) ?_ | refine kV (by assumption) ?_ | refine kN (by assumption) ?_ | refine callW (by assumption) ?_ | refine condD (fun h => ?_) (fun h => ?_) | refine condB (fun h => ?_) (fun h => ?_) | refine condN (fun h => ?_) (fun h => ?_) | refine condE (fun h => ?_) (fun h => ?_) | refine condV (fun h => ?_) (fun h => ?_))
      refine ev_keep [13, 1, 0, 12] [] ?_
      exact eq_loop673 la lb hlen hl r1 (d1 ++ [x]) r2 (d2 ++ [y]) _ _ _ (n + 1) (by simp [e1]) (by simp [e2]) (by simp [hn1]) (by simp; omega)
    · rw [decide_eq_false h] at he
      rw [show decide (x :: r1 = y :: r2) = false from by simp [h]]
      refine ev_loop' (W_ok 300 _ _ _ _ ?_)
      repeat' ((conv => whnf); first | refine zEqs he ?_ | refine bslP (by first | rfl | (simp [pureL, pureLL, AV.pure]; done) | fail) rfl ?_ | refine TakeC.full (by first | rfl | omega | (simp; done) | (simp; omega) | fail) ?_ | refine zBs ?_ | refine zBn ?_ | refine zBv rfl rfl ?_ | refine zN ?_ | refine zC ?_ | refine zC4 ?_ | refine zOr16 ?_ | refine zC1 ?_ | refine zByte ?_ | refine zMaxL ?_ | refine zMaxR ?_ | refine zMinL ?_ | refine zMinR ?_ | refine zShr ?_ | refine zC8 ?_ | refine zQ ?_ | refine zR ?_ | refine zS ?_ | refine zA ?_ | refine zM ?_ | refine xr rfl ?_ | refine ai rfl ?_ | refine condT ?_ | refine condF ?_ | refine condG1 ?_ | refine condG0 ?_ | refine cD ?_ | refine dD ?_ | refine cB ?_ | refine dB ?_ | refine cN ?_ | refine dN ?_ | refine cV ?_ | refine dV ?_ | refine cE ?_ | refine dE ?_ | refine condX0 ?_ | refine condX1 ?_ | refine condNot ?_ | refine condAnd ?_ | refine condOr ?_ | refine aO ?_ | refine aB ?_ | refine aR ?_ | refine aR ?_ (by simp; omega) | refine xr (by assumption) ?_ | refine ai (by assumption) ?_ | refine kV (by assumption) ?_ | refine kN (by assumption) ?_ | refine callW (by assumption) ?_ | refine condD (fun h => ?_) (fun h => ?_) | refine condB (fun h => ?_) (fun h => ?_) | refine condN (fun h => ?_) (fun h => ?_) | refine condE (fun h => ?_) (fun h => ?_) | refine condV (fun h => ?_) (fun h => ?_))
      (first | refine fin1 ?_ | refine fin0 ?_); rfl
  | [], d1, y :: r2, d2, T, H, c, n, e1, e2, hn1, hn2 => by
    exfalso; rw [e1, e2] at hlen; simp at hlen; omega
  | x :: r1, d1, [], d2, T, H, c, n, e1, e2, hn1, hn2 => by
    exfalso; rw [e1, e2] at hlen; simp at hlen; omega
theorem eq_gives673 (la lb : List RuleP) (h1 : la.length < 2 ^ 40) (h2 : lb.length < 2 ^ 40) : Gives G 673 [.sl 5 (la.map RuleP.enc), .sl 5 (lb.map RuleP.enc)] [] ⟨.bool (decide (la = lb)), []⟩ := by
  have l1 : (la.map RuleP.enc).length = la.length := by simp
  have l2 : (lb.map RuleP.enc).length = lb.length := by simp
  by_cases hlen : la.length = lb.length
  · refine gives_code (F := f673) rfl rfl (W_ok 300 _ _ _ _ ?_)
    repeat' (first | refine stpA ?_ | (refine condS ?_ ?_ <;> intro h))
    refine ev_keep [13, 1, 0, 12] [] ?_
    rw [l1]
    exact eq_loop673 la lb hlen h1 la [] lb [] _ _ _ 0 rfl rfl rfl rfl
  · rw [show decide (la = lb) = false from by simp; intro h; exact hlen (by rw [h])]
    refine gives_code (F := f673) rfl rfl (W_ok 300 _ _ _ _ ?_)
    repeat' (first | refine stpA ?_ | (refine condS ?_ ?_ <;> intro h))
    (first | refine fin1 ?_ | refine fin0 ?_); rfl
theorem eqs_PathR (x y : PathR) : eqL [.bool, .str] x.enc y.enc = some (decide (x = y)) := by
  rcases x with ⟨a, b⟩; rcases y with ⟨a', b'⟩
  simp only [PathR.enc, eqL, scal, if_true, Option.some.injEq]
  rw [Bool.eq_iff_iff]
  simp [and_assoc]
theorem eq_loop676 (la lb : List PathR) (hlen : la.length = lb.length) (hl : la.length < 2 ^ 40) : ∀ (r1 d1 r2 d2 : List PathR) (T : List (Nat × AV)) (H : Heap) (c : Nat) (n : Int) (e1 : la = d1 ++ r1) (e2 : lb = d2 ++ r2) (hn1 : n = d1.length) (hn2 : n = d2.length),
   Ev G ⟨f676x9LH, ⟨(13, .int .i64 n) :: (1, .sl 2 (lb.map PathR.enc)) :: (0, .sl 2 (la.map PathR.enc)) :: (12, .int .i64 la.length) :: T, H, c⟩, [.t 4], 0⟩ ⟨.bool (decide (r1 = r2)), []⟩
  | [], d1, [], d2, T, H, c, n, e1, e2, hn1, hn2 => by
    have hd : la.length = d1.length := by simp [e1]
    refine ev_loop' (W_ok 300 _ _ _ _ ?_)
    repeat' (first | refine stpA ?_ | (refine condS ?_ ?_ <;> intro h))
    (first | refine fin1 ?_ | refine fin0 ?_); rfl
  | x :: r1, d1, y :: r2, d2, T, H, c, n, e1, e2, hn1, hn2 => by
    have hd : la.length = d1.length + (r1.length + 1) := by simp [e1]
    have hl1 : (la.map PathR.enc).length = la.length := by simp
    have hl2 : (lb.map PathR.enc).length = la.length := by simp [hlen]
    have hx : (la.map PathR.enc)[n.toNat]? = some x.enc := by simp [e1, hn1]
    have hy : (lb.map PathR.enc)[n.toNat]? = some y.enc := by simp [e2, hn1]; rw [show d1.length = d2.length by omega]; simp
    have he := eqs_PathR x y
    by_cases h : x = y
    · rw [decide_eq_true h] at he
      rw [show decide (x :: r1 = y :: r2) = decide (r1 = r2) from by simp [h]]
      refine ev_loop' (W_ok 300 _ _ _ _ ?_)
      repeat' ((conv => whnf); first | refine zEqs he ?_ | refine bslP (by first | rfl | (simp [pureL, pureLL, AV.pure]; done) | fail) rfl ?_ | refine TakeC.full (by first | rfl | omega | (simp; done) | (simp; omega) | fail) ?_ | refine zBs ?_ | refine zBn ?_ | refine zBv rfl rfl ?_ | refine zN ?_ | refine zC ?_ | refine zC4 ?_ | refine zOr16 ?_ | refine zC1 ?_ | refine zByte ?_ | refine zMaxL ?_ | refine zMaxR ?_ | refine zMinL ?_ | refine zMinR ?_ | refine zShr ?_ | refine zC8 ?_ | refine zQ ?_ | refine zR ?_ | refine zS ?_ | refine zA ?_ | refine zM ?_ | refine xr rfl ?_ | refine ai rfl ?_ | refine condT ?_ | refine condF ?_ | refine condG1 ?_ | refine condG0 ?_ | refine cD ?_ | refine dD ?_ | refine cB ?_ | refine dB ?_ | refine cN ?_ | refine dN ?_ | refine cV ?_ | refine dV ?_ | refine cE ?_ | refine dE ?_ | refine condX0 ?_ | refine condX1 ?_ | refine condNot ?_ | refine condAnd ?_ | refine condOr ?_ | refine aO ?_ | refine aB ?_ | refine aR ?_ | refine aR ?_ (by simp; omega) | refine xr (by assumption) ?_ | refine ai (by assumption) ?_ | refine kV (by assumption) ?_ | refine kN (by assumption) ?_ | refine callW (by assumption) ?_ | refine condD (fun h => ?_) (fun h => ?_) | refine condB (fun h => ?_) (fun h => ?_) | refine condN (fun h => ?_) (fun h => ?_) | refine condE (fun h => ?_) (fun h => ?_) | refine condV (fun h => ?_) (fun h => ?_))
      refine ev_keep [13, 1, 0, 12] [] ?_
      exact eq_loop676 la lb hlen hl r1 (d1 ++ [x]) r2 (d2 ++ [y]) _ _ _ (n + 1) (by simp [e1]) (by simp [e2]) (by simp [hn1]) (by simp; omega)
    · rw [decide_eq_false h] at he
      rw [show decide (x :: r1 = y :: r2) = false from by simp [h]]
      refine ev_loop' (W_ok 300 _ _ _ _ ?_)
      repeat' ((conv => whnf); first | refine zEqs he ?_ | refine bslP (by first | rfl | (simp [pureL, pureLL, AV.pure]; done) | fail) rfl ?_ | refine TakeC.full (by first | rfl | omega | (simp; done) | (simp; omega) | fail) ?_ | refine zBs ?_ | refine zBn ?_ | refine zBv rfl rfl ?_ | refine zN ?_ | refine zC ?_ | refine zC4 ?_ | refine zOr16 ?_ | refine zC1 ?_ | refine zByte ?_ | refine zMaxL ?_ | refine zMaxR ?_ | refine zMinL ?_ | refine zMinR ?_ | refine zShr ?_ | refine zC8 ?_ | refine zQ ?_ | refine zR ?_ | refine zS ?_ | refine zA ?_ | refine zM ?_ | refine xr rfl ?_ | refine ai rfl ?_ | refine condT ?_ | refine condF ?_ | refine condG1 ?_ | refine condG0 ?_ | refine cD ?_ | refine dD ?_ | refine cB ?_ | refine dB ?_ | refine cN ?_ | refine dN ?_ | refine cV ?_ | refine dV ?_ | refine cE ?_ | refine dE ?_ | refine condX0 ?_ | refine condX1 ?_ | refine condNot ?_ | refine condAnd ?_ | refine condOr ?_ | refine aO ?_ | refine aB ?_ | refine aR ?_ | refine aR ?_ (by simp; omega) | refine xr (by assumption) ?_ | refine ai (by assumption) ?_ | refine kV (by assumption) ?_ | refine kN (by assumption) ?_ | refine callW (by assumption) ?_ | refine condD (fun h => ?_) (fun h => ?_) | refine condB (fun h => ?_) (fun h => ?_) | refine condN (fun h => ?_) (fun h => ?_) | refine condE (fun h => ?_) (fun h => ?_) | refine condV (fun h => ?_) (fun h => ?_))
      (first | refine fin1 ?_ | refine fin0 ?_); rfl
  | [], d1, y :: r2, d2, T, H, c, n, e1, e2, hn1, hn2 => by
    exfalso; rw [e1, e2] at hlen; simp at hlen; omega
  | x :: r1, d1, [], d2, T, H, c, n, e1, e2, hn1, hn2 => by
    exfalso; rw [e1, e2] at hlen; simp at hlen; omega
theorem eq_gives676 (la lb : List PathR) (h1 : la.length < 2 ^ 40) (h2 : lb.length < 2 ^ 40) : Gives G 676 [.sl 2 (la.map PathR.enc), .sl 2 (lb.map PathR.enc)] [] ⟨.bool (decide (la = lb)), []⟩ := by
  have l1 : (la.map PathR.enc).length = la.length := by simp
  have l2 : (lb.map PathR.enc).length = lb.length := by simp
  by_cases hlen : la.length = lb.length
  · refine gives_code (F := f676) rfl rfl (W_ok 300 _ _ _ _ ?_)
    repeat' (first | refine stpA ?_ | (refine condS ?_ ?_ <;> intro h))
    refine ev_keep [13, 1, 0, 12] [] ?_
    rw [l1]
    exact eq_loop676 la lb hlen h1 la [] lb [] _ _ _ 0 rfl rfl rfl rfl
  · rw [show decide (la = lb) = false from by simp; intro h; exact hlen (by rw [h])]
    refine gives_code (F := f676) rfl rfl (W_ok 300 _ _ _ _ ?_)
    repeat' (first | refine stpA ?_ | (refine condS ?_ ?_ <;> intro h))
    (first | refine fin1 ?_ | refine fin0 ?_); rfl
theorem eqs_ComR (x y : ComR) : eqL [.bool, .int, .int] x.enc y.enc = some (decide (x = y)) := by
  rcases x with ⟨a, b, c⟩; rcases y with ⟨a', b', c'⟩
  simp only [ComR.enc, eqL, scal, if_true, Option.some.injEq]
  rw [Bool.eq_iff_iff]
  simp [and_assoc]
theorem eq_loop679 (la lb : List ComR) (hlen : la.length = lb.length) (hl : la.length < 2 ^ 40) : ∀ (r1 d1 r2 d2 : List ComR) (T : List (Nat × AV)) (H : Heap) (c : Nat) (n : Int) (e1 : la = d1 ++ r1) (e2 : lb = d2 ++ r2) (hn1 : n = d1.length) (hn2 : n = d2.length),
   Ev G ⟨f679x9LH, ⟨(13, .int .i64 n) :: (1, .sl 3 (lb.map ComR.enc)) :: (0, .sl 3 (la.map ComR.enc)) :: (12, .int .i64 la.length) :: T, H, c⟩, [.t 4], 0⟩ ⟨.bool (decide (r1 = r2)), []⟩
  | [], d1, [], d2, T, H, c, n, e1, e2, hn1, hn2 => by
    have hd : la.length = d1.length := by simp [e1]
    refine ev_loop' (W_ok 300 _ _ _ _ ?_)
    repeat' (first | refine stpA ?_ | (refine condS ?_ ?_ <;> intro h))
    (first | refine fin1 ?_ | refine fin0 ?_); rfl
  | x :: r1, d1, y :: r2, d2, T, H, c, n, e1, e2, hn1, hn2 => by
    have hd : la.length = d1.length + (r1.length + 1) := by simp [e1]
    have hl1 : (la.map ComR.enc).length = la.length := by simp
    have hl2 : (lb.map ComR.enc).length = la.length := by simp [hlen]
    have hx : (la.map ComR.enc)[n.toNat]? = some x.enc := by simp [e1, hn1]
    have hy : (lb.map ComR.enc)[n.toNat]? = some y.enc := by simp [e2, hn1]; rw [show d1.length = d2.length by omega]; simp
    have he := eqs_ComR x y
    by_cases h : x = y
    · rw [decide_eq_true h] at he
      rw [show decide (x :: r1 = y :: r2) = decide (r1 = r2) from by simp [h]]
      refine ev_loop' (W_ok 300 _ _ _ _ ?_)
      repeat' ((conv => whnf); first | refine zEqs he ?_ | refine bslP (by first | rfl | (simp [pureL, pureLL, AV.pure]; done) | fail) rfl ?_ | refine TakeC.full (by first | rfl | omega | (simp; done) | (simp; omega) | fail) ?_ | refine zBs ?_ | refine zBn ?_ | refine zBv rfl rfl ?_ | refine zN ?_ | refine zC ?_ | refine zC4 ?_ | refine zOr16 ?_ | refine zC1 ?_ | refine zByte ?_ | refine zMaxL ?_ | refine zMaxR ?_ | refine zMinL ?_ | refine zMinR ?_ | refine zShr ?_ | refine zC8 ?_ | refine zQ ?_ | refine zR ?_ | refine zS ?_ | refine zA ?_ | refine zM ?_ | refine xr rfl ?_ | refine ai rfl ?_ | refine condT ?_ | refine condF ?_ | refine condG1 ?_ | refine condG0 ?_ | refine cD ?_ | refine dD ?_ | refine cB ?_ | refine dB ?_ | refine cN ?_ | refine dN ?_ | refine cV ?_ | refine dV ?_ | refine cE ?_ | refine dE ?_ | refine condX0 ?_ | refine condX1 ?_ | refine condNot ?_ | refine condAnd ?_ | refine condOr ?_ | refine aO ?_ | refine aB ?_ | refine aR ?_ | refine aR ?_ (by simp; omega) | refine xr (by assumption) ?_ | refine ai (by assumption) ?_ | refine kV (by assumption) ?_ | refine kN (by assumption) ?_ | refine callW (by assumption) ?_ | refine condD (fun h => ?_) (fun h => ?_) | refine condB (fun h => ?_) (fun h => ?_) | refine condN (fun h => ?_) (fun h => ?_) | refine condE (fun h => ?_) (fun h => ?_) | refine condV (fun h => ?_) (fun h => ?_))
      refine ev_keep [13, 1, 0, 12] [] ?_
      exact eq_loop679 la lb hlen hl r1 (d1 ++ [x]) r2 (d2 ++ [y]) _ _ _ (n + 1) (by simp [e1]) (by simp [e2]) (by simp [hn1]) (by simp; omega)
    · rw [decide_eq_false h] at he
      rw [show decide (x :: r1 = y :: r2) = false from by simp [h]]
      refine ev_loop' (W_ok 300 _ _ _ _ ?_)
      repeat' ((conv => whnf); first | refine zEqs he ?_ | refine bslP (by first | rfl | (simp [pureL, pureLL, AV.pure]; done) | fail) rfl ?_ | refine TakeC.full (by first | rfl | omega | (simp; done) | (simp; omega) | fail) ?_ | refine zBs ?_ | refine zBn ?_ | refine zBv rfl rfl ?_ | refine zN ?_ | refine zC ?_ | refine zC4 ?_ | refine zOr16 ?_ | refine zC1 ?_ | refine zByte ?_ | refine zMaxL ?_ | refine zMaxR ?_ | refine zMinL ?_ | refine zMinR ?_ | refine zShr ?_ | refine zC8 ?_ | refine zQ ?_ | refine zR ?_ | refine zS ?_ | refine zA ?_ | refine zM ?_ | refine xr rfl ?_ | refine ai rfl ?_ | refine condT ?_ | refine condF ?_ | refine condG1 ?_ | refine condG0 ?_ | refine cD ?_ | refine dD ?_ | refine cB ?_ | refine dB ?_ | refine cN ?_ | refine dN ?_ | refine cV ?_ | refine dV ?_ | refine cE ?_ | refine dE ?_ | refine condX0 ?_ | refine condX1 ?_ | refine condNot ?_ | refine condAnd ?_ | refine condOr ?_ | refine aO ?_ | refine aB ?_ | refine aR ?_ | refine aR ?_ (by simp; omega) | refine xr (by assumption) ?_ | refine ai (by assumption) ?_ | refine kV (by assumption) ?_ | refine kN (by assumption) ?_ | refine callW (by assumption) ?_ | refine condD (fun h => ?_) (fun h => ?_) | refine condB (fun h => ?_) (fun h => ?_) | refine condN (fun h => ?_) (fun h => ?_) | refine condE (fun h => ?_) (fun h => ?_) | refine condV (fun h => ?_) (fun h => ?_))
      (first | refine fin1 ?_ | refine fin0 ?_); rfl
  | [], d1, y :: r2, d2, T, H, c, n, e1, e2, hn1, hn2 => by
    exfalso; rw [e1, e2] at hlen; simp at hlen; omega
  | x :: r1, d1, [], d2, T, H, c, n, e1, e2, hn1, hn2 => by
    exfalso; rw [e1, e2] at hlen; simp at hlen; omega
theorem eq_gives679 (la lb : List ComR) (h1 : la.length < 2 ^ 40) (h2 : lb.length < 2 ^ 40) : Gives G 679 [.sl 3 (la.map ComR.enc), .sl 3 (lb.map ComR.enc)] [] ⟨.bool (decide (la = lb)), []⟩ := by
  have l1 : (la.map ComR.enc).length = la.length := by simp
  have l2 : (lb.map ComR.enc).length = lb.length := by simp
  by_cases hlen : la.length = lb.length
  · refine gives_code (F := f679) rfl rfl (W_ok 300 _ _ _ _ ?_)
    repeat' (first | refine stpA ?_ | (refine condS ?_ ?_ <;> intro h))
    refine ev_keep [13, 1, 0, 12] [] ?_
    rw [l1]
    exact eq_loop679 la lb hlen h1 la [] lb [] _ _ _ 0 rfl rfl rfl rfl
  · rw [show decide (la = lb) = false from by simp; intro h; exact hlen (by rw [h])]
    refine gives_code (F := f679) rfl rfl (W_ok 300 _ _ _ _ ?_)
    repeat' (first | refine stpA ?_ | (refine condS ?_ ?_ <;> intro h))
    (first | refine fin1 ?_ | refine fin0 ?_); rfl
theorem eqs_Mat (x y : Mat) : eqL [.int, .str, .int, .int, .int, .bool] x.enc y.enc = some (decide (x = y)) := by
  rcases x with ⟨a, b, c, ⟨p, q⟩, d⟩; rcases y with ⟨a', b', c', ⟨p', q'⟩, d'⟩
  simp only [Mat.enc, eqL, scal, if_true, Option.some.injEq]
  rw [Bool.eq_iff_iff]
  simp [and_assoc]
theorem eq_loop684 (la lb : List Mat) (hlen : la.length = lb.length) (hl : la.length < 2 ^ 40) : ∀ (r1 d1 r2 d2 : List Mat) (T : List (Nat × AV)) (H : Heap) (c : Nat) (n : Int) (e1 : la = d1 ++ r1) (e2 : lb = d2 ++ r2) (hn1 : n = d1.length) (hn2 : n = d2.length),
   Ev G ⟨f684x9LH, ⟨(13, .int .i64 n) :: (1, .sl 6 (lb.map Mat.enc)) :: (0, .sl 6 (la.map Mat.enc)) :: (12, .int .i64 la.length) :: T, H, c⟩, [.t 4], 0⟩ ⟨.bool (decide (r1 = r2)), []⟩
  | [], d1, [], d2, T, H, c, n, e1, e2, hn1, hn2 => by
    have hd : la.length = d1.length := by simp [e1]
    refine ev_loop' (W_ok 300 _ _ _ _ ?_)
    repeat' (first | refine stpA ?_ | (refine condS ?_ ?_ <;> intro h))
    (first | refine fin1 ?_ | refine fin0 ?_); rfl
  | x :: r1, d1, y :: r2, d2, T, H, c, n, e1, e2, hn1, hn2 => by
    have hd : la.length = d1.length + (r1.length + 1) := by simp [e1]
    have hl1 : (la.map Mat.enc).length = la.length := by simp
    have hl2 : (lb.map Mat.enc).length = la.length := by simp [hlen]
    have hx : (la.map Mat.enc)[n.toNat]? = some x.enc := by simp [e1, hn1]
    have hy : (lb.map Mat.enc)[n.toNat]? = some y.enc := by simp [e2, hn1]; rw [show d1.length = d2.length by omega]; simp
    have he := eqs_Mat x y
    by_cases h : x = y
    · rw [decide_eq_true h] at he
      rw [show decide (x :: r1 = y :: r2) = decide (r1 = r2) from by simp [h]]
      refine ev_loop' (W_ok 300 _ _ _ _ ?_)
      repeat' ((conv => whnf); first | refine zEqs he ?_ | refine bslP (by first | rfl | (simp [pureL, pureLL, AV.pure]; done) | fail) rfl ?_ | refine TakeC.full (by first | rfl | omega | (simp; done) | (simp; omega) | fail) ?_ | refine zBs ?_ | refine zBn ?_ | refine zBv rfl rfl ?_ | refine zN ?_ | refine zC ?_ | refine zC4 ?_ | refine zOr16 ?_ | refine zC1 ?_ | refine zByte ?_ | refine zMaxL ?_ | refine zMaxR ?_ | refine zMinL ?_ | refine zMinR ?_ | refine zShr ?_ | refine zC8 ?_ | refine zQ ?_ | refine zR ?_ | refine zS ?_ | refine zA ?_ | refine zM ?_ | refine xr rfl ?_ | refine ai rfl ?_ | refine condT ?_ | refine condF ?_ | refine condG1 ?_ | refine condG0 ?_ | refine cD ?_ | refine dD ?_ | refine cB ?_ | refine dB ?_ | refine cN ?_ | refine dN ?_ | refine cV ?_ | refine dV ?_ | refine cE ?_ | refine dE ?_ | refine condX0 ?_ | refine condX1 ?_ | refine condNot ?_ | refine condAnd ?_ | refine condOr ?_ | refine aO ?_ | refine aB ?_ | refine aR ?_ | refine aR ?_ (by simp; omega) | refine xr (by assumption) ?_ | refine ai (by assumption) ?_ | refine kV (by assumption) ?_ | refine kN (by assumption) ?_ | refine callW (by assumption) ?_ | refine condD (fun h => ?_) (fun h => ?_) | refine condB (fun h => ?_) (fun h => ?_) | refine condN (fun h => ?_) (fun h => ?_) | refine condE (fun h => ?_) (fun h => ?_) | refine condV (fun h => ?_) (fun h => ?_))
      refine ev_keep [13, 1, 0, 12] [] ?_
      exact eq_loop684 la lb hlen hl r1 (d1 ++ [x]) r2 (d2 ++ [y]) _ _ _ (n + 1) (by simp [e1]) (by simp [e2]) (by simp [hn1]) (by simp; omega)
    · rw [decide_eq_false h] at he
      rw [show decide (x :: r1 = y :: r2) = false from by simp [h]]
      refine ev_loop' (W_ok 300 _ _ _ _ ?_)
      repeat' ((conv => whnf); first | refine zEqs he ?_ | refine bslP (by first | rfl | (simp [pureL, pureLL, AV.pure]; done) | fail) rfl ?_ | refine TakeC.full (by first | rfl | omega | (simp; done) | (simp; omega) | fail) ?_ | refine zBs ?_ | refine zBn ?_ | refine zBv rfl rfl ?_ | refine zN ?_ | refine zC ?_ | refine zC4 ?_ | refine zOr16 ?_ | refine zC1 ?_ | refine zByte ?_ | refine zMaxL ?_ | refine zMaxR ?_ | refine zMinL ?_ | refine zMinR ?_ | refine zShr ?_ | refine zC8 ?_ | refine zQ ?_ | refine zR ?_ | refine zS ?_ | refine zA ?_ | refine zM ?_ | refine xr rfl ?_ | refine ai rfl ?_ | refine condT ?_ | refine condF ?_ | refine condG1 ?_ | refine condG0 ?_ | refine cD ?_ | refine dD ?_ | refine cB ?_ | refine dB ?_ | refine cN ?_ | refine dN ?_ | refine cV ?_ | refine dV ?_ | refine cE ?_ | refine dE ?_ | refine condX0 ?_ | refine condX1 ?_ | refine condNot ?_ | refine condAnd ?_ | refine condOr ?_ | refine aO ?_ | refine aB ?_ | refine aR ?_ | refine aR ?_ (by simp; omega) | refine xr (by assumption) ?_ | refine ai (by assumption) ?_ | refine kV (by assumption) ?_ | refine kN (by assumption) ?_ | refine callW (by assumption) ?_ | refine condD (fun h => ?_) (fun h => ?_) | refine condB (fun h => ?_) (fun h => ?_) | refine condN (fun h => ?_) (fun h => ?_) | refine condE (fun h => ?_) (fun h => ?_) | refine condV (fun h => ?_) (fun h => ?_))
      (first | refine fin1 ?_ | refine fin0 ?_); rfl
  | [], d1, y :: r2, d2, T, H, c, n, e1, e2, hn1, hn2 => by
    exfalso; rw [e1, e2] at hlen; simp at hlen; omega
  | x :: r1, d1, [], d2, T, H, c, n, e1, e2, hn1, hn2 => by
    exfalso; rw [e1, e2] at hlen; simp at hlen; omega
theorem eq_gives684 (la lb : List Mat) (h1 : la.length < 2 ^ 40) (h2 : lb.length < 2 ^ 40) : Gives G 684 [.sl 6 (la.map Mat.enc), .sl 6 (lb.map Mat.enc)] [] ⟨.bool (decide (la = lb)), []⟩ := by
  have l1 : (la.map Mat.enc).length = la.length := by simp
  have l2 : (lb.map Mat.enc).length = lb.length := by simp
  by_cases hlen : la.length = lb.length
  · refine gives_code (F := f684) rfl rfl (W_ok 300 _ _ _ _ ?_)
    repeat' (first | refine stpA ?_ | (refine condS ?_ ?_ <;> intro h))
    refine ev_keep [13, 1, 0, 12] [] ?_
    rw [l1]
    exact eq_loop684 la lb hlen h1 la [] lb [] _ _ _ 0 rfl rfl rfl rfl
  · rw [show decide (la = lb) = false from by simp; intro h; exact hlen (by rw [h])]
    refine gives_code (F := f684) rfl rfl (W_ok 300 _ _ _ _ ?_)
    repeat' (first | refine stpA ?_ | (refine condS ?_ ?_ <;> intro h))
    (first | refine fin1 ?_ | refine fin0 ?_); rfl
theorem eqs_Actn (x y : Actn) : eqL [.int, .int, .int, .int, .int] x.enc y.enc = some (decide (x = y)) := by
  rcases x with ⟨a, b, c, d, e⟩; rcases y with ⟨a', b', c', d', e'⟩
  simp only [Actn.enc, eqL, scal, if_true, Option.some.injEq]
  rw [Bool.eq_iff_iff]
  simp [and_assoc]
theorem eq_loop685 (la lb : List Actn) (hlen : la.length = lb.length) (hl : la.length < 2 ^ 40) : ∀ (r1 d1 r2 d2 : List Actn) (T : List (Nat × AV)) (H : Heap) (c : Nat) (n : Int) (e1 : la = d1 ++ r1) (e2 : lb = d2 ++ r2) (hn1 : n = d1.length) (hn2 : n = d2.length),
   Ev G ⟨f685x9LH, ⟨(13, .int .i64 n) :: (1, .sl 5 (lb.map Actn.enc)) :: (0, .sl 5 (la.map Actn.enc)) :: (12, .int .i64 la.length) :: T, H, c⟩, [.t 4], 0⟩ ⟨.bool (decide (r1 = r2)), []⟩
  | [], d1, [], d2, T, H, c, n, e1, e2, hn1, hn2 => by
    have hd : la.length = d1.length := by simp [e1]
    refine ev_loop' (W_ok 300 _ _ _ _ ?_)
    repeat' (first | refine stpA ?_ | (refine condS ?_ ?_ <;> intro h))
    (first | refine fin1 ?_ | refine fin0 ?_); rfl
  | x :: r1, d1, y :: r2, d2, T, H, c, n, e1, e2, hn1, hn2 => by
    have hd : la.length = d1.length + (r1.length + 1) := by simp [e1]
    have hl1 : (la.map Actn.enc).length = la.length := by simp
    have hl2 : (lb.map Actn.enc).length = la.length := by simp [hlen]
    have hx : (la.map Actn.enc)[n.toNat]? = some x.enc := by simp [e1, hn1]
    have hy : (lb.map Actn.enc)[n.toNat]? = some y.enc := by simp [e2, hn1]; rw [show d1.length = d2.length by omega]; simp
    have he := eqs_Actn x y
    by_cases h : x = y
    · rw [decide_eq_true h] at he
      rw [show decide (x :: r1 = y :: r2) = decide (r1 = r2) from by simp [h]]
      refine ev_loop' (W_ok 300 _ _ _ _ ?_)
      repeat' ((conv => whnf); first | refine zEqs he ?_ | refine bslP (by first | rfl | (simp [pureL, pureLL, AV.pure]; done) | fail) rfl ?_ | refine TakeC.full (by first | rfl | omega | (simp; done) | (simp; omega) | fail) ?_ | refine zBs ?_ | refine zBn ?_ | refine zBv rfl rfl ?_ | refine zN ?_ | refine zC ?_ | refine zC4 ?_ | refine zOr16 ?_ | refine zC1 ?_ | refine zByte ?_ | refine zMaxL ?_ | refine zMaxR ?_ | refine zMinL ?_ | refine zMinR ?_ | refine zShr ?_ | refine zC8 ?_ | refine zQ ?_ | refine zR ?_ | refine zS ?_ | refine zA ?_ | refine zM ?_ | refine xr rfl ?_ | refine ai rfl ?_ | refine condT ?_ | refine condF ?_ | refine condG1 ?_ | refine condG0 ?_ | refine cD ?_ | refine dD ?_ | refine cB ?_ | refine dB ?_ | refine cN ?_ | refine dN ?_ | refine cV ?_ | refine dV ?_ | refine cE ?_ | refine dE ?_ | refine condX0 ?_ | refine condX1 ?_ | refine condNot ?_ | refine condAnd ?_ | refine condOr ?_ | refine aO ?_ | refine aB ?_ | refine aR ?_ | refine aR ?_ (by simp; omega) | refine xr (by assumption) ?_ | refine ai (by assumption) ?_ | refine kV (by assumption) ?_ | refine kN (by assumption) ?_ | refine callW (by assumption) ?_ | refine condD (fun h => ?_) (fun h => ?_) | refine condB (fun h => ?_) (fun h => ?_) | refine condN (fun h => ?_) (fun h => ?_) | refine condE (fun h => ?_) (fun h => ?_) | refine condV (fun h => ?_) (fun h => ?_))
      refine ev_keep [13, 1, 0, 12] [] ?_
      exact eq_loop685 la lb hlen hl r1 (d1 ++ [x]) r2 (d2 ++ [y]) _ _ _ (n + 1) (by simp [e1]) (by simp [e2]) (by simp [hn1]) (by simp; omega)
    · rw [decide_eq_false h] at he
      rw [show decide (x :: r1 = y :: r2) = false from by simp [h]]
      refine ev_loop' (W_ok 300 _ _ _ _ ?_)
      repeat' ((conv => whnf); first | refine zEqs he ?_ | refine bslP (by first | rfl | (simp [pureL, pureLL, AV.pure]; done) | fail) rfl ?_ | refine TakeC.full (by first | rfl | omega | (simp; done) | (simp; omega) | fail) ?_ | refine zBs ?_ | refine zBn ?_ | refine zBv rfl rfl ?_ | refine zN ?_ | refine zC ?_ | refine zC4 ?_ | refine zOr16 ?_ | refine zC1 ?_ | refine zByte ?_ | refine zMaxL ?_ | refine zMaxR ?_ | refine zMinL ?_ | refine zMinR ?_ | refine zShr ?_ | refine zC8 ?_ | refine zQ ?_ | refine zR ?_ | refine zS ?_ | refine zA ?_ | refine zM ?_ | refine xr rfl ?_ | refine ai rfl ?_ | refine condT ?_ | refine condF ?_ | refine condG1 ?_ | refine condG0 ?_ | refine cD ?_ | refine dD ?_ | refine cB ?_ | refine dB ?_ | refine cN ?_ | refine dN ?_ | refine cV ?_ | refine dV ?_ | refine cE ?_ | refine dE ?_ | refine condX0 ?_ | refine condX1 ?_ | refine condNot ?_ | refine condAnd ?_ | refine condOr ?_ | refine aO ?_ | refine aB ?_ | refine aR ?_ | refine aR ?_ (by simp; omega) | refine xr (by assumption) ?_ | refine ai (by assumption) ?_ | refine kV (by assumption) ?_ | refine kN (by assumption) ?_ | refine callW (by assumption) ?_ | refine condD (fun h => ?_) (fun h => ?_) | refine condB (fun h => ?_) (fun h => ?_) | refine condN (fun h => ?_) (fun h => ?_) | refine condE (fun h => ?_) (fun h => ?_) | refine condV (fun h => ?_) (fun h => ?_))
      (first | refine fin1 ?_ | refine fin0 ?_); rfl
  | [], d1, y :: r2, d2, T, H, c, n, e1, e2, hn1, hn2 => by
    exfalso; rw [e1, e2] at hlen; simp at hlen; omega
  | x :: r1, d1, [], d2, T, H, c, n, e1, e2, hn1, hn2 => by
    exfalso; rw [e1, e2] at hlen; simp at hlen; omega
theorem eq_gives685 (la lb : List Actn) (h1 : la.length < 2 ^ 40) (h2 : lb.length < 2 ^ 40) : Gives G 685 [.sl 5 (la.map Actn.enc), .sl 5 (lb.map Actn.enc)] [] ⟨.bool (decide (la = lb)), []⟩ := by
  have l1 : (la.map Actn.enc).length = la.length := by simp
  have l2 : (lb.map Actn.enc).length = lb.length := by simp
  by_cases hlen : la.length = lb.length
  · refine gives_code (F := f685) rfl rfl (W_ok 300 _ _ _ _ ?_)
    repeat' (first | refine stpA ?_ | (refine condS ?_ ?_ <;> intro h))
    refine ev_keep [13, 1, 0, 12] [] ?_
    rw [l1]
    exact eq_loop685 la lb hlen h1 la [] lb [] _ _ _ 0 rfl rfl rfl rfl
  · rw [show decide (la = lb) = false from by simp; intro h; exact hlen (by rw [h])]
    refine gives_code (F := f685) rfl rfl (W_ok 300 _ _ _ _ ?_)
    repeat' (first | refine stpA ?_ | (refine condS ?_ ?_ <;> intro h))
    (first | refine fin1 ?_ | refine fin0 ?_); rfl
theorem clo_gives672 (x y : PList) (hx : x.rules.length < 2 ^ 40) (hy : y.rules.length < 2 ^ 40) : Gives G 672 [.agg x.enc, .agg y.enc] [] ⟨.bool (decide (x = y)), []⟩ := by
  have h1 := eq_gives673 x.rules y.rules hx hy
  by_cases hn : x.name = y.name
  · rw [show decide (x = y) = decide (x.rules = y.rules) from by cases x; cases y; simp_all]
    refine gives_code (F := f672) rfl rfl (W_ok 300 _ _ _ _ ?_)
    repeat' ((conv => whnf); first | refine zSeqT hn ?_ | refine bslP (by first | rfl | (simp [pureL, pureLL, AV.pure]; done) | fail) rfl ?_ | refine TakeC.full (by first | rfl | omega | (simp; done) | (simp; omega) | fail) ?_ | refine zBs ?_ | refine zBn ?_ | refine zBv rfl rfl ?_ | refine zN ?_ | refine zC ?_ | refine zC4 ?_ | refine zOr16 ?_ | refine zC1 ?_ | refine zByte ?_ | refine zMaxL ?_ | refine zMaxR ?_ | refine zMinL ?_ | refine zMinR ?_ | refine zShr ?_ | refine zC8 ?_ | refine zQ ?_ | refine zR ?_ | refine zS ?_ | refine zA ?_ | refine zM ?_ | refine xr rfl ?_ | refine ai rfl ?_ | refine condT ?_ | refine condF ?_ | refine condG1 ?_ | refine condG0 ?_ | refine cD ?_ | refine dD ?_ | refine cB ?_ | refine dB ?_ | refine cN ?_ | refine dN ?_ | refine cV ?_ | refine dV ?_ | refine cE ?_ | refine dE ?_ | refine condX0 ?_ | refine condX1 ?_ | refine condNot ?_ | refine condAnd ?_ | refine condOr ?_ | refine aO ?_ | refine aB ?_ | refine aR ?_ | refine aR ?_ (by simp; omega) | refine xr (by assumption) ?_ | refine ai (by assumption) ?_ | refine kV (by assumption) ?_ | refine kN (by assumption) ?_ | refine callW (by assumption) ?_ | refine condD (fun h => ?_) (fun h => ?_) | refine condB (fun h => ?_) (fun h => ?_) | refine condN (fun h => ?_) (fun h => ?_) | refine condE (fun h => ?_) (fun h => ?_) | refine condV (fun h => ?_) (fun h => ?_))
    (first | refine fin1 ?_ | refine fin0 ?_); rfl
  · rw [show decide (x = y) = false from by cases x; cases y; simp_all]
    refine gives_code (F := f672) rfl rfl (W_ok 300 _ _ _ _ ?_)
    repeat' ((conv => whnf); first | refine zSeqF hn ?_ | refine bslP (by first | rfl | (simp [pureL, pureLL, AV.pure]; done) | fail) rfl ?_ | refine TakeC.full (by first | rfl | omega | (simp; done) | (simp; omega) | fail) ?_ | refine zBs ?_ | refine zBn ?_ | refine zBv rfl rfl ?_ | refine zN ?_ | refine zC ?_ | refine zC4 ?_ | refine zOr16 ?_ | refine zC1 ?_ | refine zByte ?_ | refine zMaxL ?_ | refine zMaxR ?_ | refine zMinL ?_ | refine zMinR ?_ | refine zShr ?_ | refine zC8 ?_ | refine zQ ?_ | refine zR ?_ | refine zS ?_ | refine zA ?_ | refine zM ?_ | refine xr rfl ?_ | refine ai rfl ?_ | refine condT ?_ | refine condF ?_ | refine condG1 ?_ | refine condG0 ?_ | refine cD ?_ | refine dD ?_ | refine cB ?_ | refine dB ?_ | refine cN ?_ | refine dN ?_ | refine cV ?_ | refine dV ?_ | refine cE ?_ | refine dE ?_ | refine condX0 ?_ | refine condX1 ?_ | refine condNot ?_ | refine condAnd ?_ | refine condOr ?_ | refine aO ?_ | refine aB ?_ | refine aR ?_ | refine aR ?_ (by simp; omega) | refine xr (by assumption) ?_ | refine ai (by assumption) ?_ | refine kV (by assumption) ?_ | refine kN (by assumption) ?_ | refine callW (by assumption) ?_ | refine condD (fun h => ?_) (fun h => ?_) | refine condB (fun h => ?_) (fun h => ?_) | refine condN (fun h => ?_) (fun h => ?_) | refine condE (fun h => ?_) (fun h => ?_) | refine condV (fun h => ?_) (fun h => ?_))
    (first | refine fin1 ?_ | refine fin0 ?_); rfl
theorem by_loop671 (la lb : List PList) (hlen : la.length = lb.length) (hl : la.length < 2 ^ 40) (hs : ∀ x ∈ la, x.rules.length < 2 ^ 40) (hs2 : ∀ x ∈ lb, x.rules.length < 2 ^ 40) : ∀ (r1 d1 r2 d2 : List PList) (T : List (Nat × AV)) (H : Heap) (c : Nat) (n : Int) (e1 : la = d1 ++ r1) (e2 : lb = d2 ++ r2) (hn1 : n = d1.length) (hn2 : n = d2.length),
   Ev G ⟨f671x9LH, ⟨(15, .int .i64 n) :: (1, .sl 2 (lb.map PList.enc)) :: (0, .sl 2 (la.map PList.enc)) :: (2, .fn 672 []) :: (14, .int .i64 la.length) :: T, H, c⟩, [.t 6], 0⟩ ⟨.bool (decide (r1 = r2)), []⟩
  | [], d1, [], d2, T, H, c, n, e1, e2, hn1, hn2 => by
    have hd : la.length = d1.length := by simp [e1]
    refine ev_loop' (W_ok 300 _ _ _ _ ?_)
    repeat' (first | refine stpA ?_ | (refine condS ?_ ?_ <;> intro h))
    (first | refine fin1 ?_ | refine fin0 ?_); rfl
  | x :: r1, d1, y :: r2, d2, T, H, c, n, e1, e2, hn1, hn2 => by
    have hd : la.length = d1.length + (r1.length + 1) := by simp [e1]
    have hl1 : (la.map PList.enc).length = la.length := by simp
    have hl2 : (lb.map PList.enc).length = la.length := by simp [hlen]
    have hx : (la.map PList.enc)[n.toNat]? = some x.enc := by simp [e1, hn1]
    have hy : (lb.map PList.enc)[n.toNat]? = some y.enc := by simp [e2, hn1]; rw [show d1.length = d2.length by omega]; simp
    have he := clo_gives672 x y (hs x (by simp [e1])) (hs2 y (by simp [e2]))
    by_cases h : x = y
    · rw [decide_eq_true h] at he
      rw [show decide (x :: r1 = y :: r2) = decide (r1 = r2) from by simp [h]]
      refine ev_loop' (W_ok 300 _ _ _ _ ?_)
      repeat' (first | refine stpA ?_ | (refine condS ?_ ?_ <;> intro h))
      refine ev_keep [15, 1, 0, 2, 14] [] ?_
      exact by_loop671 la lb hlen hl hs hs2 r1 (d1 ++ [x]) r2 (d2 ++ [y]) _ _ _ (n + 1) (by simp [e1]) (by simp [e2]) (by simp [hn1]) (by simp; omega)
    · rw [decide_eq_false h] at he
      rw [show decide (x :: r1 = y :: r2) = false from by simp [h]]
      refine ev_loop' (W_ok 300 _ _ _ _ ?_)
      repeat' (first | refine stpA ?_ | (refine condS ?_ ?_ <;> intro h))
      (first | refine fin1 ?_ | refine fin0 ?_); rfl
  | [], d1, y :: r2, d2, T, H, c, n, e1, e2, hn1, hn2 => by
    exfalso; rw [e1, e2] at hlen; simp at hlen; omega
  | x :: r1, d1, [], d2, T, H, c, n, e1, e2, hn1, hn2 => by
    exfalso; rw [e1, e2] at hlen; simp at hlen; omega
theorem by_gives671 (la lb : List PList) (h1 : la.length < 2 ^ 40) (h2 : lb.length < 2 ^ 40) (hs : ∀ x ∈ la, x.rules.length < 2 ^ 40) (hs2 : ∀ x ∈ lb, x.rules.length < 2 ^ 40) : Gives G 671 [.sl 2 (la.map PList.enc), .sl 2 (lb.map PList.enc), .fn 672 []] [] ⟨.bool (decide (la = lb)), []⟩ := by
  have l1 : (la.map PList.enc).length = la.length := by simp
  have l2 : (lb.map PList.enc).length = lb.length := by simp
  by_cases hlen : la.length = lb.length
  · refine gives_code (F := f671) rfl rfl (W_ok 300 _ _ _ _ ?_)
    repeat' (first | refine stpA ?_ | (refine condS ?_ ?_ <;> intro h))
    refine ev_keep [15, 1, 0, 2, 14] [] ?_
    rw [l1]
    exact by_loop671 la lb hlen h1 hs hs2 la [] lb [] _ _ _ 0 rfl rfl rfl rfl
  · rw [show decide (la = lb) = false from by simp; intro h; exact hlen (by rw [h])]
    refine gives_code (F := f671) rfl rfl (W_ok 300 _ _ _ _ ?_)
    repeat' (first | refine stpA ?_ | (refine condS ?_ ?_ <;> intro h))
    (first | refine fin1 ?_ | refine fin0 ?_); rfl
theorem clo_gives675 (x y : PathL) (hx : x.rules.length < 2 ^ 40) (hy : y.rules.length < 2 ^ 40) : Gives G 675 [.agg x.enc, .agg y.enc] [] ⟨.bool (decide (x = y)), []⟩ := by
  have h1 := eq_gives676 x.rules y.rules hx hy
  by_cases hn : x.name = y.name
  · rw [show decide (x = y) = decide (x.rules = y.rules) from by cases x; cases y; simp_all]
    refine gives_code (F := f675) rfl rfl (W_ok 300 _ _ _ _ ?_)
    repeat' ((conv => whnf); first | refine zSeqT hn ?_ | refine bslP (by first | rfl | (simp [pureL, pureLL, AV.pure]; done) | fail) rfl ?_ | refine TakeC.full (by first | rfl | omega | (simp; done) | (simp; omega) | fail) ?_ | refine zBs ?_ | refine zBn ?_ | refine zBv rfl rfl ?_ | refine zN ?_ | refine zC ?_ | refine zC4 ?_ | refine zOr16 ?_ | refine zC1 ?_ | refine zByte ?_ | refine zMaxL ?_ | refine zMaxR ?_ | refine zMinL ?_ | refine zMinR ?_ | refine zShr ?_ | refine zC8 ?_ | refine zQ ?_ | refine zR ?_ | refine zS ?_ | refine zA ?_ | refine zM ?_ | refine xr rfl ?_ | refine ai rfl ?_ | refine condT ?_ | refine condF ?_ | refine condG1 ?_ | refine condG0 ?_ | refine cD ?_ | refine dD ?_ | refine cB ?_ | refine dB ?_ | refine cN ?_ | refine dN ?_ | refine cV ?_ | refine dV ?_ | refine cE ?_ | refine dE ?_ | refine condX0 ?_ | refine condX1 ?_ | refine condNot ?_ | refine condAnd ?_ | refine condOr ?_ | refine aO ?_ | refine aB ?_ | refine aR ?_ | refine aR ?_ (by simp; omega) | refine xr (by assumption) ?_ | refine ai (by assumption) ?_ | refine kV (by assumption) ?_ | refine kN (by assumption) ?_ | refine callW (by assumption) ?_ | refine condD (fun h => ?_) (fun h => ?_) | refine condB (fun h => ?_) (fun h => ?_) | refine condN (fun h => ?_) (fun h => ?_) | refine condE (fun h => ?_) (fun h => ?_) | refine condV (fun h => ?_) (fun h => ?_))
    (first | refine fin1 ?_ | refine fin0 ?_); rfl
  · rw [show decide (x = y) = false from by cases x; cases y; simp_all]
    refine gives_code (F := f675) rfl rfl (W_ok 300 _ _ _ _ ?_)
    repeat' ((conv => whnf); first | refine zSeqF hn ?_ | refine bslP (by first | rfl | (simp [pureL, pureLL, AV.pure]; done) | fail) rfl ?_ | refine TakeC.full (by first | rfl | omega | (simp; done) | (simp; omega) | fail) ?_ | refine zBs ?_ | refine zBn ?_ | refine zBv rfl rfl ?_ | refine zN ?_ | refine zC ?_ | refine zC4 ?_ | refine zOr16 ?_ | refine zC1 ?_ | refine zByte ?_ | refine zMaxL ?_ | refine zMaxR ?_ | refine zMinL ?_ | refine zMinR ?_ | refine zShr ?_ | refine zC8 ?_ | refine zQ ?_ | refine zR ?_ | refine zS ?_ | refine zA ?_ | refine zM ?_ | refine xr rfl ?_ | refine ai rfl ?_ | refine condT ?_ | refine condF ?_ | refine condG1 ?_ | refine condG0 ?_ | refine cD ?_ | refine dD ?_ | refine cB ?_ | refine dB ?_ | refine cN ?_ | refine dN ?_ | refine cV ?_ | refine dV ?_ | refine cE ?_ | refine dE ?_ | refine condX0 ?_ | refine condX1 ?_ | refine condNot ?_ | refine condAnd ?_ | refine condOr ?_ | refine aO ?_ | refine aB ?_ | refine aR ?_ | refine aR ?_ (by simp; omega) | refine xr (by assumption) ?_ | refine ai (by assumption) ?_ | refine kV (by assumption) ?_ | refine kN (by assumption) ?_ | refine callW (by assumption) ?_ | refine condD (fun h => ?_) (fun h => ?_) | refine condB (fun h => ?_) (fun h => ?_) | refine condN (fun h => ?_) (fun h => ?_) | refine condE (fun h => ?_) (fun h => ?_) | refine condV (fun h => ?_) (fun h => ?_))
    (first | refine fin1 ?_ | refine fin0 ?_); rfl
theorem by_loop674 (la lb : List PathL) (hlen : la.length = lb.length) (hl : la.length < 2 ^ 40) (hs : ∀ x ∈ la, x.rules.length < 2 ^ 40) (hs2 : ∀ x ∈ lb, x.rules.length < 2 ^ 40) : ∀ (r1 d1 r2 d2 : List PathL) (T : List (Nat × AV)) (H : Heap) (c : Nat) (n : Int) (e1 : la = d1 ++ r1) (e2 : lb = d2 ++ r2) (hn1 : n = d1.length) (hn2 : n = d2.length),
   Ev G ⟨f674x9LH, ⟨(15, .int .i64 n) :: (1, .sl 2 (lb.map PathL.enc)) :: (0, .sl 2 (la.map PathL.enc)) :: (2, .fn 675 []) :: (14, .int .i64 la.length) :: T, H, c⟩, [.t 6], 0⟩ ⟨.bool (decide (r1 = r2)), []⟩
  | [], d1, [], d2, T, H, c, n, e1, e2, hn1, hn2 => by
    have hd : la.length = d1.length := by simp [e1]
    refine ev_loop' (W_ok 300 _ _ _ _ ?_)
    repeat' (first | refine stpA ?_ | (refine condS ?_ ?_ <;> intro h))
    (first | refine fin1 ?_ | refine fin0 ?_); rfl
  | x :: r1, d1, y :: r2, d2, T, H, c, n, e1, e2, hn1, hn2 => by
    have hd : la.length = d1.length + (r1.length + 1) := by simp [e1]
    have hl1 : (la.map PathL.enc).length = la.length := by simp
    have hl2 : (lb.map PathL.enc).length = la.length := by simp [hlen]
    have hx : (la.map PathL.enc)[n.toNat]? = some x.enc := by simp [e1, hn1]
    have hy : (lb.map PathL.enc)[n.toNat]? = some y.enc := by simp [e2, hn1]; rw [show d1.length = d2.length by omega]; simp
    have he := clo_gives675 x y (hs x (by simp [e1])) (hs2 y (by simp [e2]))
    by_cases h : x = y
    · rw [decide_eq_true h] at he
      rw [show decide (x :: r1 = y :: r2) = decide (r1 = r2) from by simp [h]]
      refine ev_loop' (W_ok 300 _ _ _ _ ?_)
      repeat' (first | refine stpA ?_ | (refine condS ?_ ?_ <;> intro h))
      refine ev_keep [15, 1, 0, 2, 14] [] ?_
      exact by_loop674 la lb hlen hl hs hs2 r1 (d1 ++ [x]) r2 (d2 ++ [y]) _ _ _ (n + 1) (by simp [e1]) (by simp [e2]) (by simp [hn1]) (by simp; omega)
    · rw [decide_eq_false h] at he
      rw [show decide (x :: r1 = y :: r2) = false from by simp [h]]
      refine ev_loop' (W_ok 300 _ _ _ _ ?_)
      repeat' (first | refine stpA ?_ | (refine condS ?_ ?_ <;> intro h))
      (first | refine fin1 ?_ | refine fin0 ?_); rfl
  | [], d1, y :: r2, d2, T, H, c, n, e1, e2, hn1, hn2 => by
    exfalso; rw [e1, e2] at hlen; simp at hlen; omega
  | x :: r1, d1, [], d2, T, H, c, n, e1, e2, hn1, hn2 => by
    exfalso; rw [e1, e2] at hlen; simp at hlen; omega
theorem by_gives674 (la lb : List PathL) (h1 : la.length < 2 ^ 40) (h2 : lb.length < 2 ^ 40) (hs : ∀ x ∈ la, x.rules.length < 2 ^ 40) (hs2 : ∀ x ∈ lb, x.rules.length < 2 ^ 40) : Gives G 674 [.sl 2 (la.map PathL.enc), .sl 2 (lb.map PathL.enc), .fn 675 []] [] ⟨.bool (decide (la = lb)), []⟩ := by
  have l1 : (la.map PathL.enc).length = la.length := by simp
  have l2 : (lb.map PathL.enc).length = lb.length := by simp
  by_cases hlen : la.length = lb.length
  · refine gives_code (F := f674) rfl rfl (W_ok 300 _ _ _ _ ?_)
    repeat' (first | refine stpA ?_ | (refine condS ?_ ?_ <;> intro h))
    refine ev_keep [15, 1, 0, 2, 14] [] ?_
    rw [l1]
    exact by_loop674 la lb hlen h1 hs hs2 la [] lb [] _ _ _ 0 rfl rfl rfl rfl
  · rw [show decide (la = lb) = false from by simp; intro h; exact hlen (by rw [h])]
    refine gives_code (F := f674) rfl rfl (W_ok 300 _ _ _ _ ?_)
    repeat' (first | refine stpA ?_ | (refine condS ?_ ?_ <;> intro h))
    (first | refine fin1 ?_ | refine fin0 ?_); rfl
theorem clo_gives678 (x y : ComL) (hx : x.rules.length < 2 ^ 40) (hy : y.rules.length < 2 ^ 40) : Gives G 678 [.agg x.enc, .agg y.enc] [] ⟨.bool (decide (x = y)), []⟩ := by
  have h1 := eq_gives679 x.rules y.rules hx hy
  by_cases hn : x.name = y.name
  · rw [show decide (x = y) = decide (x.rules = y.rules) from by cases x; cases y; simp_all]
    refine gives_code (F := f678) rfl rfl (W_ok 300 _ _ _ _ ?_)
    repeat' ((conv => whnf); first | refine zSeqT hn ?_ | refine bslP (by first | rfl | (simp [pureL, pureLL, AV.pure]; done) | fail) rfl ?_ | refine TakeC.full (by first | rfl | omega | (simp; done) | (simp; omega) | fail) ?_ | refine zBs ?_ | refine zBn ?_ | refine zBv rfl rfl ?_ | refine zN ?_ | refine zC ?_ | refine zC4 ?_ | refine zOr16 ?_ | refine zC1 ?_ | refine zByte ?_ | refine zMaxL ?_ | refine zMaxR ?_ | refine zMinL ?_ | refine zMinR ?_ | refine zShr ?_ | refine zC8 ?_ | refine zQ ?_ | refine zR ?_ | refine zS ?_ | refine zA ?_ | refine zM ?_ | refine xr rfl ?_ | refine ai rfl ?_ | refine condT ?_ | refine condF ?_ | refine condG1 ?_ | refine condG0 ?_ | refine cD ?_ | refine dD ?_ | refine cB ?_ | refine dB ?_ | refine cN ?_ | refine dN ?_ | refine cV ?_ | refine dV ?_ | refine cE ?_ | refine dE ?_ | refine condX0 ?_ | refine condX1 ?_ | refine condNot ?_ | refine condAnd ?_ | refine condOr ?_ | refine aO ?_ | refine aB ?_ | refine aR ?_ | refine aR ?_ (by simp; omega) | refine xr (by assumption) ?_ | refine ai (by assumption) ?_ | refine kV (by assumption) ?_ | refine kN (by assumption) ?_ | refine callW (by assumption) ?_ | refine condD (fun h => ?_) (fun h => ?_) | refine condB (fun h => ?_) (fun h => ?_) | refine condN (fun h => ?_) (fun h => ?_) | refine condE (fun h => ?_) (fun h => ?_) | refine condV (fun h => ?_) (fun h => ?_))
    (first | refine fin1 ?_ | refine fin0 ?_); rfl
  · rw [show decide (x = y) = false from by cases x; cases y; simp_all]
    refine gives_code (F := f678) rfl rfl (W_ok 300 _ _ _ _ ?_)
    repeat' ((conv => whnf); first | refine zSeqF hn ?_ | refine bslP (by first | rfl | (simp [pureL, pureLL, AV.pure]; done) | fail) rfl ?_ | refine TakeC.full (by first | rfl | omega | (simp; done) | (simp; omega) | fail) ?_ | refine zBs ?_ | refine zBn ?_ | refine zBv rfl rfl ?_ | refine zN ?_ | refine zC ?_ | refine zC4 ?_ | refine zOr16 ?_ | refine zC1 ?_ | refine zByte ?_ | refine zMaxL ?_ | refine zMaxR ?_ | refine zMinL ?_ | refine zMinR ?_ | refine zShr ?_ | refine zC8 ?_ | refine zQ ?_ | refine zR ?_ | refine zS ?_ | refine zA ?_ | refine zM ?_ | refine xr rfl ?_ | refine ai rfl ?_ | refine condT ?_ | refine condF ?_ | refine condG1 ?_ | refine condG0 ?_ | refine cD ?_ | refine dD ?_ | refine cB ?_ | refine dB ?_ | refine cN ?_ | refine dN ?_ | refine cV ?_ | refine dV ?_ | refine cE ?_ | refine dE ?_ | refine condX0 ?_ | refine condX1 ?_ | refine condNot ?_ | refine condAnd ?_ | refine condOr ?_ | refine aO ?_ | refine aB ?_ | refine aR ?_ | refine aR ?_ (by simp; omega) | refine xr (by assumption) ?_ | refine ai (by assumption) ?_ | refine kV (by assumption) ?_ | refine kN (by assumption) ?_ | refine callW (by assumption) ?_ | refine condD (fun h => ?_) (fun h => ?_) | refine condB (fun h => ?_) (fun h => ?_) | refine condN (fun h => ?_) (fun h => ?_) | refine condE (fun h => ?_) (fun h => ?_) | refine condV (fun h => ?_) (fun h => ?_))
    (first | refine fin1 ?_ | refine fin0 ?_); rfl
theorem by_loop677 (la lb : List ComL) (hlen : la.length = lb.length) (hl : la.length < 2 ^ 40) (hs : ∀ x ∈ la, x.rules.length < 2 ^ 40) (hs2 : ∀ x ∈ lb, x.rules.length < 2 ^ 40) : ∀ (r1 d1 r2 d2 : List ComL) (T : List (Nat × AV)) (H : Heap) (c : Nat) (n : Int) (e1 : la = d1 ++ r1) (e2 : lb = d2 ++ r2) (hn1 : n = d1.length) (hn2 : n = d2.length),
   Ev G ⟨f677x9LH, ⟨(15, .int .i64 n) :: (1, .sl 2 (lb.map ComL.enc)) :: (0, .sl 2 (la.map ComL.enc)) :: (2, .fn 678 []) :: (14, .int .i64 la.length) :: T, H, c⟩, [.t 6], 0⟩ ⟨.bool (decide (r1 = r2)), []⟩
  | [], d1, [], d2, T, H, c, n, e1, e2, hn1, hn2 => by
    have hd : la.length = d1.length := by simp [e1]
    refine ev_loop' (W_ok 300 _ _ _ _ ?_)
    repeat' (first | refine stpA ?_ | (refine condS ?_ ?_ <;> intro h))
    (first | refine fin1 ?_ | refine fin0 ?_); rfl
  | x :: r1, d1, y :: r2, d2, T, H, c, n, e1, e2, hn1, hn2 => by
    have hd : la.length = d1.length + (r1.length + 1) := by simp [e1]
    have hl1 : (la.map ComL.enc).length = la.length := by simp
    have hl2 : (lb.map ComL.enc).length = la.length := by simp [hlen]
    have hx : (la.map ComL.enc)[n.toNat]? = some x.enc := by simp [e1, hn1]
    have hy : (lb.map ComL.enc)[n.toNat]? = some y.enc := by simp [e2, hn1]; rw [show d1.length = d2.length by omega]; simp
    have he := clo_gives678 x y (hs x (by simp [e1])) (hs2 y (by simp [e2]))
    by_cases h : x = y
    · rw [decide_eq_true h] at he
      rw [show decide (x :: r1 = y :: r2) = decide (r1 = r2) from by simp [h]]
      refine ev_loop' (W_ok 300 _ _ _ _ ?_)
      repeat' (first | refine stpA ?_ | (refine condS ?_ ?_ <;> intro h))
      refine ev_keep [15, 1, 0, 2, 14] [] ?_
      exact by_loop677 la lb hlen hl hs hs2 r1 (d1 ++ [x]) r2 (d2 ++ [y]) _ _ _ (n + 1) (by simp [e1]) (by simp [e2]) (by simp [hn1]) (by simp; omega)
    · rw [decide_eq_false h] at he
      rw [show decide (x :: r1 = y :: r2) = false from by simp [h]]
      refine ev_loop' (W_ok 300 _ _ _ _ ?_)
      repeat' (first | refine stpA ?_ | (refine condS ?_ ?_ <;> intro h))
      (first | refine fin1 ?_ | refine fin0 ?_); rfl
  | [], d1, y :: r2, d2, T, H, c, n, e1, e2, hn1, hn2 => by
    exfalso; rw [e1, e2] at hlen; simp at hlen; omega
  | x :: r1, d1, [], d2, T, H, c, n, e1, e2, hn1, hn2 => by
    exfalso; rw [e1, e2] at hlen; simp at hlen; omega
theorem by_gives677 (la lb : List ComL) (h1 : la.length < 2 ^ 40) (h2 : lb.length < 2 ^ 40) (hs : ∀ x ∈ la, x.rules.length < 2 ^ 40) (hs2 : ∀ x ∈ lb, x.rules.length < 2 ^ 40) : Gives G 677 [.sl 2 (la.map ComL.enc), .sl 2 (lb.map ComL.enc), .fn 678 []] [] ⟨.bool (decide (la = lb)), []⟩ := by
  have l1 : (la.map ComL.enc).length = la.length := by simp
  have l2 : (lb.map ComL.enc).length = lb.length := by simp
  by_cases hlen : la.length = lb.length
  · refine gives_code (F := f677) rfl rfl (W_ok 300 _ _ _ _ ?_)
    repeat' (first | refine stpA ?_ | (refine condS ?_ ?_ <;> intro h))
    refine ev_keep [15, 1, 0, 2, 14] [] ?_
    rw [l1]
    exact by_loop677 la lb hlen h1 hs hs2 la [] lb [] _ _ _ 0 rfl rfl rfl rfl
  · rw [show decide (la = lb) = false from by simp; intro h; exact hlen (by rw [h])]
    refine gives_code (F := f677) rfl rfl (W_ok 300 _ _ _ _ ?_)
    repeat' (first | refine stpA ?_ | (refine condS ?_ ?_ <;> intro h))
    (first | refine fin1 ?_ | refine fin0 ?_); rfl
def Trm.fits (t : Trm) : Prop := t.mats.length < 2 ^ 40 ∧ t.acts.length < 2 ^ 40
def Pol.fits (p : Pol) : Prop := p.terms.length < 2 ^ 40 ∧ ∀ t ∈ p.terms, t.fits
theorem clo_gives683 (x y : Trm) (hx : x.fits) (hy : y.fits) : Gives G 683 [.agg x.enc, .agg y.enc] [] ⟨.bool (decide (x = y)), []⟩ := by
  have h1 := eq_gives684 x.mats y.mats hx.1 hy.1
  have h2 := eq_gives685 x.acts y.acts hx.2 hy.2
  by_cases hn : x.name = y.name
  · by_cases hv : x.verdict = y.verdict
    · by_cases hm : x.mats = y.mats
      · rw [decide_eq_true hm] at h1
        rw [show decide (x = y) = decide (x.acts = y.acts) from by cases x; cases y; simp_all]
        refine gives_code (F := f683) rfl rfl (W_ok 300 _ _ _ _ ?_)
        repeat' ((conv => whnf); first | refine zSeqT hn ?_ | refine bslP (by first | rfl | (simp [pureL, pureLL, AV.pure]; done) | fail) rfl ?_ | refine TakeC.full (by first | rfl | omega | (simp; done) | (simp; omega) | fail) ?_ | refine zBs ?_ | refine zBn ?_ | refine zBv rfl rfl ?_ | refine zN ?_ | refine zC ?_ | refine zC4 ?_ | refine zOr16 ?_ | refine zC1 ?_ | refine zByte ?_ | refine zMaxL ?_ | refine zMaxR ?_ | refine zMinL ?_ | refine zMinR ?_ | refine zShr ?_ | refine zC8 ?_ | refine zQ ?_ | refine zR ?_ | refine zS ?_ | refine zA ?_ | refine zM ?_ | refine xr rfl ?_ | refine ai rfl ?_ | refine condT ?_ | refine condF ?_ | refine condG1 ?_ | refine condG0 ?_ | refine cD ?_ | refine dD ?_ | refine cB ?_ | refine dB ?_ | refine cN ?_ | refine dN ?_ | refine cV ?_ | refine dV ?_ | refine cE ?_ | refine dE ?_ | refine condX0 ?_ | refine condX1 ?_ | refine condNot ?_ | refine condAnd ?_ | refine condOr ?_ | refine aO ?_ | refine aB ?_ | refine aR ?_ | refine aR ?_ (by simp; omega) | refine xr (by assumption) ?_ | refine ai (by assumption) ?_ | refine kV (by assumption) ?_ | refine kN (by assumption) ?_ | refine callW (by assumption) ?_ | refine condD (fun h => ?_) (fun h => ?_) | refine condB (fun h => ?_) (fun h => ?_) | refine condN (fun h => ?_) (fun h => ?_) | refine condE (fun h => ?_) (fun h => ?_) | refine condV (fun h => ?_) (fun h => ?_))
        (first | refine fin1 ?_ | refine fin0 ?_); rfl
      · rw [decide_eq_false hm] at h1
        rw [show decide (x = y) = false from by cases x; cases y; simp_all]
        refine gives_code (F := f683) rfl rfl (W_ok 300 _ _ _ _ ?_)
        repeat' ((conv => whnf); first | refine zSeqT hn ?_ | refine bslP (by first | rfl | (simp [pureL, pureLL, AV.pure]; done) | fail) rfl ?_ | refine TakeC.full (by first | rfl | omega | (simp; done) | (simp; omega) | fail) ?_ | refine zBs ?_ | refine zBn ?_ | refine zBv rfl rfl ?_ | refine zN ?_ | refine zC ?_ | refine zC4 ?_ | refine zOr16 ?_ | refine zC1 ?_ | refine zByte ?_ | refine zMaxL ?_ | refine zMaxR ?_ | refine zMinL ?_ | refine zMinR ?_ | refine zShr ?_ | refine zC8 ?_ | refine zQ ?_ | refine zR ?_ | refine zS ?_ | refine zA ?_ | refine zM ?_ | refine xr rfl ?_ | refine ai rfl ?_ | refine condT ?_ | refine condF ?_ | refine condG1 ?_ | refine condG0 ?_ | refine cD ?_ | refine dD ?_ | refine cB ?_ | refine dB ?_ | refine cN ?_ | refine dN ?_ | refine cV ?_ | refine dV ?_ | refine cE ?_ | refine dE ?_ | refine condX0 ?_ | refine condX1 ?_ | refine condNot ?_ | refine condAnd ?_ | refine condOr ?_ | refine aO ?_ | refine aB ?_ | refine aR ?_ | refine aR ?_ (by simp; omega) | refine xr (by assumption) ?_ | refine ai (by assumption) ?_ | refine kV (by assumption) ?_ | refine kN (by assumption) ?_ | refine callW (by assumption) ?_ | refine condD (fun h => ?_) (fun h => ?_) | refine condB (fun h => ?_) (fun h => ?_) | refine condN (fun h => ?_) (fun h => ?_) | refine condE (fun h => ?_) (fun h => ?_) | refine condV (fun h => ?_) (fun h => ?_))
        (first | refine fin1 ?_ | refine fin0 ?_); rfl
    · rw [show decide (x = y) = false from by cases x; cases y; simp_all]
      refine gives_code (F := f683) rfl rfl (W_ok 300 _ _ _ _ ?_)
      repeat' ((conv => whnf); first | refine zSeqT hn ?_ | refine bslP (by first | rfl | (simp [pureL, pureLL, AV.pure]; done) | fail) rfl ?_ | refine TakeC.full (by first | rfl | omega | (simp; done) | (simp; omega) | fail) ?_ | refine zBs ?_ | refine zBn ?_ | refine zBv rfl rfl ?_ | refine zN ?_ | refine zC ?_ | refine zC4 ?_ | refine zOr16 ?_ | refine zC1 ?_ | refine zByte ?_ | refine zMaxL ?_ | refine zMaxR ?_ | refine zMinL ?_ | refine zMinR ?_ | refine zShr ?_ | refine zC8 ?_ | refine zQ ?_ | refine zR ?_ | refine zS ?_ | refine zA ?_ | refine zM ?_ | refine xr rfl ?_ | refine ai rfl ?_ | refine condT ?_ | refine condF ?_ | refine condG1 ?_ | refine condG0 ?_ | refine cD ?_ | refine dD ?_ | refine cB ?_ | refine dB ?_ | refine cN ?_ | refine dN ?_ | refine cV ?_ | refine dV ?_ | refine cE ?_ | refine dE ?_ | refine condX0 ?_ | refine condX1 ?_ | refine condNot ?_ | refine condAnd ?_ | refine condOr ?_ | refine aO ?_ | refine aB ?_ | refine aR ?_ | refine aR ?_ (by simp; omega) | refine xr (by assumption) ?_ | refine ai (by assumption) ?_ | refine kV (by assumption) ?_ | refine kN (by assumption) ?_ | refine callW (by assumption) ?_ | refine condD (fun h => ?_) (fun h => ?_) | refine condB (fun h => ?_) (fun h => ?_) | refine condN (fun h => ?_) (fun h => ?_) | refine condE (fun h => ?_) (fun h => ?_) | refine condV (fun h => ?_) (fun h => ?_))
      (first | refine fin1 ?_ | refine fin0 ?_); rfl
  · rw [show decide (x = y) = false from by cases x; cases y; simp_all]
    refine gives_code (F := f683) rfl rfl (W_ok 300 _ _ _ _ ?_)
    repeat' ((conv => whnf); first | refine zSeqF hn ?_ | refine bslP (by first | rfl | (simp [pureL, pureLL, AV.pure]; done) | fail) rfl ?_ | refine TakeC.full (by first | rfl | omega | (simp; done) | (simp; omega) | fail) ?_ | refine zBs ?_ | refine zBn ?_ | refine zBv rfl rfl ?_ | refine zN ?_ | refine zC ?_ | refine zC4 ?_ | refine zOr16 ?_ | refine zC1 ?_ | refine zByte ?_ | refine zMaxL ?_ | refine zMaxR ?_ | refine zMinL ?_ | refine zMinR ?_ | refine zShr ?_ | refine zC8 ?_ | refine zQ ?_ | refine zR ?_ | refine zS ?_ | refine zA ?_ | refine zM ?_ | refine xr rfl ?_ | refine ai rfl ?_ | refine condT ?_ | refine condF ?_ | refine condG1 ?_ | refine condG0 ?_ | refine cD ?_ | refine dD ?_ | refine cB ?_ | refine dB ?_ | refine cN ?_ | refine dN ?_ | refine cV ?_ | refine dV ?_ | refine cE ?_ | refine dE ?_ | refine condX0 ?_ | refine condX1 ?_ | refine condNot ?_ | refine condAnd ?_ | refine condOr ?_ | refine aO ?_ | refine aB ?_ | refine aR ?_ | refine aR ?_ (by simp; omega) | refine xr (by assumption) ?_ | refine ai (by assumption) ?_ | refine kV (by assumption) ?_ | refine kN (by assumption) ?_ | refine callW (by assumption) ?_ | refine condD (fun h => ?_) (fun h => ?_) | refine condB (fun h => ?_) (fun h => ?_) | refine condN (fun h => ?_) (fun h => ?_) | refine condE (fun h => ?_) (fun h => ?_) | refine condV (fun h => ?_) (fun h => ?_))
    (first | refine fin1 ?_ | refine fin0 ?_); rfl
theorem by_loop682 (la lb : List Trm) (hlen : la.length = lb.length) (hl : la.length < 2 ^ 40) (hs : ∀ x ∈ la, x.fits) (hs2 : ∀ x ∈ lb, x.fits) : ∀ (r1 d1 r2 d2 : List Trm) (T : List (Nat × AV)) (H : Heap) (c : Nat) (n : Int) (e1 : la = d1 ++ r1) (e2 : lb = d2 ++ r2) (hn1 : n = d1.length) (hn2 : n = d2.length),
   Ev G ⟨f682x9LH, ⟨(15, .int .i64 n) :: (1, .sl 4 (lb.map Trm.enc)) :: (0, .sl 4 (la.map Trm.enc)) :: (2, .fn 683 []) :: (14, .int .i64 la.length) :: T, H, c⟩, [.t 6], 0⟩ ⟨.bool (decide (r1 = r2)), []⟩
  | [], d1, [], d2, T, H, c, n, e1, e2, hn1, hn2 => by
    have hd : la.length = d1.length := by simp [e1]
    refine ev_loop' (W_ok 300 _ _ _ _ ?_)
    repeat' (first | refine stpA ?_ | (refine condS ?_ ?_ <;> intro h))
    (first | refine fin1 ?_ | refine fin0 ?_); rfl
  | x :: r1, d1, y :: r2, d2, T, H, c, n, e1, e2, hn1, hn2 => by
    have hd : la.length = d1.length + (r1.length + 1) := by simp [e1]
    have hl1 : (la.map Trm.enc).length = la.length := by simp
    have hl2 : (lb.map Trm.enc).length = la.length := by simp [hlen]
    have hx : (la.map Trm.enc)[n.toNat]? = some x.enc := by simp [e1, hn1]
    have hy : (lb.map Trm.enc)[n.toNat]? = some y.enc := by simp [e2, hn1]; rw [show d1.length = d2.length by omega]; simp
    have he := clo_gives683 x y (hs x (by simp [e1])) (hs2 y (by simp [e2]))
    by_cases h : x = y
    · rw [decide_eq_true h] at he
      rw [show decide (x :: r1 = y :: r2) = decide (r1 = r2) from by simp [h]]
      refine ev_loop' (W_ok 300 _ _ _ _ ?_)
      repeat' (first | refine stpA ?_ | (refine condS ?_ ?_ <;> intro h))
      refine ev_keep [15, 1, 0, 2, 14] [] ?_
      exact by_loop682 la lb hlen hl hs hs2 r1 (d1 ++ [x]) r2 (d2 ++ [y]) _ _ _ (n + 1) (by simp [e1]) (by simp [e2]) (by simp [hn1]) (by simp; omega)
    · rw [decide_eq_false h] at he
      rw [show decide (x :: r1 = y :: r2) = false from by simp [h]]
      refine ev_loop' (W_ok 300 _ _ _ _ ?_)
      repeat' (first | refine stpA ?_ | (refine condS ?_ ?_ <;> intro h))
      (first | refine fin1 ?_ | refine fin0 ?_); rfl
  | [], d1, y :: r2, d2, T, H, c, n, e1, e2, hn1, hn2 => by
    exfalso; rw [e1, e2] at hlen; simp at hlen; omega
  | x :: r1, d1, [], d2, T, H, c, n, e1, e2, hn1, hn2 => by
    exfalso; rw [e1, e2] at hlen; simp at hlen; omega
theorem by_gives682 (la lb : List Trm) (h1 : la.length < 2 ^ 40) (h2 : lb.length < 2 ^ 40) (hs : ∀ x ∈ la, x.fits) (hs2 : ∀ x ∈ lb, x.fits) : Gives G 682 [.sl 4 (la.map Trm.enc), .sl 4 (lb.map Trm.enc), .fn 683 []] [] ⟨.bool (decide (la = lb)), []⟩ := by
  have l1 : (la.map Trm.enc).length = la.length := by simp
  have l2 : (lb.map Trm.enc).length = lb.length := by simp
  by_cases hlen : la.length = lb.length
  · refine gives_code (F := f682) rfl rfl (W_ok 300 _ _ _ _ ?_)
    repeat' (first | refine stpA ?_ | (refine condS ?_ ?_ <;> intro h))
    refine ev_keep [15, 1, 0, 2, 14] [] ?_
    rw [l1]
    exact by_loop682 la lb hlen h1 hs hs2 la [] lb [] _ _ _ 0 rfl rfl rfl rfl
  · rw [show decide (la = lb) = false from by simp; intro h; exact hlen (by rw [h])]
    refine gives_code (F := f682) rfl rfl (W_ok 300 _ _ _ _ ?_)
    repeat' (first | refine stpA ?_ | (refine condS ?_ ?_ <;> intro h))
    (first | refine fin1 ?_ | refine fin0 ?_); rfl
theorem clo_gives681 (x y : Pol) (hx : x.fits) (hy : y.fits) : Gives G 681 [.agg x.enc, .agg y.enc] [] ⟨.bool (decide (x = y)), []⟩ := by
  have h1 := by_gives682 x.terms y.terms hx.1 hy.1 hx.2 hy.2
  by_cases hn : x.name = y.name
  · by_cases hv : x.dflt = y.dflt
    · rw [show decide (x = y) = decide (x.terms = y.terms) from by cases x; cases y; simp_all]
      refine gives_code (F := f681) rfl rfl (W_ok 300 _ _ _ _ ?_)
      repeat' ((conv => whnf); first | refine zSeqT hn ?_ | refine bslP (by first | rfl | (simp [pureL, pureLL, AV.pure]; done) | fail) rfl ?_ | refine TakeC.full (by first | rfl | omega | (simp; done) | (simp; omega) | fail) ?_ | refine zBs ?_ | refine zBn ?_ | refine zBv rfl rfl ?_ | refine zN ?_ | refine zC ?_ | refine zC4 ?_ | refine zOr16 ?_ | refine zC1 ?_ | refine zByte ?_ | refine zMaxL ?_ | refine zMaxR ?_ | refine zMinL ?_ | refine zMinR ?_ | refine zShr ?_ | refine zC8 ?_ | refine zQ ?_ | refine zR ?_ | refine zS ?_ | refine zA ?_ | refine zM ?_ | refine xr rfl ?_ | refine ai rfl ?_ | refine condT ?_ | refine condF ?_ | refine condG1 ?_ | refine condG0 ?_ | refine cD ?_ | refine dD ?_ | refine cB ?_ | refine dB ?_ | refine cN ?_ | refine dN ?_ | refine cV ?_ | refine dV ?_ | refine cE ?_ | refine dE ?_ | refine condX0 ?_ | refine condX1 ?_ | refine condNot ?_ | refine condAnd ?_ | refine condOr ?_ | refine aO ?_ | refine aB ?_ | refine aR ?_ | refine aR ?_ (by simp; omega) | refine xr (by assumption) ?_ | refine ai (by assumption) ?_ | refine kV (by assumption) ?_ | refine kN (by assumption) ?_ | refine callW (by assumption) ?_ | refine condD (fun h => ?_) (fun h => ?_) | refine condB (fun h => ?_) (fun h => ?_) | refine condN (fun h => ?_) (fun h => ?_) | refine condE (fun h => ?_) (fun h => ?_) | refine condV (fun h => ?_) (fun h => ?_))
      (first | refine fin1 ?_ | refine fin0 ?_); rfl
    · rw [show decide (x = y) = false from by cases x; cases y; simp_all]
      refine gives_code (F := f681) rfl rfl (W_ok 300 _ _ _ _ ?_)
      repeat' ((conv => whnf); first | refine zSeqT hn ?_ | refine bslP (by first | rfl | (simp [pureL, pureLL, AV.pure]; done) | fail) rfl ?_ | refine TakeC.full (by first | rfl | omega | (simp; done) | (simp; omega) | fail) ?_ | refine zBs ?_ | refine zBn ?_ | refine zBv rfl rfl ?_ | refine zN ?_ | refine zC ?_ | refine zC4 ?_ | refine zOr16 ?_ | refine zC1 ?_ | refine zByte ?_ | refine zMaxL ?_ | refine zMaxR ?_ | refine zMinL ?_ | refine zMinR ?_ | refine zShr ?_ | refine zC8 ?_ | refine zQ ?_ | refine zR ?_ | refine zS ?_ | refine zA ?_ | refine zM ?_ | refine xr rfl ?_ | refine ai rfl ?_ | refine condT ?_ | refine condF ?_ | refine condG1 ?_ | refine condG0 ?_ | refine cD ?_ | refine dD ?_ | refine cB ?_ | refine dB ?_ | refine cN ?_ | refine dN ?_ | refine cV ?_ | refine dV ?_ | refine cE ?_ | refine dE ?_ | refine condX0 ?_ | refine condX1 ?_ | refine condNot ?_ | refine condAnd ?_ | refine condOr ?_ | refine aO ?_ | refine aB ?_ | refine aR ?_ | refine aR ?_ (by simp; omega) | refine xr (by assumption) ?_ | refine ai (by assumption) ?_ | refine kV (by assumption) ?_ | refine kN (by assumption) ?_ | refine callW (by assumption) ?_ | refine condD (fun h => ?_) (fun h => ?_) | refine condB (fun h => ?_) (fun h => ?_) | refine condN (fun h => ?_) (fun h => ?_) | refine condE (fun h => ?_) (fun h => ?_) | refine condV (fun h => ?_) (fun h => ?_))
      (first | refine fin1 ?_ | refine fin0 ?_); rfl
  · rw [show decide (x = y) = false from by cases x; cases y; simp_all]
    refine gives_code (F := f681) rfl rfl (W_ok 300 _ _ _ _ ?_)
    repeat' ((conv => whnf); first | refine zSeqF hn ?_ | refine bslP (by first | rfl | (simp [pureL, pureLL, AV.pure]; done) | fail) rfl ?_ | refine TakeC.full (by first | rfl | omega | (simp; done) | (simp; omega) | fail) ?_ | refine zBs ?_ | refine zBn ?_ | refine zBv rfl rfl ?_ | refine zN ?_ | refine zC ?_ | refine zC4 ?_ | refine zOr16 ?_ | refine zC1 ?_ | refine zByte ?_ | refine zMaxL ?_ | refine zMaxR ?_ | refine zMinL ?_ | refine zMinR ?_ | refine zShr ?_ | refine zC8 ?_ | refine zQ ?_ | refine zR ?_ | refine zS ?_ | refine zA ?_ | refine zM ?_ | refine xr rfl ?_ | refine ai rfl ?_ | refine condT ?_ | refine condF ?_ | refine condG1 ?_ | refine condG0 ?_ | refine cD ?_ | refine dD ?_ | refine cB ?_ | refine dB ?_ | refine cN ?_ | refine dN ?_ | refine cV ?_ | refine dV ?_ | refine cE ?_ | refine dE ?_ | refine condX0 ?_ | refine condX1 ?_ | refine condNot ?_ | refine condAnd ?_ | refine condOr ?_ | refine aO ?_ | refine aB ?_ | refine aR ?_ | refine aR ?_ (by simp; omega) | refine xr (by assumption) ?_ | refine ai (by assumption) ?_ | refine kV (by assumption) ?_ | refine kN (by assumption) ?_ | refine callW (by assumption) ?_ | refine condD (fun h => ?_) (fun h => ?_) | refine condB (fun h => ?_) (fun h => ?_) | refine condN (fun h => ?_) (fun h => ?_) | refine condE (fun h => ?_) (fun h => ?_) | refine condV (fun h => ?_) (fun h => ?_))
    (first | refine fin1 ?_ | refine fin0 ?_); rfl
theorem by_loop680 (la lb : List Pol) (hlen : la.length = lb.length) (hl : la.length < 2 ^ 40) (hs : ∀ x ∈ la, x.fits) (hs2 : ∀ x ∈ lb, x.fits) : ∀ (r1 d1 r2 d2 : List Pol) (T : List (Nat × AV)) (H : Heap) (c : Nat) (n : Int) (e1 : la = d1 ++ r1) (e2 : lb = d2 ++ r2) (hn1 : n = d1.length) (hn2 : n = d2.length),
   Ev G ⟨f680x9LH, ⟨(15, .int .i64 n) :: (1, .sl 3 (lb.map Pol.enc)) :: (0, .sl 3 (la.map Pol.enc)) :: (2, .fn 681 []) :: (14, .int .i64 la.length) :: T, H, c⟩, [.t 6], 0⟩ ⟨.bool (decide (r1 = r2)), []⟩
  | [], d1, [], d2, T, H, c, n, e1, e2, hn1, hn2 => by
    have hd : la.length = d1.length := by simp [e1]
    refine ev_loop' (W_ok 300 _ _ _ _ ?_)
    repeat' (first | refine stpA ?_ | (refine condS ?_ ?_ <;> intro h))
    (first | refine fin1 ?_ | refine fin0 ?_); rfl
  | x :: r1, d1, y :: r2, d2, T, H, c, n, e1, e2, hn1, hn2 => by
    have hd : la.length = d1.length + (r1.length + 1) := by simp [e1]
    have hl1 : (la.map Pol.enc).length = la.length := by simp
    have hl2 : (lb.map Pol.enc).length = la.length := by simp [hlen]
    have hx : (la.map Pol.enc)[n.toNat]? = some x.enc := by simp [e1, hn1]
    have hy : (lb.map Pol.enc)[n.toNat]? = some y.enc := by simp [e2, hn1]; rw [show d1.length = d2.length by omega]; simp
    have he := clo_gives681 x y (hs x (by simp [e1])) (hs2 y (by simp [e2]))
    by_cases h : x = y
    · rw [decide_eq_true h] at he
      rw [show decide (x :: r1 = y :: r2) = decide (r1 = r2) from by simp [h]]
      refine ev_loop' (W_ok 300 _ _ _ _ ?_)
      repeat' (first | refine stpA ?_ | (refine condS ?_ ?_ <;> intro h))
      refine ev_keep [15, 1, 0, 2, 14] [] ?_
      exact by_loop680 la lb hlen hl hs hs2 r1 (d1 ++ [x]) r2 (d2 ++ [y]) _ _ _ (n + 1) (by simp [e1]) (by simp [e2]) (by simp [hn1]) (by simp; omega)
    · rw [decide_eq_false h] at he
      rw [show decide (x :: r1 = y :: r2) = false from by simp [h]]
      refine ev_loop' (W_ok 300 _ _ _ _ ?_)
      repeat' (first | refine stpA ?_ | (refine condS ?_ ?_ <;> intro h))
      (first | refine fin1 ?_ | refine fin0 ?_); rfl
  | [], d1, y :: r2, d2, T, H, c, n, e1, e2, hn1, hn2 => by
    exfalso; rw [e1, e2] at hlen; simp at hlen; omega
  | x :: r1, d1, [], d2, T, H, c, n, e1, e2, hn1, hn2 => by
    exfalso; rw [e1, e2] at hlen; simp at hlen; omega
theorem by_gives680 (la lb : List Pol) (h1 : la.length < 2 ^ 40) (h2 : lb.length < 2 ^ 40) (hs : ∀ x ∈ la, x.fits) (hs2 : ∀ x ∈ lb, x.fits) : Gives G 680 [.sl 3 (la.map Pol.enc), .sl 3 (lb.map Pol.enc), .fn 681 []] [] ⟨.bool (decide (la = lb)), []⟩ := by
  have l1 : (la.map Pol.enc).length = la.length := by simp
  have l2 : (lb.map Pol.enc).length = lb.length := by simp
  by_cases hlen : la.length = lb.length
  · refine gives_code (F := f680) rfl rfl (W_ok 300 _ _ _ _ ?_)
    repeat' (first | refine stpA ?_ | (refine condS ?_ ?_ <;> intro h))
    refine ev_keep [15, 1, 0, 2, 14] [] ?_
    rw [l1]
    exact by_loop680 la lb hlen h1 hs hs2 la [] lb [] _ _ _ 0 rfl rfl rfl rfl
  · rw [show decide (la = lb) = false from by simp; intro h; exact hlen (by rw [h])]
    refine gives_code (F := f680) rfl rfl (W_ok 300 _ _ _ _ ?_)
    repeat' (first | refine stpA ?_ | (refine condS ?_ ?_ <;> intro h))
    (first | refine fin1 ?_ | refine fin0 ?_); rfl
structure PSet.fits (s : PSet) : Prop where
  a : s.prefixes.length < 2 ^ 40
  b : s.paths.length < 2 ^ 40
  c : s.comms.length < 2 ^ 40
  d : s.pols.length < 2 ^ 40
  a1 : ∀ x ∈ s.prefixes, x.rules.length < 2 ^ 40
  b1 : ∀ x ∈ s.paths, x.rules.length < 2 ^ 40
  c1 : ∀ x ∈ s.comms, x.rules.length < 2 ^ 40
  d1 : ∀ x ∈ s.pols, x.fits
theorem same_gives670 (s t : PSet) (hs : s.fits) (ht : t.fits) : Gives G 670 [.agg s.enc, .agg t.enc] [] ⟨.bool (decide (s = t)), []⟩ := by
  have h1 := by_gives671 s.prefixes t.prefixes hs.a ht.a hs.a1 ht.a1
  have h2 := by_gives674 s.paths t.paths hs.b ht.b hs.b1 ht.b1
  have h3 := by_gives677 s.comms t.comms hs.c ht.c hs.c1 ht.c1
  have h4 := by_gives680 s.pols t.pols hs.d ht.d hs.d1 ht.d1
  by_cases e1 : s.prefixes = t.prefixes
  · rw [decide_eq_true e1] at h1
    by_cases e2 : s.paths = t.paths
    · rw [decide_eq_true e2] at h2
      by_cases e3 : s.comms = t.comms
      · rw [decide_eq_true e3] at h3
        rw [show decide (s = t) = decide (s.pols = t.pols) from by cases s; cases t; simp_all]
        refine gives_code (F := f670) rfl rfl (W_ok 300 _ _ _ _ ?_)
        repeat' (first | refine stpA ?_ | (refine condS ?_ ?_ <;> intro h))
        (first | refine fin1 ?_ | refine fin0 ?_); rfl
      · rw [decide_eq_false e3] at h3
        rw [show decide (s = t) = false from by cases s; cases t; simp_all]
        refine gives_code (F := f670) rfl rfl (W_ok 300 _ _ _ _ ?_)
        repeat' (first | refine stpA ?_ | (refine condS ?_ ?_ <;> intro h))
        (first | refine fin1 ?_ | refine fin0 ?_); rfl
    · rw [decide_eq_false e2] at h2
      rw [show decide (s = t) = false from by cases s; cases t; simp_all]
      refine gives_code (F := f670) rfl rfl (W_ok 300 _ _ _ _ ?_)
      repeat' (first | refine stpA ?_ | (refine condS ?_ ?_ <;> intro h))
      (first | refine fin1 ?_ | refine fin0 ?_); rfl
  · rw [decide_eq_false e1] at h1
    rw [show decide (s = t) = false from by cases s; cases t; simp_all]
    refine gives_code (F := f670) rfl rfl (W_ok 300 _ _ _ _ ?_)
    repeat' (first | refine stpA ?_ | (refine condS ?_ ?_ <;> intro h))
    (first | refine fin1 ?_ | refine fin0 ?_); rfl
end Go.AM.IR
namespace Go.AM.IR
def sumN {α : Type} (f : α → Nat) : List α → Nat
  | [] => 0
  | x :: r => f x + sumN f r
def trmN (t : Trm) : Nat := t.mats.length + t.acts.length
def polN (p : Pol) : Nat := p.terms.length + sumN trmN p.terms
def sizeN (s : PSet) : Nat := s.prefixes.length + s.paths.length + s.comms.length + s.pols.length + sumN (fun p => p.rules.length) s.prefixes + sumN (fun p => p.rules.length) s.paths + sumN (fun p => p.rules.length) s.comms + sumN polN s.pols
theorem sz_loop29 (l : List Trm) (P : List (List AV)) (j ln2 : Int) (tot : Int) (htot : tot < 2 ^ 40) (hj : 0 ≤ j ∧ j < 2 ^ 50) (R : Ret) (go : ∀ (T : List (Nat × AV)) (H : Heap) (c : Nat), Ev G ⟨f435x31LH, ⟨(69, .sl 3 P) :: (70, .int .i64 ln2) :: (71, .int .i64 (j + 1)) :: (3, .int .i64 tot) :: T, H, c⟩, [.t 2], 0⟩ R) (hl : l.length < 2 ^ 40) (ln : Int) (hln : ln = l.length) : ∀ (rest done : List Trm) (a : Int) (T : List (Nat × AV)) (H : Heap) (c : Nat) (n : Int) (e : l = done ++ rest) (hn : n = done.length) (ha : a + ((sumN trmN rest : Nat) : Int) = tot) (h0 : 0 ≤ a), Ev G ⟨f435x29LH, ⟨(81, .sl 4 (l.map Trm.enc)) :: (82, .int .i64 ln) :: (83, .int .i64 n) :: (3, .int .i64 a) :: (69, .sl 3 P) :: (70, .int .i64 ln2) :: (71, .int .i64 j) :: T, H, c⟩, [.t 2], 0⟩ R
  | [], done, a, T, H, c, n, e, hn, ha, h0 => by
    have hd : l.length = done.length := by simp [e]
    have hll : (l.map Trm.enc).length = l.length := by simp
    obtain rfl : a = tot := by simp only [sumN] at ha; omega
    refine ev_loop' (W_ok 300 _ _ _ _ ?_)
    repeat' (first | refine stpA ?_ | (refine condS ?_ ?_ <;> intro h))
    refine ev_keep [69, 70, 71, 3] [] ?_
    exact go _ _ _
  | x :: r, done, a, T, H, c, n, e, hn, ha, h0 => by
    have hd : l.length = done.length + (r.length + 1) := by simp [e]
    have hll : (l.map Trm.enc).length = l.length := by simp
    have hx : (l.map Trm.enc)[n.toNat]? = some (Trm.enc x) := by simp [e, hn]
    have m1 : (x.mats.map Mat.enc).length = x.mats.length := by simp
    have m2 : (x.acts.map Actn.enc).length = x.acts.length := by simp
    simp only [sumN, trmN] at ha
    refine ev_loop' (W_ok 300 _ _ _ _ ?_)
    repeat' (first | refine stpA ?_ | (refine condS ?_ ?_ <;> intro h))
    refine ev_keep [81, 82, 83, 3, 69, 70, 71] [] ?_; exact sz_loop29 l P j ln2 tot htot hj R go hl ln hln r (done ++ [x]) (a + (((x.mats.map Mat.enc).length : Int) + ((x.acts.map Actn.enc).length : Int))) _ _ _ (n + 1) (by simp [e]) (by simp [hn] <;> omega) (by rw [← ha, m1, m2]; omega) (by omega)
theorem sz_loop31 (l : List Pol) (tot : Int) (htot : tot < 2 ^ 40) (hl : l.length < 2 ^ 40) (ln : Int) (hln : ln = l.length) : ∀ (rest done : List Pol) (a : Int) (T : List (Nat × AV)) (H : Heap) (c : Nat) (n : Int) (e : l = done ++ rest) (hn : n = done.length) (ha : a + ((sumN polN rest : Nat) : Int) = tot) (h0 : 0 ≤ a), Ev G ⟨f435x31LH, ⟨(69, .sl 3 (l.map Pol.enc)) :: (70, .int .i64 ln) :: (71, .int .i64 n) :: (3, .int .i64 a) :: T, H, c⟩, [.t 2], 0⟩ (⟨.int .i64 tot, []⟩)
  | [], done, a, T, H, c, n, e, hn, ha, h0 => by
    have hd : l.length = done.length := by simp [e]
    have hll : (l.map Pol.enc).length = l.length := by simp
    obtain rfl : a = tot := by simp only [sumN] at ha; omega
    refine ev_loop' (W_ok 300 _ _ _ _ ?_)
    repeat' (first | refine stpA ?_ | (refine condS ?_ ?_ <;> intro h))
    (first | refine fin1 ?_ | refine fin0 ?_); rfl
  | x :: r, done, a, T, H, c, n, e, hn, ha, h0 => by
    have hd : l.length = done.length + (r.length + 1) := by simp [e]
    have hll : (l.map Pol.enc).length = l.length := by simp
    have hx : (l.map Pol.enc)[n.toNat]? = some (Pol.enc x) := by simp [e, hn]
    have m1 : (x.terms.map Trm.enc).length = x.terms.length := by simp
    simp only [sumN, polN] at ha
    refine ev_loop' (W_ok 300 _ _ _ _ ?_)
    repeat' (first | refine stpA ?_ | (refine condS ?_ ?_ <;> intro h))
    refine ev_keep [81, 82, 83, 3, 69, 70, 71] [] ?_
    rw [m1]
    exact sz_loop29 x.terms (l.map Pol.enc) n ln (a + x.terms.length + ((sumN trmN x.terms : Nat) : Int)) (by omega) (by omega) _ (fun T H c => sz_loop31 l tot htot hl ln hln r (done ++ [x]) (a + x.terms.length + ((sumN trmN x.terms : Nat) : Int)) T H c (n + 1) (by simp [e]) (by simp [hn] <;> omega) (by omega) (by omega)) (by omega) _ rfl x.terms [] (a + x.terms.length) _ _ _ 0 rfl rfl rfl (by omega)
theorem sz_loopx19 (l : List ComL) (s : PSet) (hl1 : s.comms = l) (tot : Int) (htot : tot < 2 ^ 40) (hsz : s.pols.length < 2 ^ 40 ∧ s.comms.length < 2 ^ 40 ∧ s.paths.length < 2 ^ 40) (hl : l.length < 2 ^ 40) (ln : Int) (hln : ln = l.length) : ∀ (rest done : List ComL) (a : Int) (T : List (Nat × AV)) (H : Heap) (c : Nat) (n : Int) (e : l = done ++ rest) (hn : n = done.length) (ha : a + ((sumN (fun p => p.rules.length) rest + (sumN polN s.pols) : Nat) : Int) = tot) (h0 : 0 ≤ a), Ev G ⟨f435x19LH, ⟨(56, .sl 2 (l.map ComL.enc)) :: (57, .int .i64 ln) :: (58, .int .i64 n) :: (3, .int .i64 a) :: (1, .ref 65 1 0) :: T, (65, some (1, .cells s.enc)) :: H, c⟩, [.t 2], 0⟩ (⟨.int .i64 tot, []⟩)
  | [], done, a, T, H, c, n, e, hn, ha, h0 => by
    have hd : l.length = done.length := by simp [e]
    have hll : (l.map ComL.enc).length = l.length := by simp
    have m1 : (s.pols.map Pol.enc).length = s.pols.length := by simp
    refine ev_loop' (W_ok 300 _ _ _ _ ?_)
    repeat' (first | refine stpA ?_ | (refine condS ?_ ?_ <;> intro h))
    refine ev_keep [69, 70, 71, 3] [] ?_
    rw [m1]
    exact sz_loop31 s.pols tot htot (by omega) _ rfl s.pols [] a _ _ _ 0 rfl rfl (by simp only [sumN] at ha; omega) h0
  | x :: r, done, a, T, H, c, n, e, hn, ha, h0 => by
    have hd : l.length = done.length + (r.length + 1) := by simp [e]
    have hll : (l.map ComL.enc).length = l.length := by simp
    have hx : (l.map ComL.enc)[n.toNat]? = some (ComL.enc x) := by simp [e, hn]
    have m1 : (x.rules.map ComR.enc).length = x.rules.length := by simp
    simp only [sumN] at ha
    refine ev_loop' (W_ok 300 _ _ _ _ ?_)
    repeat' (first | refine stpA ?_ | (refine condS ?_ ?_ <;> intro h))
    refine ev_keep [56, 57, 58, 3, 1] [65] ?_; exact sz_loopx19 l s hl1 tot htot hsz hl ln hln r (done ++ [x]) (a + ((x.rules.map ComR.enc).length : Int)) _ _ _ (n + 1) (by simp [e]) (by simp [hn] <;> omega) (by rw [← ha, m1]; omega) (by omega)
theorem sz_loopx13 (l : List PathL) (s : PSet) (hl1 : s.paths = l) (tot : Int) (htot : tot < 2 ^ 40) (hsz : s.pols.length < 2 ^ 40 ∧ s.comms.length < 2 ^ 40 ∧ s.paths.length < 2 ^ 40) (hl : l.length < 2 ^ 40) (ln : Int) (hln : ln = l.length) : ∀ (rest done : List PathL) (a : Int) (T : List (Nat × AV)) (H : Heap) (c : Nat) (n : Int) (e : l = done ++ rest) (hn : n = done.length) (ha : a + ((sumN (fun p => p.rules.length) rest + (sumN (fun p => p.rules.length) s.comms + sumN polN s.pols) : Nat) : Int) = tot) (h0 : 0 ≤ a), Ev G ⟨f435x13LH, ⟨(43, .sl 2 (l.map PathL.enc)) :: (44, .int .i64 ln) :: (45, .int .i64 n) :: (3, .int .i64 a) :: (1, .ref 65 1 0) :: T, (65, some (1, .cells s.enc)) :: H, c⟩, [.t 2], 0⟩ (⟨.int .i64 tot, []⟩)
  | [], done, a, T, H, c, n, e, hn, ha, h0 => by
    have hd : l.length = done.length := by simp [e]
    have hll : (l.map PathL.enc).length = l.length := by simp
    have m1 : (s.comms.map ComL.enc).length = s.comms.length := by simp
    refine ev_loop' (W_ok 300 _ _ _ _ ?_)
    repeat' (first | refine stpA ?_ | (refine condS ?_ ?_ <;> intro h))
    refine ev_keep [56, 57, 58, 3, 1] [65] ?_
    rw [m1]
    exact sz_loopx19 s.comms s rfl tot htot hsz (by omega) _ rfl s.comms [] a _ _ _ 0 rfl rfl (by simp only [sumN] at ha; omega) h0
  | x :: r, done, a, T, H, c, n, e, hn, ha, h0 => by
    have hd : l.length = done.length + (r.length + 1) := by simp [e]
    have hll : (l.map PathL.enc).length = l.length := by simp
    have hx : (l.map PathL.enc)[n.toNat]? = some (PathL.enc x) := by simp [e, hn]
    have m1 : (x.rules.map PathR.enc).length = x.rules.length := by simp
    simp only [sumN] at ha
    refine ev_loop' (W_ok 300 _ _ _ _ ?_)
    repeat' (first | refine stpA ?_ | (refine condS ?_ ?_ <;> intro h))
    refine ev_keep [43, 44, 45, 3, 1] [65] ?_; exact sz_loopx13 l s hl1 tot htot hsz hl ln hln r (done ++ [x]) (a + ((x.rules.map PathR.enc).length : Int)) _ _ _ (n + 1) (by simp [e]) (by simp [hn] <;> omega) (by rw [← ha, m1]; omega) (by omega)
theorem sz_loopx7 (l : List PList) (s : PSet) (hl1 : s.prefixes = l) (tot : Int) (htot : tot < 2 ^ 40) (hsz : s.pols.length < 2 ^ 40 ∧ s.comms.length < 2 ^ 40 ∧ s.paths.length < 2 ^ 40) (hl : l.length < 2 ^ 40) (ln : Int) (hln : ln = l.length) : ∀ (rest done : List PList) (a : Int) (T : List (Nat × AV)) (H : Heap) (c : Nat) (n : Int) (e : l = done ++ rest) (hn : n = done.length) (ha : a + ((sumN (fun p => p.rules.length) rest + (sumN (fun p => p.rules.length) s.paths + (sumN (fun p => p.rules.length) s.comms + sumN polN s.pols)) : Nat) : Int) = tot) (h0 : 0 ≤ a), Ev G ⟨f435x7LH, ⟨(30, .sl 2 (l.map PList.enc)) :: (31, .int .i64 ln) :: (32, .int .i64 n) :: (3, .int .i64 a) :: (1, .ref 65 1 0) :: T, (65, some (1, .cells s.enc)) :: H, c⟩, [.t 2], 0⟩ (⟨.int .i64 tot, []⟩)
  | [], done, a, T, H, c, n, e, hn, ha, h0 => by
    have hd : l.length = done.length := by simp [e]
    have hll : (l.map PList.enc).length = l.length := by simp
    have m1 : (s.paths.map PathL.enc).length = s.paths.length := by simp
    refine ev_loop' (W_ok 300 _ _ _ _ ?_)
    repeat' (first | refine stpA ?_ | (refine condS ?_ ?_ <;> intro h))
    refine ev_keep [43, 44, 45, 3, 1] [65] ?_
    rw [m1]
    exact sz_loopx13 s.paths s rfl tot htot hsz (by omega) _ rfl s.paths [] a _ _ _ 0 rfl rfl (by simp only [sumN] at ha; omega) h0
  | x :: r, done, a, T, H, c, n, e, hn, ha, h0 => by
    have hd : l.length = done.length + (r.length + 1) := by simp [e]
    have hll : (l.map PList.enc).length = l.length := by simp
    have hx : (l.map PList.enc)[n.toNat]? = some (PList.enc x) := by simp [e, hn]
    have m1 : (x.rules.map RuleP.enc).length = x.rules.length := by simp
    simp only [sumN] at ha
    refine ev_loop' (W_ok 300 _ _ _ _ ?_)
    repeat' (first | refine stpA ?_ | (refine condS ?_ ?_ <;> intro h))
    refine ev_keep [30, 31, 32, 3, 1] [65] ?_; exact sz_loopx7 l s hl1 tot htot hsz hl ln hln r (done ++ [x]) (a + ((x.rules.map RuleP.enc).length : Int)) _ _ _ (n + 1) (by simp [e]) (by simp [hn] <;> omega) (by rw [← ha, m1]; omega) (by omega)
theorem size_gives435 (s : PSet) (hs : sizeN s < 2 ^ 40) : Gives G 435 [.agg s.enc] [] ⟨.int .i64 (sizeN s : Nat), []⟩ := by
  have m1 : (s.prefixes.map PList.enc).length = s.prefixes.length := by simp
  have m2 : (s.paths.map PathL.enc).length = s.paths.length := by simp
  have m3 : (s.comms.map ComL.enc).length = s.comms.length := by simp
  have m4 : (s.pols.map Pol.enc).length = s.pols.length := by simp
  have hz : sizeN s = s.prefixes.length + s.paths.length + s.comms.length + s.pols.length + sumN (fun p => p.rules.length) s.prefixes + sumN (fun p => p.rules.length) s.paths + sumN (fun p => p.rules.length) s.comms + sumN polN s.pols := rfl
  refine gives_code (F := f435) rfl rfl (W_ok 300 _ _ _ _ ?_)
  repeat' (first | refine stpA ?_ | (refine condS ?_ ?_ <;> intro h))
  refine ev_keep [30, 31, 32, 3, 1] [65] ?_
  rw [m1, m2, m3, m4]
  exact sz_loopx7 s.prefixes s rfl (sizeN s : Nat) (by omega) (by omega) (by omega) _ rfl s.prefixes [] _ _ _ _ 0 rfl rfl (by rw [hz]; omega) (by omega)
end Go.AM.IR
namespace Go.AM.IR
theorem in_loop554 (pa pb : List PList) (hlen : pa.length = pb.length) (hl : pa.length < 2 ^ 40) (i : Int) (s t : PList) (h0 : 0 ≤ i) (hs : (pa.map PList.enc)[i.toNat]? = some s.enc) (ht : (pb.map PList.enc)[i.toNat]? = some t.enc) (hi : i < pa.length)
   (hst : s.rules.length = t.rules.length) (hsl : s.rules.length < 2 ^ 40) (R : Bool)
   (go : ∀ T H c, Ev G ⟨f554x16LH, ⟨(14, .int .i64 (i + 1)) :: (1, .sl 2 (pb.map PList.enc)) :: (0, .sl 2 (pa.map PList.enc)) :: (13, .int .i64 pa.length) :: T, H, c⟩, [.t 4], 0⟩ ⟨.bool R, []⟩) : ∀ (r1 d1 r2 d2 : List RuleP) (T : List (Nat × AV)) (H : Heap) (c : Nat) (n : Int) (e1 : s.rules = d1 ++ r1) (e2 : t.rules = d2 ++ r2) (hn1 : n = d1.length) (hn2 : n = d2.length),
   Ev G ⟨f554x14LH, ⟨(49, .int .i64 n) :: (5, .int .i64 i) :: (1, .sl 2 (pb.map PList.enc)) :: (0, .sl 2 (pa.map PList.enc)) :: (13, .int .i64 pa.length) :: (14, .int .i64 i) :: (48, .int .i64 s.rules.length) :: T, H, c⟩, [.t 4], 0⟩ ⟨.bool (decide (r1 = r2) && R), []⟩
  | [], d1, [], d2, T, H, c, n, e1, e2, hn1, hn2 => by
    have hd : s.rules.length = d1.length := by simp [e1]
    refine ev_loop' (W_ok 300 _ _ _ _ ?_)
    repeat' (first | refine stpA ?_ | (refine condS ?_ ?_ <;> intro h))
    refine ev_keep [14, 1, 0, 13] [] ?_
    rw [show (decide (([] : List RuleP) = []) && R) = R from by simp]
    exact go _ _ _
  | x :: r1, d1, y :: r2, d2, T, H, c, n, e1, e2, hn1, hn2 => by
    have hd : s.rules.length = d1.length + (r1.length + 1) := by simp [e1]
    have hla : (pa.map PList.enc).length = pa.length := by simp
    have hlb : (pb.map PList.enc).length = pa.length := by simp [hlen]
    have hl1 : (s.rules.map RuleP.enc).length = s.rules.length := by simp
    have hl2 : (t.rules.map RuleP.enc).length = s.rules.length := by simp [hst]
    have hx : (s.rules.map RuleP.enc)[n.toNat]? = some x.enc := by simp [e1, hn1]
    have hy : (t.rules.map RuleP.enc)[n.toNat]? = some y.enc := by simp [e2, hn1]; rw [show d1.length = d2.length by omega]; simp
    have he := eqs_RuleP x y
    by_cases h : x = y
    · rw [decide_eq_true h] at he
      rw [show decide (x :: r1 = y :: r2) = decide (r1 = r2) from by simp [h]]
      refine ev_loop' (W_ok 300 _ _ _ _ ?_)
      repeat' ((conv => whnf); first | refine zEqs he ?_ | refine bslP (by first | rfl | (simp [pureL, pureLL, AV.pure]; done) | fail) rfl ?_ | refine TakeC.full (by first | rfl | omega | (simp; done) | (simp; omega) | fail) ?_ | refine zBs ?_ | refine zBn ?_ | refine zBv rfl rfl ?_ | refine zN ?_ | refine zC ?_ | refine zC4 ?_ | refine zOr16 ?_ | refine zC1 ?_ | refine zByte ?_ | refine zMaxL ?_ | refine zMaxR ?_ | refine zMinL ?_ | refine zMinR ?_ | refine zShr ?_ | refine zC8 ?_ | refine zQ ?_ | refine zR ?_ | refine zS ?_ | refine zA ?_ | refine zM ?_ | refine xr rfl ?_ | refine ai rfl ?_ | refine condT ?_ | refine condF ?_ | refine condG1 ?_ | refine condG0 ?_ | refine cD ?_ | refine dD ?_ | refine cB ?_ | refine dB ?_ | refine cN ?_ | refine dN ?_ | refine cV ?_ | refine dV ?_ | refine cE ?_ | refine dE ?_ | refine condX0 ?_ | refine condX1 ?_ | refine condNot ?_ | refine condAnd ?_ | refine condOr ?_ | refine aO ?_ | refine aB ?_ | refine aR ?_ | refine aR ?_ (by simp; omega) | refine xr (by assumption) ?_ | refine ai (by assumption) ?_ | refine kV (by assumption) ?_ | refine kN (by assumption) ?_ | refine callW (by assumption) ?_ | refine condD (fun h => ?_) (fun h => ?_) | refine condB (fun h => ?_) (fun h => ?_) | refine condN (fun h => ?_) (fun h => ?_) | refine condE (fun h => ?_) (fun h => ?_) | refine condV (fun h => ?_) (fun h => ?_))
      refine ev_keep [49, 5, 1, 0, 13, 14, 48] [] ?_
      exact in_loop554 pa pb hlen hl i s t h0 hs ht hi hst hsl R go r1 (d1 ++ [x]) r2 (d2 ++ [y]) _ _ _ (n + 1) (by simp [e1]) (by simp [e2]) (by simp [hn1]) (by simp; omega)
    · rw [decide_eq_false h] at he
      rw [show decide (x :: r1 = y :: r2) = false from by simp [h], Bool.false_and]
      refine ev_loop' (W_ok 300 _ _ _ _ ?_)
      repeat' ((conv => whnf); first | refine zEqs he ?_ | refine bslP (by first | rfl | (simp [pureL, pureLL, AV.pure]; done) | fail) rfl ?_ | refine TakeC.full (by first | rfl | omega | (simp; done) | (simp; omega) | fail) ?_ | refine zBs ?_ | refine zBn ?_ | refine zBv rfl rfl ?_ | refine zN ?_ | refine zC ?_ | refine zC4 ?_ | refine zOr16 ?_ | refine zC1 ?_ | refine zByte ?_ | refine zMaxL ?_ | refine zMaxR ?_ | refine zMinL ?_ | refine zMinR ?_ | refine zShr ?_ | refine zC8 ?_ | refine zQ ?_ | refine zR ?_ | refine zS ?_ | refine zA ?_ | refine zM ?_ | refine xr rfl ?_ | refine ai rfl ?_ | refine condT ?_ | refine condF ?_ | refine condG1 ?_ | refine condG0 ?_ | refine cD ?_ | refine dD ?_ | refine cB ?_ | refine dB ?_ | refine cN ?_ | refine dN ?_ | refine cV ?_ | refine dV ?_ | refine cE ?_ | refine dE ?_ | refine condX0 ?_ | refine condX1 ?_ | refine condNot ?_ | refine condAnd ?_ | refine condOr ?_ | refine aO ?_ | refine aB ?_ | refine aR ?_ | refine aR ?_ (by simp; omega) | refine xr (by assumption) ?_ | refine ai (by assumption) ?_ | refine kV (by assumption) ?_ | refine kN (by assumption) ?_ | refine callW (by assumption) ?_ | refine condD (fun h => ?_) (fun h => ?_) | refine condB (fun h => ?_) (fun h => ?_) | refine condN (fun h => ?_) (fun h => ?_) | refine condE (fun h => ?_) (fun h => ?_) | refine condV (fun h => ?_) (fun h => ?_))
      (first | refine fin1 ?_ | refine fin0 ?_); rfl
  | [], d1, y :: r2, d2, T, H, c, n, e1, e2, hn1, hn2 => by
    exfalso; rw [e1, e2] at hst; simp at hst; omega
  | x :: r1, d1, [], d2, T, H, c, n, e1, e2, hn1, hn2 => by
    exfalso; rw [e1, e2] at hst; simp at hst; omega
theorem ou_loop554 (la lb : List PList) (hlen : la.length = lb.length) (hl : la.length < 2 ^ 40) (hs : ∀ x ∈ la, x.rules.length < 2 ^ 40) : ∀ (r1 d1 r2 d2 : List PList) (T : List (Nat × AV)) (H : Heap) (c : Nat) (n : Int) (e1 : la = d1 ++ r1) (e2 : lb = d2 ++ r2) (hn1 : n = d1.length) (hn2 : n = d2.length),
   Ev G ⟨f554x16LH, ⟨(14, .int .i64 n) :: (1, .sl 2 (lb.map PList.enc)) :: (0, .sl 2 (la.map PList.enc)) :: (13, .int .i64 la.length) :: T, H, c⟩, [.t 4], 0⟩ ⟨.bool (decide (r1 = r2)), []⟩
  | [], d1, [], d2, T, H, c, n, e1, e2, hn1, hn2 => by
    have hd : la.length = d1.length := by simp [e1]
    refine ev_loop' (W_ok 300 _ _ _ _ ?_)
    repeat' (first | refine stpA ?_ | (refine condS ?_ ?_ <;> intro h))
    (first | refine fin1 ?_ | refine fin0 ?_); rfl
  | x :: r1, d1, y :: r2, d2, T, H, c, n, e1, e2, hn1, hn2 => by
    have hd : la.length = d1.length + (r1.length + 1) := by simp [e1]
    have hla : (la.map PList.enc).length = la.length := by simp
    have hlb : (lb.map PList.enc).length = la.length := by simp [hlen]
    have hx : (la.map PList.enc)[n.toNat]? = some x.enc := by simp [e1, hn1]
    have hy : (lb.map PList.enc)[n.toNat]? = some y.enc := by simp [e2, hn1]; rw [show d1.length = d2.length by omega]; simp
    have m1 : (x.rules.map RuleP.enc).length = x.rules.length := by simp
    have m2 : (y.rules.map RuleP.enc).length = y.rules.length := by simp
    by_cases hn : x.name = y.name
    · by_cases hr : x.rules.length = y.rules.length
      · rw [show decide (x :: r1 = y :: r2) = (decide (x.rules = y.rules) && decide (r1 = r2)) from by rw [Bool.eq_iff_iff]; cases x; cases y; simp at hn; subst hn; simp]
        refine ev_loop' (W_ok 300 _ _ _ _ ?_)
        repeat' ((conv => whnf); first | refine zSneF hn ?_ | refine bslP (by first | rfl | (simp [pureL, pureLL, AV.pure]; done) | fail) rfl ?_ | refine TakeC.full (by first | rfl | omega | (simp; done) | (simp; omega) | fail) ?_ | refine zBs ?_ | refine zBn ?_ | refine zBv rfl rfl ?_ | refine zN ?_ | refine zC ?_ | refine zC4 ?_ | refine zOr16 ?_ | refine zC1 ?_ | refine zByte ?_ | refine zMaxL ?_ | refine zMaxR ?_ | refine zMinL ?_ | refine zMinR ?_ | refine zShr ?_ | refine zC8 ?_ | refine zQ ?_ | refine zR ?_ | refine zS ?_ | refine zA ?_ | refine zM ?_ | refine xr rfl ?_ | refine ai rfl ?_ | refine condT ?_ | refine condF ?_ | refine condG1 ?_ | refine condG0 ?_ | refine cD ?_ | refine dD ?_ | refine cB ?_ | refine dB ?_ | refine cN ?_ | refine dN ?_ | refine cV ?_ | refine dV ?_ | refine cE ?_ | refine dE ?_ | refine condX0 ?_ | refine condX1 ?_ | refine condNot ?_ | refine condAnd ?_ | refine condOr ?_ | refine aO ?_ | refine aB ?_ | refine aR ?_ | refine aR ?_ (by simp; omega) | refine xr (by assumption) ?_ | refine ai (by assumption) ?_ | refine kV (by assumption) ?_ | refine kN (by assumption) ?_ | refine callW (by assumption) ?_ | refine condD (fun h => ?_) (fun h => ?_) | refine condB (fun h => ?_) (fun h => ?_) | refine condN (fun h => ?_) (fun h => ?_) | refine condE (fun h => ?_) (fun h => ?_) | refine condV (fun h => ?_) (fun h => ?_))
        refine ev_keep [49, 5, 1, 0, 13, 14, 48] [] ?_
        rw [m1]
        exact in_loop554 la lb hlen hl n x y (by omega) hx hy (by omega) hr (hs x (by simp [e1])) _ (fun T H c => ou_loop554 la lb hlen hl hs r1 (d1 ++ [x]) r2 (d2 ++ [y]) T H c (n + 1) (by simp [e1]) (by simp [e2]) (by simp [hn1]) (by simp; omega)) x.rules [] y.rules [] _ _ _ 0 rfl rfl rfl rfl
      · rw [show decide (x :: r1 = y :: r2) = false from by rw [decide_eq_false]; intro q; apply hr; rw [(List.cons.inj q).1]]
        refine ev_loop' (W_ok 300 _ _ _ _ ?_)
        repeat' ((conv => whnf); first | refine zSneF hn ?_ | refine bslP (by first | rfl | (simp [pureL, pureLL, AV.pure]; done) | fail) rfl ?_ | refine TakeC.full (by first | rfl | omega | (simp; done) | (simp; omega) | fail) ?_ | refine zBs ?_ | refine zBn ?_ | refine zBv rfl rfl ?_ | refine zN ?_ | refine zC ?_ | refine zC4 ?_ | refine zOr16 ?_ | refine zC1 ?_ | refine zByte ?_ | refine zMaxL ?_ | refine zMaxR ?_ | refine zMinL ?_ | refine zMinR ?_ | refine zShr ?_ | refine zC8 ?_ | refine zQ ?_ | refine zR ?_ | refine zS ?_ | refine zA ?_ | refine zM ?_ | refine xr rfl ?_ | refine ai rfl ?_ | refine condT ?_ | refine condF ?_ | refine condG1 ?_ | refine condG0 ?_ | refine cD ?_ | refine dD ?_ | refine cB ?_ | refine dB ?_ | refine cN ?_ | refine dN ?_ | refine cV ?_ | refine dV ?_ | refine cE ?_ | refine dE ?_ | refine condX0 ?_ | refine condX1 ?_ | refine condNot ?_ | refine condAnd ?_ | refine condOr ?_ | refine aO ?_ | refine aB ?_ | refine aR ?_ | refine aR ?_ (by simp; omega) | refine xr (by assumption) ?_ | refine ai (by assumption) ?_ | refine kV (by assumption) ?_ | refine kN (by assumption) ?_ | refine callW (by assumption) ?_ | refine condD (fun h => ?_) (fun h => ?_) | refine condB (fun h => ?_) (fun h => ?_) | refine condN (fun h => ?_) (fun h => ?_) | refine condE (fun h => ?_) (fun h => ?_) | refine condV (fun h => ?_) (fun h => ?_))
        (first | refine fin1 ?_ | refine fin0 ?_); rfl
    · rw [show decide (x :: r1 = y :: r2) = false from by rw [decide_eq_false]; intro q; apply hn; rw [(List.cons.inj q).1]]
      refine ev_loop' (W_ok 300 _ _ _ _ ?_)
      repeat' ((conv => whnf); first | refine zSneT hn ?_ | refine bslP (by first | rfl | (simp [pureL, pureLL, AV.pure]; done) | fail) rfl ?_ | refine TakeC.full (by first | rfl | omega | (simp; done) | (simp; omega) | fail) ?_ | refine zBs ?_ | refine zBn ?_ | refine zBv rfl rfl ?_ | refine zN ?_ | refine zC ?_ | refine zC4 ?_ | refine zOr16 ?_ | refine zC1 ?_ | refine zByte ?_ | refine zMaxL ?_ | refine zMaxR ?_ | refine zMinL ?_ | refine zMinR ?_ | refine zShr ?_ | refine zC8 ?_ | refine zQ ?_ | refine zR ?_ | refine zS ?_ | refine zA ?_ | refine zM ?_ | refine xr rfl ?_ | refine ai rfl ?_ | refine condT ?_ | refine condF ?_ | refine condG1 ?_ | refine condG0 ?_ | refine cD ?_ | refine dD ?_ | refine cB ?_ | refine dB ?_ | refine cN ?_ | refine dN ?_ | refine cV ?_ | refine dV ?_ | refine cE ?_ | refine dE ?_ | refine condX0 ?_ | refine condX1 ?_ | refine condNot ?_ | refine condAnd ?_ | refine condOr ?_ | refine aO ?_ | refine aB ?_ | refine aR ?_ | refine aR ?_ (by simp; omega) | refine xr (by assumption) ?_ | refine ai (by assumption) ?_ | refine kV (by assumption) ?_ | refine kN (by assumption) ?_ | refine callW (by assumption) ?_ | refine condD (fun h => ?_) (fun h => ?_) | refine condB (fun h => ?_) (fun h => ?_) | refine condN (fun h => ?_) (fun h => ?_) | refine condE (fun h => ?_) (fun h => ?_) | refine condV (fun h => ?_) (fun h => ?_))
      (first | refine fin1 ?_ | refine fin0 ?_); rfl
  | [], d1, y :: r2, d2, T, H, c, n, e1, e2, hn1, hn2 => by
    exfalso; rw [e1, e2] at hlen; simp at hlen; omega
  | x :: r1, d1, [], d2, T, H, c, n, e1, e2, hn1, hn2 => by
    exfalso; rw [e1, e2] at hlen; simp at hlen; omega
theorem ou_gives554 (la lb : List PList) (h1 : la.length < 2 ^ 40) (h2 : lb.length < 2 ^ 40) (hs : ∀ x ∈ la, x.rules.length < 2 ^ 40) : Gives G 554 [.sl 2 (la.map PList.enc), .sl 2 (lb.map PList.enc)] [] ⟨.bool (decide (la = lb)), []⟩ := by
  have l1 : (la.map PList.enc).length = la.length := by simp
  have l2 : (lb.map PList.enc).length = lb.length := by simp
  by_cases hlen : la.length = lb.length
  · refine gives_code (F := f554) rfl rfl (W_ok 300 _ _ _ _ ?_)
    repeat' (first | refine stpA ?_ | (refine condS ?_ ?_ <;> intro h))
    refine ev_keep [14, 1, 0, 13] [] ?_
    rw [l1]
    exact ou_loop554 la lb hlen h1 hs la [] lb [] _ _ _ 0 rfl rfl rfl rfl
  · rw [show decide (la = lb) = false from by simp; intro h; exact hlen (by rw [h])]
    refine gives_code (F := f554) rfl rfl (W_ok 300 _ _ _ _ ?_)
    repeat' (first | refine stpA ?_ | (refine condS ?_ ?_ <;> intro h))
    (first | refine fin1 ?_ | refine fin0 ?_); rfl
theorem in_loop555 (pa pb : List PathL) (hlen : pa.length = pb.length) (hl : pa.length < 2 ^ 40) (i : Int) (s t : PathL) (h0 : 0 ≤ i) (hs : (pa.map PathL.enc)[i.toNat]? = some s.enc) (ht : (pb.map PathL.enc)[i.toNat]? = some t.enc) (hi : i < pa.length)
   (hst : s.rules.length = t.rules.length) (hsl : s.rules.length < 2 ^ 40) (R : Bool)
   (go : ∀ T H c, Ev G ⟨f555x16LH, ⟨(14, .int .i64 (i + 1)) :: (1, .sl 2 (pb.map PathL.enc)) :: (0, .sl 2 (pa.map PathL.enc)) :: (13, .int .i64 pa.length) :: T, H, c⟩, [.t 4], 0⟩ ⟨.bool R, []⟩) : ∀ (r1 d1 r2 d2 : List PathR) (T : List (Nat × AV)) (H : Heap) (c : Nat) (n : Int) (e1 : s.rules = d1 ++ r1) (e2 : t.rules = d2 ++ r2) (hn1 : n = d1.length) (hn2 : n = d2.length),
   Ev G ⟨f555x14LH, ⟨(49, .int .i64 n) :: (5, .int .i64 i) :: (1, .sl 2 (pb.map PathL.enc)) :: (0, .sl 2 (pa.map PathL.enc)) :: (13, .int .i64 pa.length) :: (14, .int .i64 i) :: (48, .int .i64 s.rules.length) :: T, H, c⟩, [.t 4], 0⟩ ⟨.bool (decide (r1 = r2) && R), []⟩
  | [], d1, [], d2, T, H, c, n, e1, e2, hn1, hn2 => by
    have hd : s.rules.length = d1.length := by simp [e1]
    refine ev_loop' (W_ok 300 _ _ _ _ ?_)
    repeat' (first | refine stpA ?_ | (refine condS ?_ ?_ <;> intro h))
    refine ev_keep [14, 1, 0, 13] [] ?_
    rw [show (decide (([] : List PathR) = []) && R) = R from by simp]
    exact go _ _ _
  | x :: r1, d1, y :: r2, d2, T, H, c, n, e1, e2, hn1, hn2 => by
    have hd : s.rules.length = d1.length + (r1.length + 1) := by simp [e1]
    have hla : (pa.map PathL.enc).length = pa.length := by simp
    have hlb : (pb.map PathL.enc).length = pa.length := by simp [hlen]
    have hl1 : (s.rules.map PathR.enc).length = s.rules.length := by simp
    have hl2 : (t.rules.map PathR.enc).length = s.rules.length := by simp [hst]
    have hx : (s.rules.map PathR.enc)[n.toNat]? = some x.enc := by simp [e1, hn1]
    have hy : (t.rules.map PathR.enc)[n.toNat]? = some y.enc := by simp [e2, hn1]; rw [show d1.length = d2.length by omega]; simp
    have he := eqs_PathR x y
    by_cases h : x = y
    · rw [decide_eq_true h] at he
      rw [show decide (x :: r1 = y :: r2) = decide (r1 = r2) from by simp [h]]
      refine ev_loop' (W_ok 300 _ _ _ _ ?_)
      repeat' ((conv => whnf); first | refine zEqs he ?_ | refine bslP (by first | rfl | (simp [pureL, pureLL, AV.pure]; done) | fail) rfl ?_ | refine TakeC.full (by first | rfl | omega | (simp; done) | (simp; omega) | fail) ?_ | refine zBs ?_ | refine zBn ?_ | refine zBv rfl rfl ?_ | refine zN ?_ | refine zC ?_ | refine zC4 ?_ | refine zOr16 ?_ | refine zC1 ?_ | refine zByte ?_ | refine zMaxL ?_ | refine zMaxR ?_ | refine zMinL ?_ | refine zMinR ?_ | refine zShr ?_ | refine zC8 ?_ | refine zQ ?_ | refine zR ?_ | refine zS ?_ | refine zA ?_ | refine zM ?_ | refine xr rfl ?_ | refine ai rfl ?_ | refine condT ?_ | refine condF ?_ | refine condG1 ?_ | refine condG0 ?_ | refine cD ?_ | refine dD ?_ | refine cB ?_ | refine dB ?_ | refine cN ?_ | refine dN ?_ | refine cV ?_ | refine dV ?_ | refine cE ?_ | refine dE ?_ | refine condX0 ?_ | refine condX1 ?_ | refine condNot ?_ | refine condAnd ?_ | refine condOr ?_ | refine aO ?_ | refine aB ?_ | refine aR ?_ | refine aR ?_ (by simp; omega) | refine xr (by assumption) ?_ | refine ai (by assumption) ?_ | refine kV (by assumption) ?_ | refine kN (by assumption) ?_ | refine callW (by assumption) ?_ | refine condD (fun h => ?_) (fun h => ?_) | refine condB (fun h => ?_) (fun h => ?_) | refine condN (fun h => ?_) (fun h => ?_) | refine condE (fun h => ?_) (fun h => ?_) | refine condV (fun h => ?_) (fun h => ?_))
      refine ev_keep [49, 5, 1, 0, 13, 14, 48] [] ?_
      exact in_loop555 pa pb hlen hl i s t h0 hs ht hi hst hsl R go r1 (d1 ++ [x]) r2 (d2 ++ [y]) _ _ _ (n + 1) (by simp [e1]) (by simp [e2]) (by simp [hn1]) (by simp; omega)
    · rw [decide_eq_false h] at he
      rw [show decide (x :: r1 = y :: r2) = false from by simp [h], Bool.false_and]
      refine ev_loop' (W_ok 300 _ _ _ _ ?_)
      repeat' ((conv => whnf); first | refine zEqs he ?_ | refine bslP (by first | rfl | (simp [pureL, pureLL, AV.pure]; done) | fail) rfl ?_ | refine TakeC.full (by first | rfl | omega | (simp; done) | (simp; omega) | fail) ?_ | refine zBs ?_ | refine zBn ?_ | refine zBv rfl rfl ?_ | refine zN ?_ | refine zC ?_ | refine zC4 ?_ | refine zOr16 ?_ | refine zC1 ?_ | refine zByte ?_ | refine zMaxL ?_ | refine zMaxR ?_ | refine zMinL ?_ | refine zMinR ?_ | refine zShr ?_ | refine zC8 ?_ | refine zQ ?_ | refine zR ?_ | refine zS ?_ | refine zA ?_ | refine zM ?_ | refine xr rfl ?_ | refine ai rfl ?_ | refine condT ?_ | refine condF ?_ | refine condG1 ?_ | refine condG0 ?_ | refine cD ?_ | refine dD ?_ | refine cB ?_ | refine dB ?_ | refine cN ?_ | refine dN ?_ | refine cV ?_ | refine dV ?_ | refine cE ?_ | refine dE ?_ | refine condX0 ?_ | refine condX1 ?_ | refine condNot ?_ | refine condAnd ?_ | refine condOr ?_ | refine aO ?_ | refine aB ?_ | refine aR ?_ | refine aR ?_ (by simp; omega) | refine xr (by assumption) ?_ | refine ai (by assumption) ?_ | refine kV (by assumption) ?_ | refine kN (by assumption) ?_ | refine callW (by assumption) ?_ | refine condD (fun h => ?_) (fun h => ?_) | refine condB (fun h => ?_) (fun h => ?_) | refine condN (fun h => ?_) (fun h => ?_) | refine condE (fun h => ?_) (fun h => ?_) | refine condV (fun h => ?_) (fun h => ?_))
      (first | refine fin1 ?_ | refine fin0 ?_); rfl
  | [], d1, y :: r2, d2, T, H, c, n, e1, e2, hn1, hn2 => by
    exfalso; rw [e1, e2] at hst; simp at hst; omega
  | x :: r1, d1, [], d2, T, H, c, n, e1, e2, hn1, hn2 => by
    exfalso; rw [e1, e2] at hst; simp at hst; omega
theorem ou_loop555 (la lb : List PathL) (hlen : la.length = lb.length) (hl : la.length < 2 ^ 40) (hs : ∀ x ∈ la, x.rules.length < 2 ^ 40) : ∀ (r1 d1 r2 d2 : List PathL) (T : List (Nat × AV)) (H : Heap) (c : Nat) (n : Int) (e1 : la = d1 ++ r1) (e2 : lb = d2 ++ r2) (hn1 : n = d1.length) (hn2 : n = d2.length),
   Ev G ⟨f555x16LH, ⟨(14, .int .i64 n) :: (1, .sl 2 (lb.map PathL.enc)) :: (0, .sl 2 (la.map PathL.enc)) :: (13, .int .i64 la.length) :: T, H, c⟩, [.t 4], 0⟩ ⟨.bool (decide (r1 = r2)), []⟩
  | [], d1, [], d2, T, H, c, n, e1, e2, hn1, hn2 => by
    have hd : la.length = d1.length := by simp [e1]
    refine ev_loop' (W_ok 300 _ _ _ _ ?_)
    repeat' (first | refine stpA ?_ | (refine condS ?_ ?_ <;> intro h))
    (first | refine fin1 ?_ | refine fin0 ?_); rfl
  | x :: r1, d1, y :: r2, d2, T, H, c, n, e1, e2, hn1, hn2 => by
    have hd : la.length = d1.length + (r1.length + 1) := by simp [e1]
    have hla : (la.map PathL.enc).length = la.length := by simp
    have hlb : (lb.map PathL.enc).length = la.length := by simp [hlen]
    have hx : (la.map PathL.enc)[n.toNat]? = some x.enc := by simp [e1, hn1]
    have hy : (lb.map PathL.enc)[n.toNat]? = some y.enc := by simp [e2, hn1]; rw [show d1.length = d2.length by omega]; simp
    have m1 : (x.rules.map PathR.enc).length = x.rules.length := by simp
    have m2 : (y.rules.map PathR.enc).length = y.rules.length := by simp
    by_cases hn : x.name = y.name
    · by_cases hr : x.rules.length = y.rules.length
      · rw [show decide (x :: r1 = y :: r2) = (decide (x.rules = y.rules) && decide (r1 = r2)) from by rw [Bool.eq_iff_iff]; cases x; cases y; simp at hn; subst hn; simp]
        refine ev_loop' (W_ok 300 _ _ _ _ ?_)
        repeat' ((conv => whnf); first | refine zSneF hn ?_ | refine bslP (by first | rfl | (simp [pureL, pureLL, AV.pure]; done) | fail) rfl ?_ | refine TakeC.full (by first | rfl | omega | (simp; done) | (simp; omega) | fail) ?_ | refine zBs ?_ | refine zBn ?_ | refine zBv rfl rfl ?_ | refine zN ?_ | refine zC ?_ | refine zC4 ?_ | refine zOr16 ?_ | refine zC1 ?_ | refine zByte ?_ | refine zMaxL ?_ | refine zMaxR ?_ | refine zMinL ?_ | refine zMinR ?_ | refine zShr ?_ | refine zC8 ?_ | refine zQ ?_ | refine zR ?_ | refine zS ?_ | refine zA ?_ | refine zM ?_ | refine xr rfl ?_ | refine ai rfl ?_ | refine condT ?_ | refine condF ?_ | refine condG1 ?_ | refine condG0 ?_ | refine cD ?_ | refine dD ?_ | refine cB ?_ | refine dB ?_ | refine cN ?_ | refine dN ?_ | refine cV ?_ | refine dV ?_ | refine cE ?_ | refine dE ?_ | refine condX0 ?_ | refine condX1 ?_ | refine condNot ?_ | refine condAnd ?_ | refine condOr ?_ | refine aO ?_ | refine aB ?_ | refine aR ?_ | refine aR ?_ (by simp; omega) | refine xr (by assumption) ?_ | refine ai (by assumption) ?_ | refine kV (by assumption) ?_ | refine kN (by assumption) ?_ | refine callW (by assumption) ?_ | refine condD (fun h => ?_) (fun h => ?_) | refine condB (fun h => ?_) (fun h => ?_) | refine condN (fun h => ?_) (fun h => ?_) | refine condE (fun h => ?_) (fun h => ?_) | refine condV (fun h => ?_) (fun h => ?_))
        refine ev_keep [49, 5, 1, 0, 13, 14, 48] [] ?_
        rw [m1]
        exact in_loop555 la lb hlen hl n x y (by omega) hx hy (by omega) hr (hs x (by simp [e1])) _ (fun T H c => ou_loop555 la lb hlen hl hs r1 (d1 ++ [x]) r2 (d2 ++ [y]) T H c (n + 1) (by simp [e1]) (by simp [e2]) (by simp [hn1]) (by simp; omega)) x.rules [] y.rules [] _ _ _ 0 rfl rfl rfl rfl
      · rw [show decide (x :: r1 = y :: r2) = false from by rw [decide_eq_false]; intro q; apply hr; rw [(List.cons.inj q).1]]
        refine ev_loop' (W_ok 300 _ _ _ _ ?_)
        repeat' ((conv => whnf); first | refine zSneF hn ?_ | refine bslP (by first | rfl | (simp [pureL, pureLL, AV.pure]; done) | fail) rfl ?_ | refine TakeC.full (by first | rfl | omega | (simp; done) | (simp; omega) | fail) ?_ | refine zBs ?_ | refine zBn ?_ | refine zBv rfl rfl ?_ | refine zN ?_ | refine zC ?_ | refine zC4 ?_ | refine zOr16 ?_ | refine zC1 ?_ | refine zByte ?_ | refine zMaxL ?_ | refine zMaxR ?_ | refine zMinL ?_ | refine zMinR ?_ | refine zShr ?_ | refine zC8 ?_ | refine zQ ?_ | refine zR ?_ | refine zS ?_ | refine zA ?_ | refine zM ?_ | refine xr rfl ?_ | refine ai rfl ?_ | refine condT ?_ | refine condF ?_ | refine condG1 ?_ | refine condG0 ?_ | refine cD ?_ | refine dD ?_ | refine cB ?_ | refine dB ?_ | refine cN ?_ | refine dN ?_ | refine cV ?_ | refine dV ?_ | refine cE ?_ | refine dE ?_ | refine condX0 ?_ | refine condX1 ?_ | refine condNot ?_ | refine condAnd ?_ | refine condOr ?_ | refine aO ?_ | refine aB ?_ | refine aR ?_ | refine aR ?_ (by simp; omega) | refine xr (by assumption) ?_ | refine ai (by assumption) ?_ | refine kV (by assumption) ?_ | refine kN (by assumption) ?_ | refine callW (by assumption) ?_ | refine condD (fun h => ?_) (fun h => ?_) | refine condB (fun h => ?_) (fun h => ?_) | refine condN (fun h => ?_) (fun h => ?_) | refine condE (fun h => ?_) (fun h => ?_) | refine condV (fun h => ?_) (fun h => ?_))
        (first | refine fin1 ?_ | refine fin0 ?_); rfl
    · rw [show decide (x :: r1 = y :: r2) = false from by rw [decide_eq_false]; intro q; apply hn; rw [(List.cons.inj q).1]]
      refine ev_loop' (W_ok 300 _ _ _ _ ?_)
      repeat' ((conv => whnf); first | refine zSneT hn ?_ | refine bslP (by first | rfl | (simp [pureL, pureLL, AV.pure]; done) | fail) rfl ?_ | refine TakeC.full (by first | rfl | omega | (simp; done) | (simp; omega) | fail) ?_ | refine zBs ?_ | refine zBn ?_ | refine zBv rfl rfl ?_ | refine zN ?_ | refine zC ?_ | refine zC4 ?_ | refine zOr16 ?_ | refine zC1 ?_ | refine zByte ?_ | refine zMaxL ?_ | refine zMaxR ?_ | refine zMinL ?_ | refine zMinR ?_ | refine zShr ?_ | refine zC8 ?_ | refine zQ ?_ | refine zR ?_ | refine zS ?_ | refine zA ?_ | refine zM ?_ | refine xr rfl ?_ | refine ai rfl ?_ | refine condT ?_ | refine condF ?_ | refine condG1 ?_ | refine condG0 ?_ | refine cD ?_ | refine dD ?_ | refine cB ?_ | refine dB ?_ | refine cN ?_ | refine dN ?_ | refine cV ?_ | refine dV ?_ | refine cE ?_ | refine dE ?_ | refine condX0 ?_ | refine condX1 ?_ | refine condNot ?_ | refine condAnd ?_ | refine condOr ?_ | refine aO ?_ | refine aB ?_ | refine aR ?_ | refine aR ?_ (by simp; omega) | refine xr (by assumption) ?_ | refine ai (by assumption) ?_ | refine kV (by assumption) ?_ | refine kN (by assumption) ?_ | refine callW (by assumption) ?_ | refine condD (fun h => ?_) (fun h => ?_) | refine condB (fun h => ?_) (fun h => ?_) | refine condN (fun h => ?_) (fun h => ?_) | refine condE (fun h => ?_) (fun h => ?_) | refine condV (fun h => ?_) (fun h => ?_))
      (first | refine fin1 ?_ | refine fin0 ?_); rfl
  | [], d1, y :: r2, d2, T, H, c, n, e1, e2, hn1, hn2 => by
    exfalso; rw [e1, e2] at hlen; simp at hlen; omega
  | x :: r1, d1, [], d2, T, H, c, n, e1, e2, hn1, hn2 => by
    exfalso; rw [e1, e2] at hlen; simp at hlen; omega
theorem ou_gives555 (la lb : List PathL) (h1 : la.length < 2 ^ 40) (h2 : lb.length < 2 ^ 40) (hs : ∀ x ∈ la, x.rules.length < 2 ^ 40) : Gives G 555 [.sl 2 (la.map PathL.enc), .sl 2 (lb.map PathL.enc)] [] ⟨.bool (decide (la = lb)), []⟩ := by
  have l1 : (la.map PathL.enc).length = la.length := by simp
  have l2 : (lb.map PathL.enc).length = lb.length := by simp
  by_cases hlen : la.length = lb.length
  · refine gives_code (F := f555) rfl rfl (W_ok 300 _ _ _ _ ?_)
    repeat' (first | refine stpA ?_ | (refine condS ?_ ?_ <;> intro h))
    refine ev_keep [14, 1, 0, 13] [] ?_
    rw [l1]
    exact ou_loop555 la lb hlen h1 hs la [] lb [] _ _ _ 0 rfl rfl rfl rfl
  · rw [show decide (la = lb) = false from by simp; intro h; exact hlen (by rw [h])]
    refine gives_code (F := f555) rfl rfl (W_ok 300 _ _ _ _ ?_)
    repeat' (first | refine stpA ?_ | (refine condS ?_ ?_ <;> intro h))
    (first | refine fin1 ?_ | refine fin0 ?_); rfl
theorem in_loop556 (pa pb : List ComL) (hlen : pa.length = pb.length) (hl : pa.length < 2 ^ 40) (i : Int) (s t : ComL) (h0 : 0 ≤ i) (hs : (pa.map ComL.enc)[i.toNat]? = some s.enc) (ht : (pb.map ComL.enc)[i.toNat]? = some t.enc) (hi : i < pa.length)
   (hst : s.rules.length = t.rules.length) (hsl : s.rules.length < 2 ^ 40) (R : Bool)
   (go : ∀ T H c, Ev G ⟨f556x16LH, ⟨(14, .int .i64 (i + 1)) :: (1, .sl 2 (pb.map ComL.enc)) :: (0, .sl 2 (pa.map ComL.enc)) :: (13, .int .i64 pa.length) :: T, H, c⟩, [.t 4], 0⟩ ⟨.bool R, []⟩) : ∀ (r1 d1 r2 d2 : List ComR) (T : List (Nat × AV)) (H : Heap) (c : Nat) (n : Int) (e1 : s.rules = d1 ++ r1) (e2 : t.rules = d2 ++ r2) (hn1 : n = d1.length) (hn2 : n = d2.length),
   Ev G ⟨f556x14LH, ⟨(49, .int .i64 n) :: (5, .int .i64 i) :: (1, .sl 2 (pb.map ComL.enc)) :: (0, .sl 2 (pa.map ComL.enc)) :: (13, .int .i64 pa.length) :: (14, .int .i64 i) :: (48, .int .i64 s.rules.length) :: T, H, c⟩, [.t 4], 0⟩ ⟨.bool (decide (r1 = r2) && R), []⟩
  | [], d1, [], d2, T, H, c, n, e1, e2, hn1, hn2 => by
    have hd : s.rules.length = d1.length := by simp [e1]
    refine ev_loop' (W_ok 300 _ _ _ _ ?_)
    repeat' (first | refine stpA ?_ | (refine condS ?_ ?_ <;> intro h))
    refine ev_keep [14, 1, 0, 13] [] ?_
    rw [show (decide (([] : List ComR) = []) && R) = R from by simp]
    exact go _ _ _
  | x :: r1, d1, y :: r2, d2, T, H, c, n, e1, e2, hn1, hn2 => by
    have hd : s.rules.length = d1.length + (r1.length + 1) := by simp [e1]
    have hla : (pa.map ComL.enc).length = pa.length := by simp
    have hlb : (pb.map ComL.enc).length = pa.length := by simp [hlen]
    have hl1 : (s.rules.map ComR.enc).length = s.rules.length := by simp
    have hl2 : (t.rules.map ComR.enc).length = s.rules.length := by simp [hst]
    have hx : (s.rules.map ComR.enc)[n.toNat]? = some x.enc := by simp [e1, hn1]
    have hy : (t.rules.map ComR.enc)[n.toNat]? = some y.enc := by simp [e2, hn1]; rw [show d1.length = d2.length by omega]; simp
    have he := eqs_ComR x y
    by_cases h : x = y
    · rw [decide_eq_true h] at he
      rw [show decide (x :: r1 = y :: r2) = decide (r1 = r2) from by simp [h]]
      refine ev_loop' (W_ok 300 _ _ _ _ ?_)
      repeat' ((conv => whnf); first | refine zEqs he ?_ | refine bslP (by first | rfl | (simp [pureL, pureLL, AV.pure]; done) | fail) rfl ?_ | refine TakeC.full (by first | rfl | omega | (simp; done) | (simp; omega) | fail) ?_ | refine zBs ?_ | refine zBn ?_ | refine zBv rfl rfl ?_ | refine zN ?_ | refine zC ?_ | refine zC4 ?_ | refine zOr16 ?_ | refine zC1 ?_ | refine zByte ?_ | refine zMaxL ?_ | refine zMaxR ?_ | refine zMinL ?_ | refine zMinR ?_ | refine zShr ?_ | refine zC8 ?_ | refine zQ ?_ | refine zR ?_ | refine zS ?_ | refine zA ?_ | refine zM ?_ | refine xr rfl ?_ | refine ai rfl ?_ | refine condT ?_ | refine condF ?_ | refine condG1 ?_ | refine condG0 ?_ | refine cD ?_ | refine dD ?_ | refine cB ?_ | refine dB ?_ | refine cN ?_ | refine dN ?_ | refine cV ?_ | refine dV ?_ | refine cE ?_ | refine dE ?_ | refine condX0 ?_ | refine condX1 ?_ | refine condNot ?_ | refine condAnd ?_ | refine condOr ?_ | refine aO ?_ | refine aB ?_ | refine aR ?_ | refine aR ?_ (by simp; omega) | refine xr (by assumption) ?_ | refine ai (by assumption) ?_ | refine kV (by assumption) ?_ | refine kN (by assumption) ?_ | refine callW (by assumption) ?_ | refine condD (fun h => ?_) (fun h => ?_) | refine condB (fun h => ?_) (fun h => ?_) | refine condN (fun h => ?_) (fun h => ?_) | refine condE (fun h => ?_) (fun h => ?_) | refine condV (fun h => ?_) (fun h => ?_))
      refine ev_keep [49, 5, 1, 0, 13, 14, 48] [] ?_
      exact in_loop556 pa pb hlen hl i s t h0 hs ht hi hst hsl R go r1 (d1 ++ [x]) r2 (d2 ++ [y]) _ _ _ (n + 1) (by simp [e1]) (by simp [e2]) (by simp [hn1]) (by simp; omega)
    · rw [decide_eq_false h] at he
      rw [show decide (x :: r1 = y :: r2) = false from by simp [h], Bool.false_and]
      refine ev_loop' (W_ok 300 _ _ _ _ ?_)
      repeat' ((conv => whnf); first | refine zEqs he ?_ | refine bslP (by first | rfl | (simp [pureL, pureLL, AV.pure]; done) | fail) rfl ?_ | refine TakeC.full (by first | rfl | omega | (simp; done) | (simp; omega) | fail) ?_ | refine zBs ?_ | refine zBn ?_ | refine zBv rfl rfl ?_ | refine zN ?_ | refine zC ?_ | refine zC4 ?_ | refine zOr16 ?_ | refine zC1 ?_ | refine zByte ?_ | refine zMaxL ?_ | refine zMaxR ?_ | refine zMinL ?_ | refine zMinR ?_ | refine zShr ?_ | refine zC8 ?_ | refine zQ ?_ | refine zR ?_ | refine zS ?_ | refine zA ?_ | refine zM ?_ | refine xr rfl ?_ | refine ai rfl ?_ | refine condT ?_ | refine condF ?_ | refine condG1 ?_ | refine condG0 ?_ | refine cD ?_ | refine dD ?_ | refine cB ?_ | refine dB ?_ | refine cN ?_ | refine dN ?_ | refine cV ?_ | refine dV ?_ | refine cE ?_ | refine dE ?_ | refine condX0 ?_ | refine condX1 ?_ | refine condNot ?_ | refine condAnd ?_ | refine condOr ?_ | refine aO ?_ | refine aB ?_ | refine aR ?_ | refine aR ?_ (by simp; omega) | refine xr (by assumption) ?_ | refine ai (by assumption) ?_ | refine kV (by assumption) ?_ | refine kN (by assumption) ?_ | refine callW (by assumption) ?_ | refine condD (fun h => ?_) (fun h => ?_) | refine condB (fun h => ?_) (fun h => ?_) | refine condN (fun h => ?_) (fun h => ?_) | refine condE (fun h => ?_) (fun h => ?_) | refine condV (fun h => ?_) (fun h => ?_))
      (first | refine fin1 ?_ | refine fin0 ?_); rfl
  | [], d1, y :: r2, d2, T, H, c, n, e1, e2, hn1, hn2 => by
    exfalso; rw [e1, e2] at hst; simp at hst; omega
  | x :: r1, d1, [], d2, T, H, c, n, e1, e2, hn1, hn2 => by
    exfalso; rw [e1, e2] at hst; simp at hst; omega
theorem ou_loop556 (la lb : List ComL) (hlen : la.length = lb.length) (hl : la.length < 2 ^ 40) (hs : ∀ x ∈ la, x.rules.length < 2 ^ 40) : ∀ (r1 d1 r2 d2 : List ComL) (T : List (Nat × AV)) (H : Heap) (c : Nat) (n : Int) (e1 : la = d1 ++ r1) (e2 : lb = d2 ++ r2) (hn1 : n = d1.length) (hn2 : n = d2.length),
   Ev G ⟨f556x16LH, ⟨(14, .int .i64 n) :: (1, .sl 2 (lb.map ComL.enc)) :: (0, .sl 2 (la.map ComL.enc)) :: (13, .int .i64 la.length) :: T, H, c⟩, [.t 4], 0⟩ ⟨.bool (decide (r1 = r2)), []⟩
  | [], d1, [], d2, T, H, c, n, e1, e2, hn1, hn2 => by
    have hd : la.length = d1.length := by simp [e1]
    refine ev_loop' (W_ok 300 _ _ _ _ ?_)
    repeat' (first | refine stpA ?_ | (refine condS ?_ ?_ <;> intro h))
    (first | refine fin1 ?_ | refine fin0 ?_); rfl
  | x :: r1, d1, y :: r2, d2, T, H, c, n, e1, e2, hn1, hn2 => by
    have hd : la.length = d1.length + (r1.length + 1) := by simp [e1]
    have hla : (la.map ComL.enc).length = la.length := by simp
    have hlb : (lb.map ComL.enc).length = la.length := by simp [hlen]
    have hx : (la.map ComL.enc)[n.toNat]? = some x.enc := by simp [e1, hn1]
    have hy : (lb.map ComL.enc)[n.toNat]? = some y.enc := by simp [e2, hn1]; rw [show d1.length = d2.length by omega]; simp
    have m1 : (x.rules.map ComR.enc).length = x.rules.length := by simp
    have m2 : (y.rules.map ComR.enc).length = y.rules.length := by simp
    by_cases hn : x.name = y.name
    · by_cases hr : x.rules.length = y.rules.length
      · rw [show decide (x :: r1 = y :: r2) = (decide (x.rules = y.rules) && decide (r1 = r2)) from by rw [Bool.eq_iff_iff]; cases x; cases y; simp at hn; subst hn; simp]
        refine ev_loop' (W_ok 300 _ _ _ _ ?_)
        repeat' ((conv => whnf); first | refine zSneF hn ?_ | refine bslP (by first | rfl | (simp [pureL, pureLL, AV.pure]; done) | fail) rfl ?_ | refine TakeC.full (by first | rfl | omega | (simp; done) | (simp; omega) | fail) ?_ | refine zBs ?_ | refine zBn ?_ | refine zBv rfl rfl ?_ | refine zN ?_ | refine zC ?_ | refine zC4 ?_ | refine zOr16 ?_ | refine zC1 ?_ | refine zByte ?_ | refine zMaxL ?_ | refine zMaxR ?_ | refine zMinL ?_ | refine zMinR ?_ | refine zShr ?_ | refine zC8 ?_ | refine zQ ?_ | refine zR ?_ | refine zS ?_ | refine zA ?_ | refine zM ?_ | refine xr rfl ?_ | refine ai rfl ?_ | refine condT ?_ | refine condF ?_ | refine condG1 ?_ | refine condG0 ?_ | refine cD ?_ | refine dD ?_ | refine cB ?_ | refine dB ?_ | refine cN ?_ | refine dN ?_ | refine cV ?_ | refine dV ?_ | refine cE ?_ | refine dE ?_ | refine condX0 ?_ | refine condX1 ?_ | refine condNot ?_ | refine condAnd ?_ | refine condOr ?_ | refine aO ?_ | refine aB ?_ | refine aR ?_ | refine aR ?_ (by simp; omega) | refine xr (by assumption) ?_ | refine ai (by assumption) ?_ | refine kV (by assumption) ?_ | refine kN (by assumption) ?_ | refine callW (by assumption) ?_ | refine condD (fun h => ?_) (fun h => ?_) | refine condB (fun h => ?_) (fun h => ?_) | refine condN (fun h => ?_) (fun h => ?_) | refine condE (fun h => ?_) (fun h => ?_) | refine condV (fun h => ?_) (fun h => ?_))
        refine ev_keep [49, 5, 1, 0, 13, 14, 48] [] ?_
        rw [m1]
        exact in_loop556 la lb hlen hl n x y (by omega) hx hy (by omega) hr (hs x (by simp [e1])) _ (fun T H c => ou_loop556 la lb hlen hl hs r1 (d1 ++ [x]) r2 (d2 ++ [y]) T H c (n + 1) (by simp [e1]) (by simp [e2]) (by simp [hn1]) (by simp; omega)) x.rules [] y.rules [] _ _ _ 0 rfl rfl rfl rfl
      · rw [show decide (x :: r1 = y :: r2) = false from by rw [decide_eq_false]; intro q; apply hr; rw [(List.cons.inj q).1]]
        refine ev_loop' (W_ok 300 _ _ _ _ ?_)
        repeat' ((conv => whnf); first | refine zSneF hn ?_ | refine bslP (by first | rfl | (simp [pureL, pureLL, AV.pure]; done) | fail) rfl ?_ | refine TakeC.full (by first | rfl | omega | (simp; done) | (simp; omega) | fail) ?_ | refine zBs ?_ | refine zBn ?_ | refine zBv rfl rfl ?_ | refine zN ?_ | refine zC ?_ | refine zC4 ?_ | refine zOr16 ?_ | refine zC1 ?_ | refine zByte ?_ | refine zMaxL ?_ | refine zMaxR ?_ | refine zMinL ?_ | refine zMinR ?_ | refine zShr ?_ | refine zC8 ?_ | refine zQ ?_ | refine zR ?_ | refine zS ?_ | refine zA ?_ | refine zM ?_ | refine xr rfl ?_ | refine ai rfl ?_ | refine condT ?_ | refine condF ?_ | refine condG1 ?_ | refine condG0 ?_ | refine cD ?_ | refine dD ?_ | refine cB ?_ | refine dB ?_ | refine cN ?_ | refine dN ?_ | refine cV ?_ | refine dV ?_ | refine cE ?_ | refine dE ?_ | refine condX0 ?_ | refine condX1 ?_ | refine condNot ?_ | refine condAnd ?_ | refine condOr ?_ | refine aO ?_ | refine aB ?_ | refine aR ?_ | refine aR ?_ (by simp; omega) | refine xr (by assumption) ?_ | refine ai (by assumption) ?_ | refine kV (by assumption) ?_ | refine kN (by assumption) ?_ | refine callW (by assumption) ?_ | refine condD (fun h => ?_) (fun h => ?_) | refine condB (fun h => ?_) (fun h => ?_) | refine condN (fun h => ?_) (fun h => ?_) | refine condE (fun h => ?_) (fun h => ?_) | refine condV (fun h => ?_) (fun h => ?_))
        (first | refine fin1 ?_ | refine fin0 ?_); rfl
    · rw [show decide (x :: r1 = y :: r2) = false from by rw [decide_eq_false]; intro q; apply hn; rw [(List.cons.inj q).1]]
      refine ev_loop' (W_ok 300 _ _ _ _ ?_)
      repeat' ((conv => whnf); first | refine zSneT hn ?_ | refine bslP (by first | rfl | (simp [pureL, pureLL, AV.pure]; done) | fail) rfl ?_ | refine TakeC.full (by first | rfl | omega | (simp; done) | (simp; omega) | fail) ?_ | refine zBs ?_ | refine zBn ?_ | refine zBv rfl rfl ?_ | refine zN ?_ | refine zC ?_ | refine zC4 ?_ | refine zOr16 ?_ | refine zC1 ?_ | refine zByte ?_ | refine zMaxL ?_ | refine zMaxR ?_ | refine zMinL ?_ | refine zMinR ?_ | refine zShr ?_ | refine zC8 ?_ | refine zQ ?_ | refine zR ?_ | refine zS ?_ | refine zA ?_ | refine zM ?_ | refine xr rfl ?_ | refine ai rfl ?_ | refine condT ?_ | refine condF ?_ | refine condG1 ?_ | refine condG0 ?_ | refine cD ?_ | refine dD ?_ | refine cB ?_ | refine dB ?_ | refine cN ?_ | refine dN ?_ | refine cV ?_ | refine dV ?_ | refine cE ?_ | refine dE ?_ | refine condX0 ?_ | refine condX1 ?_ | refine condNot ?_ | refine condAnd ?_ | refine condOr ?_ | refine aO ?_ | refine aB ?_ | refine aR ?_ | refine aR ?_ (by simp; omega) | refine xr (by assumption) ?_ | refine ai (by assumption) ?_ | refine kV (by assumption) ?_ | refine kN (by assumption) ?_ | refine callW (by assumption) ?_ | refine condD (fun h => ?_) (fun h => ?_) | refine condB (fun h => ?_) (fun h => ?_) | refine condN (fun h => ?_) (fun h => ?_) | refine condE (fun h => ?_) (fun h => ?_) | refine condV (fun h => ?_) (fun h => ?_))
      (first | refine fin1 ?_ | refine fin0 ?_); rfl
  | [], d1, y :: r2, d2, T, H, c, n, e1, e2, hn1, hn2 => by
    exfalso; rw [e1, e2] at hlen; simp at hlen; omega
  | x :: r1, d1, [], d2, T, H, c, n, e1, e2, hn1, hn2 => by
    exfalso; rw [e1, e2] at hlen; simp at hlen; omega
theorem ou_gives556 (la lb : List ComL) (h1 : la.length < 2 ^ 40) (h2 : lb.length < 2 ^ 40) (hs : ∀ x ∈ la, x.rules.length < 2 ^ 40) : Gives G 556 [.sl 2 (la.map ComL.enc), .sl 2 (lb.map ComL.enc)] [] ⟨.bool (decide (la = lb)), []⟩ := by
  have l1 : (la.map ComL.enc).length = la.length := by simp
  have l2 : (lb.map ComL.enc).length = lb.length := by simp
  by_cases hlen : la.length = lb.length
  · refine gives_code (F := f556) rfl rfl (W_ok 300 _ _ _ _ ?_)
    repeat' (first | refine stpA ?_ | (refine condS ?_ ?_ <;> intro h))
    refine ev_keep [14, 1, 0, 13] [] ?_
    rw [l1]
    exact ou_loop556 la lb hlen h1 hs la [] lb [] _ _ _ 0 rfl rfl rfl rfl
  · rw [show decide (la = lb) = false from by simp; intro h; exact hlen (by rw [h])]
    refine gives_code (F := f556) rfl rfl (W_ok 300 _ _ _ _ ?_)
    repeat' (first | refine stpA ?_ | (refine condS ?_ ?_ <;> intro h))
    (first | refine fin1 ?_ | refine fin0 ?_); rfl
theorem tm_loop16 (s t : Trm) (hst : s.acts.length = t.acts.length) (hsl : s.acts.length < 2 ^ 40) (g1 g2 : Nat) : ∀ (r1 d1 r2 d2 : List Actn) (T : List (Nat × AV)) (H : Heap) (c : Nat) (n : Int) (e1 : s.acts = d1 ++ r1) (e2 : t.acts = d2 ++ r2) (hn1 : n = d1.length) (hn2 : n = d2.length),
   Ev G ⟨f557x16LH, ⟨(58, .int .i64 n) :: (3, .ref 67 g2 0) :: (2, .ref 66 g1 0) :: (57, .int .i64 s.acts.length) :: T, (66, some (g1, .cells s.enc)) :: (67, some (g2, .cells t.enc)) :: H, c⟩, [.t 4], 0⟩ ⟨.bool (decide (r1 = r2) && true), []⟩
  | [], d1, [], d2, T, H, c, n, e1, e2, hn1, hn2 => by
    have hd : s.acts.length = d1.length := by simp [e1]
    refine ev_loop' (W_ok 300 _ _ _ _ ?_)
    repeat' (first | refine stpA ?_ | (refine condS ?_ ?_ <;> intro h))
    (first | refine fin1 ?_ | refine fin0 ?_); simp
  | x :: r1, d1, y :: r2, d2, T, H, c, n, e1, e2, hn1, hn2 => by
    have hd : s.acts.length = d1.length + (r1.length + 1) := by simp [e1]
    have hl1 : (s.acts.map Actn.enc).length = s.acts.length := by simp
    have hl2 : (t.acts.map Actn.enc).length = s.acts.length := by simp [hst]
    have hx : (s.acts.map Actn.enc)[n.toNat]? = some x.enc := by simp [e1, hn1]
    have hy : (t.acts.map Actn.enc)[n.toNat]? = some y.enc := by simp [e2, hn1]; rw [show d1.length = d2.length by omega]; simp
    have he := eqs_Actn x y
    by_cases h : x = y
    · rw [decide_eq_true h] at he
      rw [show decide (x :: r1 = y :: r2) = decide (r1 = r2) from by simp [h]]
      refine ev_loop' (W_ok 300 _ _ _ _ ?_)
      repeat' ((conv => whnf); first | refine zEqs he ?_ | refine bslP (by first | rfl | (simp [pureL, pureLL, AV.pure]; done) | fail) rfl ?_ | refine TakeC.full (by first | rfl | omega | (simp; done) | (simp; omega) | fail) ?_ | refine zBs ?_ | refine zBn ?_ | refine zBv rfl rfl ?_ | refine zN ?_ | refine zC ?_ | refine zC4 ?_ | refine zOr16 ?_ | refine zC1 ?_ | refine zByte ?_ | refine zMaxL ?_ | refine zMaxR ?_ | refine zMinL ?_ | refine zMinR ?_ | refine zShr ?_ | refine zC8 ?_ | refine zQ ?_ | refine zR ?_ | refine zS ?_ | refine zA ?_ | refine zM ?_ | refine xr rfl ?_ | refine ai rfl ?_ | refine condT ?_ | refine condF ?_ | refine condG1 ?_ | refine condG0 ?_ | refine cD ?_ | refine dD ?_ | refine cB ?_ | refine dB ?_ | refine cN ?_ | refine dN ?_ | refine cV ?_ | refine dV ?_ | refine cE ?_ | refine dE ?_ | refine condX0 ?_ | refine condX1 ?_ | refine condNot ?_ | refine condAnd ?_ | refine condOr ?_ | refine aO ?_ | refine aB ?_ | refine aR ?_ | refine aR ?_ (by simp; omega) | refine xr (by assumption) ?_ | refine ai (by assumption) ?_ | refine kV (by assumption) ?_ | refine kN (by assumption) ?_ | refine callW (by assumption) ?_ | refine condD (fun h => ?_) (fun h => ?_) | refine condB (fun h => ?_) (fun h => ?_) | refine condN (fun h => ?_) (fun h => ?_) | refine condE (fun h => ?_) (fun h => ?_) | refine condV (fun h => ?_) (fun h => ?_))
      refine ev_keep [58, 3, 2, 57] [66, 67] ?_
      exact tm_loop16 s t hst hsl g1 g2 r1 (d1 ++ [x]) r2 (d2 ++ [y]) _ _ _ (n + 1) (by simp [e1]) (by simp [e2]) (by simp [hn1]) (by simp; omega)
    · rw [decide_eq_false h] at he
      rw [show decide (x :: r1 = y :: r2) = false from by simp [h], Bool.false_and]
      refine ev_loop' (W_ok 300 _ _ _ _ ?_)
      repeat' ((conv => whnf); first | refine zEqs he ?_ | refine bslP (by first | rfl | (simp [pureL, pureLL, AV.pure]; done) | fail) rfl ?_ | refine TakeC.full (by first | rfl | omega | (simp; done) | (simp; omega) | fail) ?_ | refine zBs ?_ | refine zBn ?_ | refine zBv rfl rfl ?_ | refine zN ?_ | refine zC ?_ | refine zC4 ?_ | refine zOr16 ?_ | refine zC1 ?_ | refine zByte ?_ | refine zMaxL ?_ | refine zMaxR ?_ | refine zMinL ?_ | refine zMinR ?_ | refine zShr ?_ | refine zC8 ?_ | refine zQ ?_ | refine zR ?_ | refine zS ?_ | refine zA ?_ | refine zM ?_ | refine xr rfl ?_ | refine ai rfl ?_ | refine condT ?_ | refine condF ?_ | refine condG1 ?_ | refine condG0 ?_ | refine cD ?_ | refine dD ?_ | refine cB ?_ | refine dB ?_ | refine cN ?_ | refine dN ?_ | refine cV ?_ | refine dV ?_ | refine cE ?_ | refine dE ?_ | refine condX0 ?_ | refine condX1 ?_ | refine condNot ?_ | refine condAnd ?_ | refine condOr ?_ | refine aO ?_ | refine aB ?_ | refine aR ?_ | refine aR ?_ (by simp; omega) | refine xr (by assumption) ?_ | refine ai (by assumption) ?_ | refine kV (by assumption) ?_ | refine kN (by assumption) ?_ | refine callW (by assumption) ?_ | refine condD (fun h => ?_) (fun h => ?_) | refine condB (fun h => ?_) (fun h => ?_) | refine condN (fun h => ?_) (fun h => ?_) | refine condE (fun h => ?_) (fun h => ?_) | refine condV (fun h => ?_) (fun h => ?_))
      (first | refine fin1 ?_ | refine fin0 ?_); rfl
  | [], d1, y :: r2, d2, T, H, c, n, e1, e2, hn1, hn2 => by
    exfalso; rw [e1, e2] at hst; simp at hst; omega
  | x :: r1, d1, [], d2, T, H, c, n, e1, e2, hn1, hn2 => by
    exfalso; rw [e1, e2] at hst; simp at hst; omega
theorem tm_loop9 (s t : Trm) (hst : s.mats.length = t.mats.length) (hsl : s.mats.length < 2 ^ 40) (hat : s.acts.length = t.acts.length) (hal : s.acts.length < 2 ^ 40) (g1 g2 : Nat) : ∀ (r1 d1 r2 d2 : List Mat) (T : List (Nat × AV)) (H : Heap) (c : Nat) (n : Int) (e1 : s.mats = d1 ++ r1) (e2 : t.mats = d2 ++ r2) (hn1 : n = d1.length) (hn2 : n = d2.length),
   Ev G ⟨f557x9LH, ⟨(40, .int .i64 n) :: (3, .ref 67 g2 0) :: (2, .ref 66 g1 0) :: (39, .int .i64 s.mats.length) :: T, (66, some (g1, .cells s.enc)) :: (67, some (g2, .cells t.enc)) :: H, c⟩, [.t 4], 0⟩ ⟨.bool (decide (r1 = r2) && decide (s.acts = t.acts)), []⟩
  | [], d1, [], d2, T, H, c, n, e1, e2, hn1, hn2 => by
    have hd : s.mats.length = d1.length := by simp [e1]
    have m1 : (s.acts.map Actn.enc).length = s.acts.length := by simp
    refine ev_loop' (W_ok 300 _ _ _ _ ?_)
    repeat' (first | refine stpA ?_ | (refine condS ?_ ?_ <;> intro h))
    refine ev_keep [58, 3, 2, 57] [66, 67] ?_
    rw [m1, show (decide (([] : List Mat) = []) && decide (s.acts = t.acts)) = (decide (s.acts = t.acts) && true) from by simp]
    exact tm_loop16 s t hat hal g1 g2 s.acts [] t.acts [] _ _ _ 0 rfl rfl rfl rfl
  | x :: r1, d1, y :: r2, d2, T, H, c, n, e1, e2, hn1, hn2 => by
    have hd : s.mats.length = d1.length + (r1.length + 1) := by simp [e1]
    have hl1 : (s.mats.map Mat.enc).length = s.mats.length := by simp
    have hl2 : (t.mats.map Mat.enc).length = s.mats.length := by simp [hst]
    have hx : (s.mats.map Mat.enc)[n.toNat]? = some x.enc := by simp [e1, hn1]
    have hy : (t.mats.map Mat.enc)[n.toNat]? = some y.enc := by simp [e2, hn1]; rw [show d1.length = d2.length by omega]; simp
    have he := eqs_Mat x y
    by_cases h : x = y
    · rw [decide_eq_true h] at he
      rw [show decide (x :: r1 = y :: r2) = decide (r1 = r2) from by simp [h]]
      refine ev_loop' (W_ok 300 _ _ _ _ ?_)
      repeat' ((conv => whnf); first | refine zEqs he ?_ | refine bslP (by first | rfl | (simp [pureL, pureLL, AV.pure]; done) | fail) rfl ?_ | refine TakeC.full (by first | rfl | omega | (simp; done) | (simp; omega) | fail) ?_ | refine zBs ?_ | refine zBn ?_ | refine zBv rfl rfl ?_ | refine zN ?_ | refine zC ?_ | refine zC4 ?_ | refine zOr16 ?_ | refine zC1 ?_ | refine zByte ?_ | refine zMaxL ?_ | refine zMaxR ?_ | refine zMinL ?_ | refine zMinR ?_ | refine zShr ?_ | refine zC8 ?_ | refine zQ ?_ | refine zR ?_ | refine zS ?_ | refine zA ?_ | refine zM ?_ | refine xr rfl ?_ | refine ai rfl ?_ | refine condT ?_ | refine condF ?_ | refine condG1 ?_ | refine condG0 ?_ | refine cD ?_ | refine dD ?_ | refine cB ?_ | refine dB ?_ | refine cN ?_ | refine dN ?_ | refine cV ?_ | refine dV ?_ | refine cE ?_ | refine dE ?_ | refine condX0 ?_ | refine condX1 ?_ | refine condNot ?_ | refine condAnd ?_ | refine condOr ?_ | refine aO ?_ | refine aB ?_ | refine aR ?_ | refine aR ?_ (by simp; omega) | refine xr (by assumption) ?_ | refine ai (by assumption) ?_ | refine kV (by assumption) ?_ | refine kN (by assumption) ?_ | refine callW (by assumption) ?_ | refine condD (fun h => ?_) (fun h => ?_) | refine condB (fun h => ?_) (fun h => ?_) | refine condN (fun h => ?_) (fun h => ?_) | refine condE (fun h => ?_) (fun h => ?_) | refine condV (fun h => ?_) (fun h => ?_))
      refine ev_keep [40, 3, 2, 39] [66, 67] ?_
      exact tm_loop9 s t hst hsl hat hal g1 g2 r1 (d1 ++ [x]) r2 (d2 ++ [y]) _ _ _ (n + 1) (by simp [e1]) (by simp [e2]) (by simp [hn1]) (by simp; omega)
    · rw [decide_eq_false h] at he
      rw [show decide (x :: r1 = y :: r2) = false from by simp [h], Bool.false_and]
      refine ev_loop' (W_ok 300 _ _ _ _ ?_)
      repeat' ((conv => whnf); first | refine zEqs he ?_ | refine bslP (by first | rfl | (simp [pureL, pureLL, AV.pure]; done) | fail) rfl ?_ | refine TakeC.full (by first | rfl | omega | (simp; done) | (simp; omega) | fail) ?_ | refine zBs ?_ | refine zBn ?_ | refine zBv rfl rfl ?_ | refine zN ?_ | refine zC ?_ | refine zC4 ?_ | refine zOr16 ?_ | refine zC1 ?_ | refine zByte ?_ | refine zMaxL ?_ | refine zMaxR ?_ | refine zMinL ?_ | refine zMinR ?_ | refine zShr ?_ | refine zC8 ?_ | refine zQ ?_ | refine zR ?_ | refine zS ?_ | refine zA ?_ | refine zM ?_ | refine xr rfl ?_ | refine ai rfl ?_ | refine condT ?_ | refine condF ?_ | refine condG1 ?_ | refine condG0 ?_ | refine cD ?_ | refine dD ?_ | refine cB ?_ | refine dB ?_ | refine cN ?_ | refine dN ?_ | refine cV ?_ | refine dV ?_ | refine cE ?_ | refine dE ?_ | refine condX0 ?_ | refine condX1 ?_ | refine condNot ?_ | refine condAnd ?_ | refine condOr ?_ | refine aO ?_ | refine aB ?_ | refine aR ?_ | refine aR ?_ (by simp; omega) | refine xr (by assumption) ?_ | refine ai (by assumption) ?_ | refine kV (by assumption) ?_ | refine kN (by assumption) ?_ | refine callW (by assumption) ?_ | refine condD (fun h => ?_) (fun h => ?_) | refine condB (fun h => ?_) (fun h => ?_) | refine condN (fun h => ?_) (fun h => ?_) | refine condE (fun h => ?_) (fun h => ?_) | refine condV (fun h => ?_) (fun h => ?_))
      (first | refine fin1 ?_ | refine fin0 ?_); rfl
  | [], d1, y :: r2, d2, T, H, c, n, e1, e2, hn1, hn2 => by
    exfalso; rw [e1, e2] at hst; simp at hst; omega
  | x :: r1, d1, [], d2, T, H, c, n, e1, e2, hn1, hn2 => by
    exfalso; rw [e1, e2] at hst; simp at hst; omega
theorem tm_gives557 (s t : Trm) (hs : s.fits) (ht : t.fits) : Gives G 557 [.agg s.enc, .agg t.enc] [] ⟨.bool (decide (s = t)), []⟩ := by
  have m1 : (s.mats.map Mat.enc).length = s.mats.length := by simp
  have m2 : (t.mats.map Mat.enc).length = t.mats.length := by simp
  have m3 : (s.acts.map Actn.enc).length = s.acts.length := by simp
  have m4 : (t.acts.map Actn.enc).length = t.acts.length := by simp
  obtain ⟨q1, q2⟩ := hs
  obtain ⟨q3, q4⟩ := ht
  by_cases hn : s.name = t.name
  · by_cases hv : s.verdict = t.verdict
    · by_cases h1 : s.mats.length = t.mats.length
      · by_cases h2 : s.acts.length = t.acts.length
        · rw [show decide (s = t) = (decide (s.mats = t.mats) && decide (s.acts = t.acts)) from by rw [Bool.eq_iff_iff]; cases s; cases t; simp_all]
          refine gives_code (F := f557) rfl rfl (W_ok 300 _ _ _ _ ?_)
          repeat' ((conv => whnf); first | refine zSneF hn ?_ | refine bslP (by first | rfl | (simp [pureL, pureLL, AV.pure]; done) | fail) rfl ?_ | refine TakeC.full (by first | rfl | omega | (simp; done) | (simp; omega) | fail) ?_ | refine zBs ?_ | refine zBn ?_ | refine zBv rfl rfl ?_ | refine zN ?_ | refine zC ?_ | refine zC4 ?_ | refine zOr16 ?_ | refine zC1 ?_ | refine zByte ?_ | refine zMaxL ?_ | refine zMaxR ?_ | refine zMinL ?_ | refine zMinR ?_ | refine zShr ?_ | refine zC8 ?_ | refine zQ ?_ | refine zR ?_ | refine zS ?_ | refine zA ?_ | refine zM ?_ | refine xr rfl ?_ | refine ai rfl ?_ | refine condT ?_ | refine condF ?_ | refine condG1 ?_ | refine condG0 ?_ | refine cD ?_ | refine dD ?_ | refine cB ?_ | refine dB ?_ | refine cN ?_ | refine dN ?_ | refine cV ?_ | refine dV ?_ | refine cE ?_ | refine dE ?_ | refine condX0 ?_ | refine condX1 ?_ | refine condNot ?_ | refine condAnd ?_ | refine condOr ?_ | refine aO ?_ | refine aB ?_ | refine aR ?_ | refine aR ?_ (by simp; omega) | refine xr (by assumption) ?_ | refine ai (by assumption) ?_ | refine kV (by assumption) ?_ | refine kN (by assumption) ?_ | refine callW (by assumption) ?_ | refine condD (fun h => ?_) (fun h => ?_) | refine condB (fun h => ?_) (fun h => ?_) | refine condN (fun h => ?_) (fun h => ?_) | refine condE (fun h => ?_) (fun h => ?_) | refine condV (fun h => ?_) (fun h => ?_))
          refine ev_keep [40, 3, 2, 39] [66, 67] ?_
          rw [m1]
          exact tm_loop9 s t h1 q1 h2 q2 _ _ s.mats [] t.mats [] _ _ _ 0 rfl rfl rfl rfl
        · rw [show decide (s = t) = false from by rw [decide_eq_false]; intro q; apply h2; rw [q]]
          refine gives_code (F := f557) rfl rfl (W_ok 300 _ _ _ _ ?_)
          repeat' ((conv => whnf); first | refine zSneF hn ?_ | refine bslP (by first | rfl | (simp [pureL, pureLL, AV.pure]; done) | fail) rfl ?_ | refine TakeC.full (by first | rfl | omega | (simp; done) | (simp; omega) | fail) ?_ | refine zBs ?_ | refine zBn ?_ | refine zBv rfl rfl ?_ | refine zN ?_ | refine zC ?_ | refine zC4 ?_ | refine zOr16 ?_ | refine zC1 ?_ | refine zByte ?_ | refine zMaxL ?_ | refine zMaxR ?_ | refine zMinL ?_ | refine zMinR ?_ | refine zShr ?_ | refine zC8 ?_ | refine zQ ?_ | refine zR ?_ | refine zS ?_ | refine zA ?_ | refine zM ?_ | refine xr rfl ?_ | refine ai rfl ?_ | refine condT ?_ | refine condF ?_ | refine condG1 ?_ | refine condG0 ?_ | refine cD ?_ | refine dD ?_ | refine cB ?_ | refine dB ?_ | refine cN ?_ | refine dN ?_ | refine cV ?_ | refine dV ?_ | refine cE ?_ | refine dE ?_ | refine condX0 ?_ | refine condX1 ?_ | refine condNot ?_ | refine condAnd ?_ | refine condOr ?_ | refine aO ?_ | refine aB ?_ | refine aR ?_ | refine aR ?_ (by simp; omega) | refine xr (by assumption) ?_ | refine ai (by assumption) ?_ | refine kV (by assumption) ?_ | refine kN (by assumption) ?_ | refine callW (by assumption) ?_ | refine condD (fun h => ?_) (fun h => ?_) | refine condB (fun h => ?_) (fun h => ?_) | refine condN (fun h => ?_) (fun h => ?_) | refine condE (fun h => ?_) (fun h => ?_) | refine condV (fun h => ?_) (fun h => ?_))
          (first | refine fin1 ?_ | refine fin0 ?_); rfl
      · rw [show decide (s = t) = false from by rw [decide_eq_false]; intro q; apply h1; rw [q]]
        refine gives_code (F := f557) rfl rfl (W_ok 300 _ _ _ _ ?_)
        repeat' ((conv => whnf); first | refine zSneF hn ?_ | refine bslP (by first | rfl | (simp [pureL, pureLL, AV.pure]; done) | fail) rfl ?_ | refine TakeC.full (by first | rfl | omega | (simp; done) | (simp; omega) | fail) ?_ | refine zBs ?_ | refine zBn ?_ | refine zBv rfl rfl ?_ | refine zN ?_ | refine zC ?_ | refine zC4 ?_ | refine zOr16 ?_ | refine zC1 ?_ | refine zByte ?_ | refine zMaxL ?_ | refine zMaxR ?_ | refine zMinL ?_ | refine zMinR ?_ | refine zShr ?_ | refine zC8 ?_ | refine zQ ?_ | refine zR ?_ | refine zS ?_ | refine zA ?_ | refine zM ?_ | refine xr rfl ?_ | refine ai rfl ?_ | refine condT ?_ | refine condF ?_ | refine condG1 ?_ | refine condG0 ?_ | refine cD ?_ | refine dD ?_ | refine cB ?_ | refine dB ?_ | refine cN ?_ | refine dN ?_ | refine cV ?_ | refine dV ?_ | refine cE ?_ | refine dE ?_ | refine condX0 ?_ | refine condX1 ?_ | refine condNot ?_ | refine condAnd ?_ | refine condOr ?_ | refine aO ?_ | refine aB ?_ | refine aR ?_ | refine aR ?_ (by simp; omega) | refine xr (by assumption) ?_ | refine ai (by assumption) ?_ | refine kV (by assumption) ?_ | refine kN (by assumption) ?_ | refine callW (by assumption) ?_ | refine condD (fun h => ?_) (fun h => ?_) | refine condB (fun h => ?_) (fun h => ?_) | refine condN (fun h => ?_) (fun h => ?_) | refine condE (fun h => ?_) (fun h => ?_) | refine condV (fun h => ?_) (fun h => ?_))
        (first | refine fin1 ?_ | refine fin0 ?_); rfl
    · rw [show decide (s = t) = false from by rw [decide_eq_false]; intro q; apply hv; rw [q]]
      refine gives_code (F := f557) rfl rfl (W_ok 300 _ _ _ _ ?_)
      repeat' ((conv => whnf); first | refine zSneF hn ?_ | refine bslP (by first | rfl | (simp [pureL, pureLL, AV.pure]; done) | fail) rfl ?_ | refine TakeC.full (by first | rfl | omega | (simp; done) | (simp; omega) | fail) ?_ | refine zBs ?_ | refine zBn ?_ | refine zBv rfl rfl ?_ | refine zN ?_ | refine zC ?_ | refine zC4 ?_ | refine zOr16 ?_ | refine zC1 ?_ | refine zByte ?_ | refine zMaxL ?_ | refine zMaxR ?_ | refine zMinL ?_ | refine zMinR ?_ | refine zShr ?_ | refine zC8 ?_ | refine zQ ?_ | refine zR ?_ | refine zS ?_ | refine zA ?_ | refine zM ?_ | refine xr rfl ?_ | refine ai rfl ?_ | refine condT ?_ | refine condF ?_ | refine condG1 ?_ | refine condG0 ?_ | refine cD ?_ | refine dD ?_ | refine cB ?_ | refine dB ?_ | refine cN ?_ | refine dN ?_ | refine cV ?_ | refine dV ?_ | refine cE ?_ | refine dE ?_ | refine condX0 ?_ | refine condX1 ?_ | refine condNot ?_ | refine condAnd ?_ | refine condOr ?_ | refine aO ?_ | refine aB ?_ | refine aR ?_ | refine aR ?_ (by simp; omega) | refine xr (by assumption) ?_ | refine ai (by assumption) ?_ | refine kV (by assumption) ?_ | refine kN (by assumption) ?_ | refine callW (by assumption) ?_ | refine condD (fun h => ?_) (fun h => ?_) | refine condB (fun h => ?_) (fun h => ?_) | refine condN (fun h => ?_) (fun h => ?_) | refine condE (fun h => ?_) (fun h => ?_) | refine condV (fun h => ?_) (fun h => ?_))
      (first | refine fin1 ?_ | refine fin0 ?_); rfl
  · rw [show decide (s = t) = false from by rw [decide_eq_false]; intro q; apply hn; rw [q]]
    refine gives_code (F := f557) rfl rfl (W_ok 300 _ _ _ _ ?_)
    repeat' ((conv => whnf); first | refine zSneT hn ?_ | refine bslP (by first | rfl | (simp [pureL, pureLL, AV.pure]; done) | fail) rfl ?_ | refine TakeC.full (by first | rfl | omega | (simp; done) | (simp; omega) | fail) ?_ | refine zBs ?_ | refine zBn ?_ | refine zBv rfl rfl ?_ | refine zN ?_ | refine zC ?_ | refine zC4 ?_ | refine zOr16 ?_ | refine zC1 ?_ | refine zByte ?_ | refine zMaxL ?_ | refine zMaxR ?_ | refine zMinL ?_ | refine zMinR ?_ | refine zShr ?_ | refine zC8 ?_ | refine zQ ?_ | refine zR ?_ | refine zS ?_ | refine zA ?_ | refine zM ?_ | refine xr rfl ?_ | refine ai rfl ?_ | refine condT ?_ | refine condF ?_ | refine condG1 ?_ | refine condG0 ?_ | refine cD ?_ | refine dD ?_ | refine cB ?_ | refine dB ?_ | refine cN ?_ | refine dN ?_ | refine cV ?_ | refine dV ?_ | refine cE ?_ | refine dE ?_ | refine condX0 ?_ | refine condX1 ?_ | refine condNot ?_ | refine condAnd ?_ | refine condOr ?_ | refine aO ?_ | refine aB ?_ | refine aR ?_ | refine aR ?_ (by simp; omega) | refine xr (by assumption) ?_ | refine ai (by assumption) ?_ | refine kV (by assumption) ?_ | refine kN (by assumption) ?_ | refine callW (by assumption) ?_ | refine condD (fun h => ?_) (fun h => ?_) | refine condB (fun h => ?_) (fun h => ?_) | refine condN (fun h => ?_) (fun h => ?_) | refine condE (fun h => ?_) (fun h => ?_) | refine condV (fun h => ?_) (fun h => ?_))
    (first | refine fin1 ?_ | refine fin0 ?_); rfl
theorem sp_loop15 (s t : PSet) (hlen : s.pols.length = t.pols.length) (hl : s.pols.length < 2 ^ 40) (i : Int) (p q : Pol) (h0 : 0 ≤ i) (hi : i < s.pols.length) (hpq : p.terms.length = q.terms.length) (hp : p.fits) (hq : q.fits) (R : Bool) (g1 g2 : Nat)
   (go : ∀ T H c, Ev G ⟨f479x17LH, ⟨(43, .int .i64 (i + 1)) :: (3, .ref 67 2 0) :: (2, .ref 66 1 0) :: (42, .int .i64 s.pols.length) :: T, (66, some (1, .cells s.enc)) :: (67, some (2, .cells t.enc)) :: H, c⟩, [.t 4], 0⟩ ⟨.bool R, []⟩) : ∀ (r1 d1 r2 d2 : List Trm) (T : List (Nat × AV)) (H : Heap) (c : Nat) (n : Int) (e1 : p.terms = d1 ++ r1) (e2 : q.terms = d2 ++ r2) (hn1 : n = d1.length) (hn2 : n = d2.length),
   Ev G ⟨f479x15LH, ⟨(80, .int .i64 n) :: (7, .ref 71 g2 0) :: (6, .ref 70 g1 0) :: (3, .ref 67 2 0) :: (2, .ref 66 1 0) :: (42, .int .i64 s.pols.length) :: (43, .int .i64 i) :: (79, .int .i64 p.terms.length) :: T, (66, some (1, .cells s.enc)) :: (67, some (2, .cells t.enc)) :: (70, some (g1, .cells p.enc)) :: (71, some (g2, .cells q.enc)) :: H, c⟩, [.t 4], 0⟩ ⟨.bool (decide (r1 = r2) && R), []⟩
  | [], d1, [], d2, T, H, c, n, e1, e2, hn1, hn2 => by
    have hd : p.terms.length = d1.length := by simp [e1]
    refine ev_loop' (W_ok 300 _ _ _ _ ?_)
    repeat' (first | refine stpA ?_ | (refine condS ?_ ?_ <;> intro h))
    refine ev_keep [43, 3, 2, 42] [66, 67] ?_
    rw [show (decide (([] : List Trm) = []) && R) = R from by simp]
    exact go _ _ _
  | x :: r1, d1, y :: r2, d2, T, H, c, n, e1, e2, hn1, hn2 => by
    have hq1 := hp.1
    have hd : p.terms.length = d1.length + (r1.length + 1) := by simp [e1]
    have hl1 : (p.terms.map Trm.enc).length = p.terms.length := by simp
    have hl2 : (q.terms.map Trm.enc).length = p.terms.length := by simp [hpq]
    have hx : (p.terms.map Trm.enc)[n.toNat]? = some x.enc := by simp [e1, hn1]
    have hy : (q.terms.map Trm.enc)[n.toNat]? = some y.enc := by simp [e2, hn1]; rw [show d1.length = d2.length by omega]; simp
    have he := tm_gives557 x y (hp.2 x (by simp [e1])) (hq.2 y (by simp [e2]))
    by_cases h : x = y
    · rw [decide_eq_true h] at he
      rw [show decide (x :: r1 = y :: r2) = decide (r1 = r2) from by simp [h]]
      refine ev_loop' (W_ok 300 _ _ _ _ ?_)
      repeat' (first | refine stpA ?_ | (refine condS ?_ ?_ <;> intro h))
      refine ev_keep [80, 7, 6, 3, 2, 42, 43, 79] [66, 67, 70, 71] ?_
      exact sp_loop15 s t hlen hl i p q h0 hi hpq hp hq R g1 g2 go r1 (d1 ++ [x]) r2 (d2 ++ [y]) _ _ _ (n + 1) (by simp [e1]) (by simp [e2]) (by simp [hn1]) (by simp; omega)
    · rw [decide_eq_false h] at he
      rw [show decide (x :: r1 = y :: r2) = false from by simp [h], Bool.false_and]
      refine ev_loop' (W_ok 300 _ _ _ _ ?_)
      repeat' (first | refine stpA ?_ | (refine condS ?_ ?_ <;> intro h))
      (first | refine fin1 ?_ | refine fin0 ?_); rfl
  | [], d1, y :: r2, d2, T, H, c, n, e1, e2, hn1, hn2 => by
    exfalso; rw [e1, e2] at hpq; simp at hpq; omega
  | x :: r1, d1, [], d2, T, H, c, n, e1, e2, hn1, hn2 => by
    exfalso; rw [e1, e2] at hpq; simp at hpq; omega
theorem sp_loop17 (s t : PSet) (hlen : s.pols.length = t.pols.length) (hl : s.pols.length < 2 ^ 40) (hs : ∀ x ∈ s.pols, x.fits) (ht : ∀ x ∈ t.pols, x.fits) : ∀ (r1 d1 r2 d2 : List Pol) (T : List (Nat × AV)) (H : Heap) (c : Nat) (n : Int) (e1 : s.pols = d1 ++ r1) (e2 : t.pols = d2 ++ r2) (hn1 : n = d1.length) (hn2 : n = d2.length),
   Ev G ⟨f479x17LH, ⟨(43, .int .i64 n) :: (3, .ref 67 2 0) :: (2, .ref 66 1 0) :: (42, .int .i64 s.pols.length) :: T, (66, some (1, .cells s.enc)) :: (67, some (2, .cells t.enc)) :: H, c⟩, [.t 4], 0⟩ ⟨.bool (decide (r1 = r2)), []⟩
  | [], d1, [], d2, T, H, c, n, e1, e2, hn1, hn2 => by
    have hd : s.pols.length = d1.length := by simp [e1]
    refine ev_loop' (W_ok 300 _ _ _ _ ?_)
    repeat' (first | refine stpA ?_ | (refine condS ?_ ?_ <;> intro h))
    (first | refine fin1 ?_ | refine fin0 ?_); rfl
  | x :: r1, d1, y :: r2, d2, T, H, c, n, e1, e2, hn1, hn2 => by
    have hd : s.pols.length = d1.length + (r1.length + 1) := by simp [e1]
    have hla : (s.pols.map Pol.enc).length = s.pols.length := by simp
    have hlb : (t.pols.map Pol.enc).length = s.pols.length := by simp [hlen]
    have hx : (s.pols.map Pol.enc)[n.toNat]? = some x.enc := by simp [e1, hn1]
    have hy : (t.pols.map Pol.enc)[n.toNat]? = some y.enc := by simp [e2, hn1]; rw [show d1.length = d2.length by omega]; simp
    have m1 : (x.terms.map Trm.enc).length = x.terms.length := by simp
    have m2 : (y.terms.map Trm.enc).length = y.terms.length := by simp
    by_cases hn : x.name = y.name
    · by_cases hv : x.dflt = y.dflt
      · by_cases hr : x.terms.length = y.terms.length
        · rw [show decide (x :: r1 = y :: r2) = (decide (x.terms = y.terms) && decide (r1 = r2)) from by rw [Bool.eq_iff_iff]; cases x; cases y; simp at hn hv; subst hn; subst hv; simp]
          refine ev_loop' (W_ok 300 _ _ _ _ ?_)
          repeat' ((conv => whnf); first | refine zSneF hn ?_ | refine bslP (by first | rfl | (simp [pureL, pureLL, AV.pure]; done) | fail) rfl ?_ | refine TakeC.full (by first | rfl | omega | (simp; done) | (simp; omega) | fail) ?_ | refine zBs ?_ | refine zBn ?_ | refine zBv rfl rfl ?_ | refine zN ?_ | refine zC ?_ | refine zC4 ?_ | refine zOr16 ?_ | refine zC1 ?_ | refine zByte ?_ | refine zMaxL ?_ | refine zMaxR ?_ | refine zMinL ?_ | refine zMinR ?_ | refine zShr ?_ | refine zC8 ?_ | refine zQ ?_ | refine zR ?_ | refine zS ?_ | refine zA ?_ | refine zM ?_ | refine xr rfl ?_ | refine ai rfl ?_ | refine condT ?_ | refine condF ?_ | refine condG1 ?_ | refine condG0 ?_ | refine cD ?_ | refine dD ?_ | refine cB ?_ | refine dB ?_ | refine cN ?_ | refine dN ?_ | refine cV ?_ | refine dV ?_ | refine cE ?_ | refine dE ?_ | refine condX0 ?_ | refine condX1 ?_ | refine condNot ?_ | refine condAnd ?_ | refine condOr ?_ | refine aO ?_ | refine aB ?_ | refine aR ?_ | refine aR ?_ (by simp; omega) | refine xr (by assumption) ?_ | refine ai (by assumption) ?_ | refine kV (by assumption) ?_ | refine kN (by assumption) ?_ | refine callW (by assumption) ?_ | refine condD (fun h => ?_) (fun h => ?_) | refine condB (fun h => ?_) (fun h => ?_) | refine condN (fun h => ?_) (fun h => ?_) | refine condE (fun h => ?_) (fun h => ?_) | refine condV (fun h => ?_) (fun h => ?_))
          refine ev_keep [80, 7, 6, 3, 2, 42, 43, 79] [66, 67, 70, 71] ?_
          rw [m1]
          exact sp_loop15 s t hlen hl n x y (by omega) (by omega) hr (hs x (by simp [e1])) (ht y (by simp [e2])) _ _ _ (fun T H c => sp_loop17 s t hlen hl hs ht r1 (d1 ++ [x]) r2 (d2 ++ [y]) T H c (n + 1) (by simp [e1]) (by simp [e2]) (by simp [hn1]) (by simp; omega)) x.terms [] y.terms [] _ _ _ 0 rfl rfl rfl rfl
        · rw [show decide (x :: r1 = y :: r2) = false from by rw [decide_eq_false]; intro q; apply hr; rw [(List.cons.inj q).1]]
          refine ev_loop' (W_ok 300 _ _ _ _ ?_)
          repeat' ((conv => whnf); first | refine zSneF hn ?_ | refine bslP (by first | rfl | (simp [pureL, pureLL, AV.pure]; done) | fail) rfl ?_ | refine TakeC.full (by first | rfl | omega | (simp; done) | (simp; omega) | fail) ?_ | refine zBs ?_ | refine zBn ?_ | refine zBv rfl rfl ?_ | refine zN ?_ | refine zC ?_ | refine zC4 ?_ | refine zOr16 ?_ | refine zC1 ?_ | refine zByte ?_ | refine zMaxL ?_ | refine zMaxR ?_ | refine zMinL ?_ | refine zMinR ?_ | refine zShr ?_ | refine zC8 ?_ | refine zQ ?_ | refine zR ?_ | refine zS ?_ | refine zA ?_ | refine zM ?_ | refine xr rfl ?_ | refine ai rfl ?_ | refine condT ?_ | refine condF ?_ | refine condG1 ?_ | refine condG0 ?_ | refine cD ?_ | refine dD ?_ | refine cB ?_ | refine dB ?_ | refine cN ?_ | refine dN ?_ | refine cV ?_ | refine dV ?_ | refine cE ?_ | refine dE ?_ | refine condX0 ?_ | refine condX1 ?_ | refine condNot ?_ | refine condAnd ?_ | refine condOr ?_ | refine aO ?_ | refine aB ?_ | refine aR ?_ | refine aR ?_ (by simp; omega) | refine xr (by assumption) ?_ | refine ai (by assumption) ?_ | refine kV (by assumption) ?_ | refine kN (by assumption) ?_ | refine callW (by assumption) ?_ | refine condD (fun h => ?_) (fun h => ?_) | refine condB (fun h => ?_) (fun h => ?_) | refine condN (fun h => ?_) (fun h => ?_) | refine condE (fun h => ?_) (fun h => ?_) | refine condV (fun h => ?_) (fun h => ?_))
          (first | refine fin1 ?_ | refine fin0 ?_); rfl
      · rw [show decide (x :: r1 = y :: r2) = false from by rw [decide_eq_false]; intro q; apply hv; rw [(List.cons.inj q).1]]
        refine ev_loop' (W_ok 300 _ _ _ _ ?_)
        repeat' ((conv => whnf); first | refine zSneF hn ?_ | refine bslP (by first | rfl | (simp [pureL, pureLL, AV.pure]; done) | fail) rfl ?_ | refine TakeC.full (by first | rfl | omega | (simp; done) | (simp; omega) | fail) ?_ | refine zBs ?_ | refine zBn ?_ | refine zBv rfl rfl ?_ | refine zN ?_ | refine zC ?_ | refine zC4 ?_ | refine zOr16 ?_ | refine zC1 ?_ | refine zByte ?_ | refine zMaxL ?_ | refine zMaxR ?_ | refine zMinL ?_ | refine zMinR ?_ | refine zShr ?_ | refine zC8 ?_ | refine zQ ?_ | refine zR ?_ | refine zS ?_ | refine zA ?_ | refine zM ?_ | refine xr rfl ?_ | refine ai rfl ?_ | refine condT ?_ | refine condF ?_ | refine condG1 ?_ | refine condG0 ?_ | refine cD ?_ | refine dD ?_ | refine cB ?_ | refine dB ?_ | refine cN ?_ | refine dN ?_ | refine cV ?_ | refine dV ?_ | refine cE ?_ | refine dE ?_ | refine condX0 ?_ | refine condX1 ?_ | refine condNot ?_ | refine condAnd ?_ | refine condOr ?_ | refine aO ?_ | refine aB ?_ | refine aR ?_ | refine aR ?_ (by simp; omega) | refine xr (by assumption) ?_ | refine ai (by assumption) ?_ | refine kV (by assumption) ?_ | refine kN (by assumption) ?_ | refine callW (by assumption) ?_ | refine condD (fun h => ?_) (fun h => ?_) | refine condB (fun h => ?_) (fun h => ?_) | refine condN (fun h => ?_) (fun h => ?_) | refine condE (fun h => ?_) (fun h => ?_) | refine condV (fun h => ?_) (fun h => ?_))
        (first | refine fin1 ?_ | refine fin0 ?_); rfl
    · rw [show decide (x :: r1 = y :: r2) = false from by rw [decide_eq_false]; intro q; apply hn; rw [(List.cons.inj q).1]]
      refine ev_loop' (W_ok 300 _ _ _ _ ?_)
      repeat' ((conv => whnf); first | refine zSneT hn ?_ | refine bslP (by first | rfl | (simp [pureL, pureLL, AV.pure]; done) | fail) rfl ?_ | refine TakeC.full (by first | rfl | omega | (simp; done) | (simp; omega) | fail) ?_ | refine zBs ?_ | refine zBn ?_ | refine zBv rfl rfl ?_ | refine zN ?_ | refine zC ?_ | refine zC4 ?_ | refine zOr16 ?_ | refine zC1 ?_ | refine zByte ?_ | refine zMaxL ?_ | refine zMaxR ?_ | refine zMinL ?_ | refine zMinR ?_ | refine zShr ?_ | refine zC8 ?_ | refine zQ ?_ | refine zR ?_ | refine zS ?_ | refine zA ?_ | refine zM ?_ | refine xr rfl ?_ | refine ai rfl ?_ | refine condT ?_ | refine condF ?_ | refine condG1 ?_ | refine condG0 ?_ | refine cD ?_ | refine dD ?_ | refine cB ?_ | refine dB ?_ | refine cN ?_ | refine dN ?_ | refine cV ?_ | refine dV ?_ | refine cE ?_ | refine dE ?_ | refine condX0 ?_ | refine condX1 ?_ | refine condNot ?_ | refine condAnd ?_ | refine condOr ?_ | refine aO ?_ | refine aB ?_ | refine aR ?_ | refine aR ?_ (by simp; omega) | refine xr (by assumption) ?_ | refine ai (by assumption) ?_ | refine kV (by assumption) ?_ | refine kN (by assumption) ?_ | refine callW (by assumption) ?_ | refine condD (fun h => ?_) (fun h => ?_) | refine condB (fun h => ?_) (fun h => ?_) | refine condN (fun h => ?_) (fun h => ?_) | refine condE (fun h => ?_) (fun h => ?_) | refine condV (fun h => ?_) (fun h => ?_))
      (first | refine fin1 ?_ | refine fin0 ?_); rfl
  | [], d1, y :: r2, d2, T, H, c, n, e1, e2, hn1, hn2 => by
    exfalso; rw [e1, e2] at hlen; simp at hlen; omega
  | x :: r1, d1, [], d2, T, H, c, n, e1, e2, hn1, hn2 => by
    exfalso; rw [e1, e2] at hlen; simp at hlen; omega
theorem same_gives479 (s t : PSet) (hs : s.fits) (ht : t.fits) : Gives G 479 [.agg s.enc, .agg t.enc] [] ⟨.bool (decide (s = t)), []⟩ := by
  have h1 := ou_gives554 s.prefixes t.prefixes hs.a ht.a hs.a1
  have h2 := ou_gives555 s.paths t.paths hs.b ht.b hs.b1
  have h3 := ou_gives556 s.comms t.comms hs.c ht.c hs.c1
  have m1 : (s.pols.map Pol.enc).length = s.pols.length := by simp
  have m2 : (t.pols.map Pol.enc).length = t.pols.length := by simp
  have hq1 := hs.d
  have hq2 := ht.d
  by_cases e1 : s.prefixes = t.prefixes
  · rw [decide_eq_true e1] at h1
    by_cases e2 : s.paths = t.paths
    · rw [decide_eq_true e2] at h2
      by_cases e3 : s.comms = t.comms
      · rw [decide_eq_true e3] at h3
        by_cases e4 : s.pols.length = t.pols.length
        · rw [show decide (s = t) = decide (s.pols = t.pols) from by cases s; cases t; simp_all]
          refine gives_code (F := f479) rfl rfl (W_ok 300 _ _ _ _ ?_)
          repeat' (first | refine stpA ?_ | (refine condS ?_ ?_ <;> intro h))
          refine ev_keep [43, 3, 2, 42] [66, 67] ?_
          rw [m1]
          exact sp_loop17 s t e4 hs.d hs.d1 ht.d1 s.pols [] t.pols [] _ _ _ 0 rfl rfl rfl rfl
        · rw [show decide (s = t) = false from by rw [decide_eq_false]; intro q; apply e4; rw [q]]
          refine gives_code (F := f479) rfl rfl (W_ok 300 _ _ _ _ ?_)
          repeat' (first | refine stpA ?_ | (refine condS ?_ ?_ <;> intro h))
          (first | refine fin1 ?_ | refine fin0 ?_); rfl
      · rw [decide_eq_false e3] at h3
        rw [show decide (s = t) = false from by rw [decide_eq_false]; intro q; apply e3; rw [q]]
        refine gives_code (F := f479) rfl rfl (W_ok 300 _ _ _ _ ?_)
        repeat' (first | refine stpA ?_ | (refine condS ?_ ?_ <;> intro h))
        (first | refine fin1 ?_ | refine fin0 ?_); rfl
    · rw [decide_eq_false e2] at h2
      rw [show decide (s = t) = false from by rw [decide_eq_false]; intro q; apply e2; rw [q]]
      refine gives_code (F := f479) rfl rfl (W_ok 300 _ _ _ _ ?_)
      repeat' (first | refine stpA ?_ | (refine condS ?_ ?_ <;> intro h))
      (first | refine fin1 ?_ | refine fin0 ?_); rfl
  · rw [decide_eq_false e1] at h1
    rw [show decide (s = t) = false from by rw [decide_eq_false]; intro q; apply e1; rw [q]]
    refine gives_code (F := f479) rfl rfl (W_ok 300 _ _ _ _ ?_)
    repeat' (first | refine stpA ?_ | (refine condS ?_ ?_ <;> intro h))
    (first | refine fin1 ?_ | refine fin0 ?_); rfl
end Go.AM.IR
namespace Go.AM.IR
def polF : List Pol → List UInt8 → Option Pol
  | [], _ => none
  | x :: r, k => if x.name = k then some x else polF r k
def polO : Option Pol → Pol
  | none => ⟨[], [], 0⟩
  | some x => x
def polS (o : Option Pol) : Ret := ⟨.tup [.agg (polO o).enc, .bool o.isSome], []⟩
theorem pol_loop506 (l : List Pol) (k : List UInt8) (g : Nat) (hl : l.length < 2 ^ 40) (ln : Int) (hln : ln = l.length) : ∀ (rest done : List Pol)  (T : List (Nat × AV)) (H : Heap) (c : Nat) (n : Int) (e : l = done ++ rest) (hn : n = done.length) , Ev G ⟨f506x7LH, ⟨(9, .sl 3 (l.map Pol.enc)) :: (10, .int .i64 ln) :: (11, .int .i64 n) :: (4, .ref 68 g 0) :: (1, .str k) :: T, (68, some (g, .cells [.str [], .con (.slice none 0 0), .int .i64 0])) :: H, c⟩, [.cell 4 (some 3), .t 5], 0⟩ (polS (polF rest k))
  | [], done,  T, H, c, n, e, hn => by
    have hd : l.length = done.length := by simp [e]
    have hll : (l.map Pol.enc).length = l.length := by simp
    refine ev_loop' (W_ok 300 _ _ _ _ ?_)
    repeat' (first | refine stpA ?_ | (refine condS ?_ ?_ <;> intro h))
    refine ev_le [] [(68, some (_, .cells ((polO none).enc)))] trivial ⟨⟨rfl, (by repeat' (first | exact trivial | exact LeP.refl _ | exact LeP.nil _ | refine LeP.sl ?_ | refine ⟨?_, ?_⟩))⟩, trivial⟩ ?_
    (first | refine fin1 ?_ | refine fin0 ?_); (conv => whnf); refine Go.AM.finC ?_; rfl
  | x :: r, done,  T, H, c, n, e, hn => by
    have hd : l.length = done.length + (r.length + 1) := by simp [e]
    have hll : (l.map Pol.enc).length = l.length := by simp
    have hx : (l.map Pol.enc)[n.toNat]? = some (Pol.enc x) := by simp [e, hn]
    by_cases hk : x.name = k
    · rw [polF, if_pos hk]
      refine ev_loop' (W_ok 300 _ _ _ _ ?_)
      repeat' ((conv => whnf); first | refine zSeqT hk ?_ | refine bslP (by first | rfl | (simp [pureL, pureLL, AV.pure]; done) | fail) rfl ?_ | refine TakeC.full (by first | rfl | omega | (simp; done) | (simp; omega) | fail) ?_ | refine zBs ?_ | refine zBn ?_ | refine zBv rfl rfl ?_ | refine zN ?_ | refine zC ?_ | refine zC4 ?_ | refine zOr16 ?_ | refine zC1 ?_ | refine zByte ?_ | refine zMaxL ?_ | refine zMaxR ?_ | refine zMinL ?_ | refine zMinR ?_ | refine zShr ?_ | refine zC8 ?_ | refine zQ ?_ | refine zR ?_ | refine zS ?_ | refine zA ?_ | refine zM ?_ | refine xr rfl ?_ | refine ai rfl ?_ | refine condT ?_ | refine condF ?_ | refine condG1 ?_ | refine condG0 ?_ | refine cD ?_ | refine dD ?_ | refine cB ?_ | refine dB ?_ | refine cN ?_ | refine dN ?_ | refine cV ?_ | refine dV ?_ | refine cE ?_ | refine dE ?_ | refine condX0 ?_ | refine condX1 ?_ | refine condNot ?_ | refine condAnd ?_ | refine condOr ?_ | refine aO ?_ | refine aB ?_ | refine aR ?_ | refine aR ?_ (by simp; omega) | refine xr (by assumption) ?_ | refine ai (by assumption) ?_ | refine kV (by assumption) ?_ | refine kN (by assumption) ?_ | refine callW (by assumption) ?_ | refine condD (fun h => ?_) (fun h => ?_) | refine condB (fun h => ?_) (fun h => ?_) | refine condN (fun h => ?_) (fun h => ?_) | refine condE (fun h => ?_) (fun h => ?_) | refine condV (fun h => ?_) (fun h => ?_))
      (first | refine fin1 ?_ | refine fin0 ?_); (conv => whnf); refine Go.AM.finC ?_; rfl
    · rw [polF, if_neg hk]
      refine ev_loop' (W_ok 300 _ _ _ _ ?_)
      repeat' ((conv => whnf); first | refine zSeqF hk ?_ | refine bslP (by first | rfl | (simp [pureL, pureLL, AV.pure]; done) | fail) rfl ?_ | refine TakeC.full (by first | rfl | omega | (simp; done) | (simp; omega) | fail) ?_ | refine zBs ?_ | refine zBn ?_ | refine zBv rfl rfl ?_ | refine zN ?_ | refine zC ?_ | refine zC4 ?_ | refine zOr16 ?_ | refine zC1 ?_ | refine zByte ?_ | refine zMaxL ?_ | refine zMaxR ?_ | refine zMinL ?_ | refine zMinR ?_ | refine zShr ?_ | refine zC8 ?_ | refine zQ ?_ | refine zR ?_ | refine zS ?_ | refine zA ?_ | refine zM ?_ | refine xr rfl ?_ | refine ai rfl ?_ | refine condT ?_ | refine condF ?_ | refine condG1 ?_ | refine condG0 ?_ | refine cD ?_ | refine dD ?_ | refine cB ?_ | refine dB ?_ | refine cN ?_ | refine dN ?_ | refine cV ?_ | refine dV ?_ | refine cE ?_ | refine dE ?_ | refine condX0 ?_ | refine condX1 ?_ | refine condNot ?_ | refine condAnd ?_ | refine condOr ?_ | refine aO ?_ | refine aB ?_ | refine aR ?_ | refine aR ?_ (by simp; omega) | refine xr (by assumption) ?_ | refine ai (by assumption) ?_ | refine kV (by assumption) ?_ | refine kN (by assumption) ?_ | refine callW (by assumption) ?_ | refine condD (fun h => ?_) (fun h => ?_) | refine condB (fun h => ?_) (fun h => ?_) | refine condN (fun h => ?_) (fun h => ?_) | refine condE (fun h => ?_) (fun h => ?_) | refine condV (fun h => ?_) (fun h => ?_))
      refine ev_keep [9, 10, 11, 4, 1] [68] ?_; exact pol_loop506 l k g hl ln hln r (done ++ [x])  _ _ _ (n + 1) (by simp [e]) (by simp [hn] <;> omega)
theorem pol_gives506 (s : PSet) (hs : s.pols.length < 2 ^ 40) (k : List UInt8) : Gives G 506 [.agg s.enc, .str k] [] (polS (polF s.pols k)) := by
  have hll : (s.pols.map Pol.enc).length = s.pols.length := by simp
  refine gives_code (F := f506) rfl rfl (W_ok 300 _ _ _ _ ?_)
  repeat' (first | refine stpA ?_ | (refine condS ?_ ?_ <;> intro h))
  refine ev_keep [9, 10, 11, 4, 1] [68] ?_
  rw [hll]
  exact pol_loop506 s.pols k _ hs _ rfl s.pols [] _ _ _ 0 rfl rfl
theorem pf_loop11 (l : List Trm) (hf : ∀ x ∈ l, x.fits) (p : Pol) (hp : p.terms = l) (g4 : Nat) (hl : l.length < 2 ^ 40) (ln : Int) (hln : ln = l.length) : ∀ (rest done : List Trm) (g8 g k : Nat) (es : List (List AV)) (T : List (Nat × AV)) (H : Heap) (c : Nat) (n : Int) (e : l = done ++ rest) (hn : n = done.length) (hk : k = done.length) (hes : es = done.map Trm.enc), Ev G ⟨f566x11LH, ⟨(28, .sl 4 (l.map Trm.enc)) :: (29, .int .i64 ln) :: (30, .int .i64 n) :: (8, .ref 72 g8 0) :: (4, .ref 68 g4 0) :: T, (72, some (g8, .cells [.str p.name, .vs 114 g k, .int .i64 p.dflt])) :: (114, some (g, .vec 4 es)) :: (68, some (g4, .cells [.str [], .con (.slice none 0 0), .int .i64 0])) :: H, c⟩, [.cell 4 (some 3), .t 5], 0⟩ (polS (some p))
  | [], done, g8, g, k, es, T, H, c, n, e, hn, hk, hes => by
    have hd : l.length = done.length := by simp [e]
    have hll : (l.map Trm.enc).length = l.length := by simp
    obtain rfl : l = done := by simpa using e
    clear e
    subst hes hk
    have hdl : (l.map Trm.enc).length = l.length := by simp
    refine ev_frzk [(114, _, _)] [8, 4, 28, 29, 30] [72, 68] ⟨rfl, (by first | rfl | (simp [Blk.pure, pureL, pureLL, AV.pure, *]; done) | fail), trivial⟩ ?_; repeat ((conv => whnf); first | refine And.intro (by first | rfl | omega | (simp [pureL, pureLL, AV.pure]; done) | (simp; omega) | (simp [pureL, pureLL, AV.pure, *]; done) | assumption | fail) ?_ | intro T H)
    refine ev_loop' (W_ok 300 _ _ _ _ ?_)
    repeat' (first | refine stpA ?_ | (refine condS ?_ ?_ <;> intro h))
    (first | refine fin1 ?_ | refine fin0 ?_); (conv => whnf); refine Go.AM.finC ?_
    simp [polS, polO, Pol.enc, hp]
  | x :: r, done, g8, g, k, es, T, H, c, n, e, hn, hk, hes => by
    have hd : l.length = done.length + (r.length + 1) := by simp [e]
    have hll : (l.map Trm.enc).length = l.length := by simp
    have hx : (l.map Trm.enc)[n.toNat]? = some (Trm.enc x) := by simp [e, hn]
    subst hes hk
    have hdl : (done.map Trm.enc).length = done.length := by simp
    obtain ⟨q1, q2⟩ := hf x (by simp [e])
    have m1 : (x.mats.map Mat.enc).length = x.mats.length := by simp
    have m2 : (x.acts.map Actn.enc).length = x.acts.length := by simp
    refine ev_loop' (W_ok 300 _ _ _ _ ?_)
    repeat' (first | refine stpA ?_ | refine kB [(102, _, _), (106, _, _)] ⟨rfl, pz ⟨rfl, pz trivial⟩⟩ ?_ | (refine condS ?_ ?_ <;> intro h))
    refine ev_keep [28, 29, 30, 8, 4] [72, 114, 68] ?_; exact pf_loop11 l hf p hp g4 hl ln hln r (done ++ [x]) _ _ _ _ _ _ _ (n + 1) (by simp [e]) (by simp [hn] <;> omega) (by simp) (by simp [Trm.enc])
theorem pf_loop14 (l : List Pol) (hf : ∀ x ∈ l, x.fits) (k : List UInt8) (g4 : Nat) (hl : l.length < 2 ^ 40) (ln : Int) (hln : ln = l.length) : ∀ (rest done : List Pol)  (T : List (Nat × AV)) (H : Heap) (c : Nat) (n : Int) (e : l = done ++ rest) (hn : n = done.length) , Ev G ⟨f566x14LH, ⟨(12, .sl 3 (l.map Pol.enc)) :: (13, .int .i64 ln) :: (14, .int .i64 n) :: (4, .ref 68 g4 0) :: (1, .str k) :: T, (68, some (g4, .cells [.str [], .con (.slice none 0 0), .int .i64 0])) :: H, c⟩, [.cell 4 (some 3), .t 5], 0⟩ (polS (polF rest k))
  | [], done,  T, H, c, n, e, hn => by
    have hd : l.length = done.length := by simp [e]
    have hll : (l.map Pol.enc).length = l.length := by simp
    refine ev_loop' (W_ok 300 _ _ _ _ ?_)
    repeat' (first | refine stpA ?_ | (refine condS ?_ ?_ <;> intro h))
    refine ev_le [] [(68, some (_, .cells ((polO none).enc)))] trivial ⟨⟨rfl, (by repeat' (first | exact trivial | exact LeP.refl _ | exact LeP.nil _ | refine LeP.sl ?_ | refine ⟨?_, ?_⟩))⟩, trivial⟩ ?_
    (first | refine fin1 ?_ | refine fin0 ?_); (conv => whnf); refine Go.AM.finC ?_; rfl
  | x :: r, done,  T, H, c, n, e, hn => by
    have hd : l.length = done.length + (r.length + 1) := by simp [e]
    have hll : (l.map Pol.enc).length = l.length := by simp
    have hx : (l.map Pol.enc)[n.toNat]? = some (Pol.enc x) := by simp [e, hn]
    have hq := hf x (by simp [e])
    have hq1 := hq.1
    have m1 : (x.terms.map Trm.enc).length = x.terms.length := by simp
    by_cases hk : x.name = k
    · rw [polF, if_pos hk]
      refine ev_loop' (W_ok 300 _ _ _ _ ?_)
      repeat' ((conv => whnf); first | refine zSneF hk ?_ | refine bslP (by first | rfl | (simp [pureL, pureLL, AV.pure]; done) | fail) rfl ?_ | refine TakeC.full (by first | rfl | omega | (simp; done) | (simp; omega) | fail) ?_ | refine zBs ?_ | refine zBn ?_ | refine zBv rfl rfl ?_ | refine zN ?_ | refine zC ?_ | refine zC4 ?_ | refine zOr16 ?_ | refine zC1 ?_ | refine zByte ?_ | refine zMaxL ?_ | refine zMaxR ?_ | refine zMinL ?_ | refine zMinR ?_ | refine zShr ?_ | refine zC8 ?_ | refine zQ ?_ | refine zR ?_ | refine zS ?_ | refine zA ?_ | refine zM ?_ | refine xr rfl ?_ | refine ai rfl ?_ | refine condT ?_ | refine condF ?_ | refine condG1 ?_ | refine condG0 ?_ | refine cD ?_ | refine dD ?_ | refine cB ?_ | refine dB ?_ | refine cN ?_ | refine dN ?_ | refine cV ?_ | refine dV ?_ | refine cE ?_ | refine dE ?_ | refine condX0 ?_ | refine condX1 ?_ | refine condNot ?_ | refine condAnd ?_ | refine condOr ?_ | refine aO ?_ | refine aB ?_ | refine aR ?_ | refine aR ?_ (by simp; omega) | refine xr (by assumption) ?_ | refine ai (by assumption) ?_ | refine kV (by assumption) ?_ | refine kN (by assumption) ?_ | refine callW (by assumption) ?_ | refine condD (fun h => ?_) (fun h => ?_) | refine condB (fun h => ?_) (fun h => ?_) | refine condN (fun h => ?_) (fun h => ?_) | refine condE (fun h => ?_) (fun h => ?_) | refine condV (fun h => ?_) (fun h => ?_))
      refine ev_nil 114 4 [] [(72, some (_, .cells [.str x.name, .vs 114 _ 0, .int .i64 x.dflt]))] trivial ⟨⟨rfl, .refl _, LeP.nilV _ _ _, .refl _, trivial⟩, trivial⟩ ?_
      refine ev_keep [28, 29, 30, 8, 4] [72, 114, 68] ?_
      rw [m1]
      exact pf_loop11 x.terms hq.2 x rfl _ hq1 _ rfl x.terms [] _ _ _ _ _ _ _ 0 rfl rfl rfl rfl
    · rw [polF, if_neg hk]
      refine ev_loop' (W_ok 300 _ _ _ _ ?_)
      repeat' ((conv => whnf); first | refine zSneT hk ?_ | refine bslP (by first | rfl | (simp [pureL, pureLL, AV.pure]; done) | fail) rfl ?_ | refine TakeC.full (by first | rfl | omega | (simp; done) | (simp; omega) | fail) ?_ | refine zBs ?_ | refine zBn ?_ | refine zBv rfl rfl ?_ | refine zN ?_ | refine zC ?_ | refine zC4 ?_ | refine zOr16 ?_ | refine zC1 ?_ | refine zByte ?_ | refine zMaxL ?_ | refine zMaxR ?_ | refine zMinL ?_ | refine zMinR ?_ | refine zShr ?_ | refine zC8 ?_ | refine zQ ?_ | refine zR ?_ | refine zS ?_ | refine zA ?_ | refine zM ?_ | refine xr rfl ?_ | refine ai rfl ?_ | refine condT ?_ | refine condF ?_ | refine condG1 ?_ | refine condG0 ?_ | refine cD ?_ | refine dD ?_ | refine cB ?_ | refine dB ?_ | refine cN ?_ | refine dN ?_ | refine cV ?_ | refine dV ?_ | refine cE ?_ | refine dE ?_ | refine condX0 ?_ | refine condX1 ?_ | refine condNot ?_ | refine condAnd ?_ | refine condOr ?_ | refine aO ?_ | refine aB ?_ | refine aR ?_ | refine aR ?_ (by simp; omega) | refine xr (by assumption) ?_ | refine ai (by assumption) ?_ | refine kV (by assumption) ?_ | refine kN (by assumption) ?_ | refine callW (by assumption) ?_ | refine condD (fun h => ?_) (fun h => ?_) | refine condB (fun h => ?_) (fun h => ?_) | refine condN (fun h => ?_) (fun h => ?_) | refine condE (fun h => ?_) (fun h => ?_) | refine condV (fun h => ?_) (fun h => ?_))
      refine ev_keep [12, 13, 14, 4, 1] [68] ?_; exact pf_loop14 l hf k g4 hl ln hln r (done ++ [x])  _ _ _ (n + 1) (by simp [e]) (by simp [hn] <;> omega)
theorem find_gives566 (s : PSet) (hs : s.fits) (k : List UInt8) : Gives G 566 [.agg s.enc, .str k] [] (polS (polF s.pols k)) := by
  have hll : (s.pols.map Pol.enc).length = s.pols.length := by simp
  refine gives_code (F := f566) rfl rfl (W_ok 300 _ _ _ _ ?_)
  repeat' (first | refine stpA ?_ | (refine condS ?_ ?_ <;> intro h))
  refine ev_keep [12, 13, 14, 4, 1] [68] ?_
  rw [hll]
  exact pf_loop14 s.pols hs.d1 k _ hs.d _ rfl s.pols [] _ _ _ 0 rfl rfl
end Go.AM.IR
namespace Go.AM.IR
end Go.AM.IR
