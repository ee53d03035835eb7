/- What the functions of this program give, on the abstract machine. -/
import Derived.Test.YtmegckhnpipdhaaDoorDataA
import Derived.KernelRfl
import Derived.Test.YtmegckhnpipdhaaDoorMachineC
set_option linter.unusedVariables false
set_option linter.unusedSimpArgs false
set_option maxHeartbeats 4000000
set_option maxRecDepth 20000
namespace Go.AM.IR
deriving instance DecidableEq for Seg, TLV, Attrs

theorem eq_loop104 (la lb : List Int) (hlen : la.length = lb.length) (hl : la.length < 2 ^ 40) : ∀ (r1 d1 r2 d2 : List Int) (T : List (Nat × AV)) (H : Heap) (c : Nat) (n : Int) (e1 : la = d1 ++ r1) (e2 : lb = d2 ++ r2) (hn1 : n = d1.length) (hn2 : n = d2.length),
   Ev G ⟨f104x9LH, ⟨(13, .int .i64 n) :: (1, .sl 1 (lb.map encU)) :: (0, .sl 1 (la.map encU)) :: (12, .int .i64 la.length) :: T, H, c⟩, [.t 4], 0⟩ ⟨.bool (decide (r1 = r2)), []⟩
  | [], d1, [], d2, T, H, c, n, e1, e2, hn1, hn2 => by
    have hd : la.length = d1.length := by simp [e1]
    refine ev_loop' (W_ok 300 _ _ _ _ ?_)
    repeat' ((conv => whnf); first | refine bslP (by first | rfl | (simp [pureL, pureLL, AV.pure]; done) | fail) rfl ?_ | refine TakeC.full (by first | rfl | omega | (simp; done) | (simp; omega) | fail) ?_ | refine zBs ?_ | refine zBn ?_ | refine zBv rfl rfl ?_ | refine zN ?_ | refine zC ?_ | refine zC4 ?_ | refine zOr16 ?_ | refine zC1 ?_ | refine zByte ?_ | refine zMaxL ?_ | refine zMaxR ?_ | refine zMinL ?_ | refine zMinR ?_ | refine zShr ?_ | refine zC8 ?_ | refine zQ ?_ | refine zR ?_ | refine zS ?_ | refine zA ?_ | refine zM ?_ | refine xr rfl ?_ | refine ai rfl ?_ | refine condT ?_ | refine condF ?_ | refine condG1 ?_ | refine condG0 ?_ | refine cD ?_ | refine dD ?_ | refine cB ?_ | refine dB ?_ | refine cN ?_ | refine dN ?_ | refine cV ?_ | refine dV ?_ | refine cE ?_ | refine dE ?_ | refine condX0 ?_ | refine condX1 ?_ | refine condNot ?_ | refine condAnd ?_ | refine condOr ?_ | refine aO ?_ | refine aB ?_ | refine aR ?_ | refine aR ?_ (by simp; omega) | refine xr (by assumption) ?_ | refine ai (by assumption) ?_ | refine condD (fun h => ?_) (fun h => ?_) | refine condB (fun h => ?_) (fun h => ?_) | refine condN (fun h => ?_) (fun h => ?_) | refine condE (fun h => ?_) (fun h => ?_) | refine condV (fun h => ?_) (fun h => ?_))
    all_goals try ((first | refine ev_fin (And.intro (by first | rfl | (simp [AV.pure, pureL]; done) | fail) ?_) | refine ev_fin0 (And.intro (by first | rfl | (simp [AV.pure, pureL]; done) | fail) ?_)); first | rfl | (simp [Bool.cond_eq_ite, *]; done) | (simp [Bool.cond_eq_ite, *]; omega))
  | x :: r1, d1, y :: r2, d2, T, H, c, n, e1, e2, hn1, hn2 => by
    have hd : la.length = d1.length + (r1.length + 1) := by simp [e1]
    have hx : (la.map encU)[n.toNat]? = some (encU x) := by simp [e1, hn1]
    have hy : (lb.map encU)[n.toNat]? = some (encU y) := by simp [e2, hn2]
    refine ev_loop' (W_ok 300 _ _ _ _ ?_)
    repeat' ((conv => whnf); first | refine bslP (by first | rfl | (simp [pureL, pureLL, AV.pure]; done) | fail) rfl ?_ | refine TakeC.full (by first | rfl | omega | (simp; done) | (simp; omega) | fail) ?_ | refine zBs ?_ | refine zBn ?_ | refine zBv rfl rfl ?_ | refine zN ?_ | refine zC ?_ | refine zC4 ?_ | refine zOr16 ?_ | refine zC1 ?_ | refine zByte ?_ | refine zMaxL ?_ | refine zMaxR ?_ | refine zMinL ?_ | refine zMinR ?_ | refine zShr ?_ | refine zC8 ?_ | refine zQ ?_ | refine zR ?_ | refine zS ?_ | refine zA ?_ | refine zM ?_ | refine xr rfl ?_ | refine ai rfl ?_ | refine condT ?_ | refine condF ?_ | refine condG1 ?_ | refine condG0 ?_ | refine cD ?_ | refine dD ?_ | refine cB ?_ | refine dB ?_ | refine cN ?_ | refine dN ?_ | refine cV ?_ | refine dV ?_ | refine cE ?_ | refine dE ?_ | refine condX0 ?_ | refine condX1 ?_ | refine condNot ?_ | refine condAnd ?_ | refine condOr ?_ | refine aO ?_ | refine aB ?_ | refine aR ?_ | refine aR ?_ (by simp; omega) | refine xr (by assumption) ?_ | refine ai (by assumption) ?_ | refine condD (fun h => ?_) (fun h => ?_) | refine condB (fun h => ?_) (fun h => ?_) | refine condN (fun h => ?_) (fun h => ?_) | refine condE (fun h => ?_) (fun h => ?_) | refine condV (fun h => ?_) (fun h => ?_))
    all_goals try ((first | refine ev_fin (And.intro (by first | rfl | (simp [AV.pure, pureL]; done) | fail) ?_) | refine ev_fin0 (And.intro (by first | rfl | (simp [AV.pure, pureL]; done) | fail) ?_)); first | rfl | (simp [Bool.cond_eq_ite, *]; done) | (simp [Bool.cond_eq_ite, *]; omega))
    rw [show decide (x :: r1 = y :: r2) = decide (r1 = r2) from by simp [*]]
    refine ev_keep [13, 1, 0, 12] [] ?_; exact eq_loop104 la lb hlen hl r1 (d1 ++ [x]) r2 (d2 ++ [y]) _ _ _ (n + 1) (by simp [e1]) (by simp [e2]) (by simp [hn1]) (by simp; omega)
  | [], d1, y :: r2, d2, T, H, c, n, e1, e2, hn1, hn2 => by
    exfalso; rw [e1, e2] at hlen; simp at hlen; omega
  | x :: r1, d1, [], d2, T, H, c, n, e1, e2, hn1, hn2 => by
    exfalso; rw [e1, e2] at hlen; simp at hlen; omega
theorem eq_gives104 (la lb : List Int) (h1 : la.length < 2 ^ 40) (h2 : lb.length < 2 ^ 40) : Gives G 104 [.sl 1 (la.map encU), .sl 1 (lb.map encU)] [] ⟨.bool (decide (la = lb)), []⟩ := by
  have l1 : (la.map encU).length = la.length := by simp
  have l2 : (lb.map encU).length = lb.length := by simp
  by_cases hlen : la.length = lb.length
  · refine gives_code (F := f104) rfl rfl (W_ok 300 _ _ _ _ ?_)
    repeat' ((conv => whnf); first | refine bslP (by first | rfl | (simp [pureL, pureLL, AV.pure]; done) | fail) rfl ?_ | refine TakeC.full (by first | rfl | omega | (simp; done) | (simp; omega) | fail) ?_ | refine zBs ?_ | refine zBn ?_ | refine zBv rfl rfl ?_ | refine zN ?_ | refine zC ?_ | refine zC4 ?_ | refine zOr16 ?_ | refine zC1 ?_ | refine zByte ?_ | refine zMaxL ?_ | refine zMaxR ?_ | refine zMinL ?_ | refine zMinR ?_ | refine zShr ?_ | refine zC8 ?_ | refine zQ ?_ | refine zR ?_ | refine zS ?_ | refine zA ?_ | refine zM ?_ | refine xr rfl ?_ | refine ai rfl ?_ | refine condT ?_ | refine condF ?_ | refine condG1 ?_ | refine condG0 ?_ | refine cD ?_ | refine dD ?_ | refine cB ?_ | refine dB ?_ | refine cN ?_ | refine dN ?_ | refine cV ?_ | refine dV ?_ | refine cE ?_ | refine dE ?_ | refine condX0 ?_ | refine condX1 ?_ | refine condNot ?_ | refine condAnd ?_ | refine condOr ?_ | refine aO ?_ | refine aB ?_ | refine aR ?_ | refine aR ?_ (by simp; omega) | refine xr (by assumption) ?_ | refine ai (by assumption) ?_ | refine condD (fun h => ?_) (fun h => ?_) | refine condB (fun h => ?_) (fun h => ?_) | refine condN (fun h => ?_) (fun h => ?_) | refine condE (fun h => ?_) (fun h => ?_) | refine condV (fun h => ?_) (fun h => ?_))
    refine ev_keep [13, 1, 0, 12] [] ?_
    rw [l1]
    exact eq_loop104 la lb hlen h1 la [] lb [] _ _ _ 0 rfl rfl rfl rfl
  · rw [show decide (la = lb) = false from by simp; intro h; exact hlen (by rw [h])]
    refine gives_code (F := f104) rfl rfl (W_ok 300 _ _ _ _ ?_)
    repeat' ((conv => whnf); first | refine bslP (by first | rfl | (simp [pureL, pureLL, AV.pure]; done) | fail) rfl ?_ | refine TakeC.full (by first | rfl | omega | (simp; done) | (simp; omega) | fail) ?_ | refine zBs ?_ | refine zBn ?_ | refine zBv rfl rfl ?_ | refine zN ?_ | refine zC ?_ | refine zC4 ?_ | refine zOr16 ?_ | refine zC1 ?_ | refine zByte ?_ | refine zMaxL ?_ | refine zMaxR ?_ | refine zMinL ?_ | refine zMinR ?_ | refine zShr ?_ | refine zC8 ?_ | refine zQ ?_ | refine zR ?_ | refine zS ?_ | refine zA ?_ | refine zM ?_ | refine xr rfl ?_ | refine ai rfl ?_ | refine condT ?_ | refine condF ?_ | refine condG1 ?_ | refine condG0 ?_ | refine cD ?_ | refine dD ?_ | refine cB ?_ | refine dB ?_ | refine cN ?_ | refine dN ?_ | refine cV ?_ | refine dV ?_ | refine cE ?_ | refine dE ?_ | refine condX0 ?_ | refine condX1 ?_ | refine condNot ?_ | refine condAnd ?_ | refine condOr ?_ | refine aO ?_ | refine aB ?_ | refine aR ?_ | refine aR ?_ (by simp; omega) | refine xr (by assumption) ?_ | refine ai (by assumption) ?_ | refine condD (fun h => ?_) (fun h => ?_) | refine condB (fun h => ?_) (fun h => ?_) | refine condN (fun h => ?_) (fun h => ?_) | refine condE (fun h => ?_) (fun h => ?_) | refine condV (fun h => ?_) (fun h => ?_))
    all_goals try ((first | refine ev_fin (And.intro (by first | rfl | (simp [AV.pure, pureL]; done) | fail) ?_) | refine ev_fin0 (And.intro (by first | rfl | (simp [AV.pure, pureL]; done) | fail) ?_)); first | rfl | (simp [Bool.cond_eq_ite, *]; done) | (simp [Bool.cond_eq_ite, *]; omega))

theorem eq_loop99 (la lb : List Int) (hlen : la.length = lb.length) (hl : la.length < 2 ^ 40) : ∀ (r1 d1 r2 d2 : List Int) (T : List (Nat × AV)) (H : Heap) (c : Nat) (n : Int) (e1 : la = d1 ++ r1) (e2 : lb = d2 ++ r2) (hn1 : n = d1.length) (hn2 : n = d2.length),
   Ev G ⟨f99x9LH, ⟨(13, .int .i64 n) :: (1, .sl 1 (lb.map encU)) :: (0, .sl 1 (la.map encU)) :: (12, .int .i64 la.length) :: T, H, c⟩, [.t 4], 0⟩ ⟨.bool (decide (r1 = r2)), []⟩
  | [], d1, [], d2, T, H, c, n, e1, e2, hn1, hn2 => by
    have hd : la.length = d1.length := by simp [e1]
    refine ev_loop' (W_ok 300 _ _ _ _ ?_)
    repeat' ((conv => whnf); first | refine bslP (by first | rfl | (simp [pureL, pureLL, AV.pure]; done) | fail) rfl ?_ | refine TakeC.full (by first | rfl | omega | (simp; done) | (simp; omega) | fail) ?_ | refine zBs ?_ | refine zBn ?_ | refine zBv rfl rfl ?_ | refine zN ?_ | refine zC ?_ | refine zC4 ?_ | refine zOr16 ?_ | refine zC1 ?_ | refine zByte ?_ | refine zMaxL ?_ | refine zMaxR ?_ | refine zMinL ?_ | refine zMinR ?_ | refine zShr ?_ | refine zC8 ?_ | refine zQ ?_ | refine zR ?_ | refine zS ?_ | refine zA ?_ | refine zM ?_ | refine xr rfl ?_ | refine ai rfl ?_ | refine condT ?_ | refine condF ?_ | refine condG1 ?_ | refine condG0 ?_ | refine cD ?_ | refine dD ?_ | refine cB ?_ | refine dB ?_ | refine cN ?_ | refine dN ?_ | refine cV ?_ | refine dV ?_ | refine cE ?_ | refine dE ?_ | refine condX0 ?_ | refine condX1 ?_ | refine condNot ?_ | refine condAnd ?_ | refine condOr ?_ | refine aO ?_ | refine aB ?_ | refine aR ?_ | refine aR ?_ (by simp; omega) | refine xr (by assumption) ?_ | refine ai (by assumption) ?_ | refine condD (fun h => ?_) (fun h => ?_) | refine condB (fun h => ?_) (fun h => ?_) | refine condN (fun h => ?_) (fun h => ?_) | refine condE (fun h => ?_) (fun h => ?_) | refine condV (fun h => ?_) (fun h => ?_))
    all_goals try ((first | refine ev_fin (And.intro (by first | rfl | (simp [AV.pure, pureL]; done) | fail) ?_) | refine ev_fin0 (And.intro (by first | rfl | (simp [AV.pure, pureL]; done) | fail) ?_)); first | rfl | (simp [Bool.cond_eq_ite, *]; done) | (simp [Bool.cond_eq_ite, *]; omega))
  | x :: r1, d1, y :: r2, d2, T, H, c, n, e1, e2, hn1, hn2 => by
    have hd : la.length = d1.length + (r1.length + 1) := by simp [e1]
    have hx : (la.map encU)[n.toNat]? = some (encU x) := by simp [e1, hn1]
    have hy : (lb.map encU)[n.toNat]? = some (encU y) := by simp [e2, hn2]
    refine ev_loop' (W_ok 300 _ _ _ _ ?_)
    repeat' ((conv => whnf); first | refine bslP (by first | rfl | (simp [pureL, pureLL, AV.pure]; done) | fail) rfl ?_ | refine TakeC.full (by first | rfl | omega | (simp; done) | (simp; omega) | fail) ?_ | refine zBs ?_ | refine zBn ?_ | refine zBv rfl rfl ?_ | refine zN ?_ | refine zC ?_ | refine zC4 ?_ | refine zOr16 ?_ | refine zC1 ?_ | refine zByte ?_ | refine zMaxL ?_ | refine zMaxR ?_ | refine zMinL ?_ | refine zMinR ?_ | refine zShr ?_ | refine zC8 ?_ | refine zQ ?_ | refine zR ?_ | refine zS ?_ | refine zA ?_ | refine zM ?_ | refine xr rfl ?_ | refine ai rfl ?_ | refine condT ?_ | refine condF ?_ | refine condG1 ?_ | refine condG0 ?_ | refine cD ?_ | refine dD ?_ | refine cB ?_ | refine dB ?_ | refine cN ?_ | refine dN ?_ | refine cV ?_ | refine dV ?_ | refine cE ?_ | refine dE ?_ | refine condX0 ?_ | refine condX1 ?_ | refine condNot ?_ | refine condAnd ?_ | refine condOr ?_ | refine aO ?_ | refine aB ?_ | refine aR ?_ | refine aR ?_ (by simp; omega) | refine xr (by assumption) ?_ | refine ai (by assumption) ?_ | refine condD (fun h => ?_) (fun h => ?_) | refine condB (fun h => ?_) (fun h => ?_) | refine condN (fun h => ?_) (fun h => ?_) | refine condE (fun h => ?_) (fun h => ?_) | refine condV (fun h => ?_) (fun h => ?_))
    all_goals try ((first | refine ev_fin (And.intro (by first | rfl | (simp [AV.pure, pureL]; done) | fail) ?_) | refine ev_fin0 (And.intro (by first | rfl | (simp [AV.pure, pureL]; done) | fail) ?_)); first | rfl | (simp [Bool.cond_eq_ite, *]; done) | (simp [Bool.cond_eq_ite, *]; omega))
    rw [show decide (x :: r1 = y :: r2) = decide (r1 = r2) from by simp [*]]
    refine ev_keep [13, 1, 0, 12] [] ?_; exact eq_loop99 la lb hlen hl r1 (d1 ++ [x]) r2 (d2 ++ [y]) _ _ _ (n + 1) (by simp [e1]) (by simp [e2]) (by simp [hn1]) (by simp; omega)
  | [], d1, y :: r2, d2, T, H, c, n, e1, e2, hn1, hn2 => by
    exfalso; rw [e1, e2] at hlen; simp at hlen; omega
  | x :: r1, d1, [], d2, T, H, c, n, e1, e2, hn1, hn2 => by
    exfalso; rw [e1, e2] at hlen; simp at hlen; omega
theorem eq_gives99 (la lb : List Int) (h1 : la.length < 2 ^ 40) (h2 : lb.length < 2 ^ 40) : Gives G 99 [.sl 1 (la.map encU), .sl 1 (lb.map encU)] [] ⟨.bool (decide (la = lb)), []⟩ := by
  have l1 : (la.map encU).length = la.length := by simp
  have l2 : (lb.map encU).length = lb.length := by simp
  by_cases hlen : la.length = lb.length
  · refine gives_code (F := f99) rfl rfl (W_ok 300 _ _ _ _ ?_)
    repeat' ((conv => whnf); first | refine bslP (by first | rfl | (simp [pureL, pureLL, AV.pure]; done) | fail) rfl ?_ | refine TakeC.full (by first | rfl | omega | (simp; done) | (simp; omega) | fail) ?_ | refine zBs ?_ | refine zBn ?_ | refine zBv rfl rfl ?_ | refine zN ?_ | refine zC ?_ | refine zC4 ?_ | refine zOr16 ?_ | refine zC1 ?_ | refine zByte ?_ | refine zMaxL ?_ | refine zMaxR ?_ | refine zMinL ?_ | refine zMinR ?_ | refine zShr ?_ | refine zC8 ?_ | refine zQ ?_ | refine zR ?_ | refine zS ?_ | refine zA ?_ | refine zM ?_ | refine xr rfl ?_ | refine ai rfl ?_ | refine condT ?_ | refine condF ?_ | refine condG1 ?_ | refine condG0 ?_ | refine cD ?_ | refine dD ?_ | refine cB ?_ | refine dB ?_ | refine cN ?_ | refine dN ?_ | refine cV ?_ | refine dV ?_ | refine cE ?_ | refine dE ?_ | refine condX0 ?_ | refine condX1 ?_ | refine condNot ?_ | refine condAnd ?_ | refine condOr ?_ | refine aO ?_ | refine aB ?_ | refine aR ?_ | refine aR ?_ (by simp; omega) | refine xr (by assumption) ?_ | refine ai (by assumption) ?_ | refine condD (fun h => ?_) (fun h => ?_) | refine condB (fun h => ?_) (fun h => ?_) | refine condN (fun h => ?_) (fun h => ?_) | refine condE (fun h => ?_) (fun h => ?_) | refine condV (fun h => ?_) (fun h => ?_))
    refine ev_keep [13, 1, 0, 12] [] ?_
    rw [l1]
    exact eq_loop99 la lb hlen h1 la [] lb [] _ _ _ 0 rfl rfl rfl rfl
  · rw [show decide (la = lb) = false from by simp; intro h; exact hlen (by rw [h])]
    refine gives_code (F := f99) rfl rfl (W_ok 300 _ _ _ _ ?_)
    repeat' ((conv => whnf); first | refine bslP (by first | rfl | (simp [pureL, pureLL, AV.pure]; done) | fail) rfl ?_ | refine TakeC.full (by first | rfl | omega | (simp; done) | (simp; omega) | fail) ?_ | refine zBs ?_ | refine zBn ?_ | refine zBv rfl rfl ?_ | refine zN ?_ | refine zC ?_ | refine zC4 ?_ | refine zOr16 ?_ | refine zC1 ?_ | refine zByte ?_ | refine zMaxL ?_ | refine zMaxR ?_ | refine zMinL ?_ | refine zMinR ?_ | refine zShr ?_ | refine zC8 ?_ | refine zQ ?_ | refine zR ?_ | refine zS ?_ | refine zA ?_ | refine zM ?_ | refine xr rfl ?_ | refine ai rfl ?_ | refine condT ?_ | refine condF ?_ | refine condG1 ?_ | refine condG0 ?_ | refine cD ?_ | refine dD ?_ | refine cB ?_ | refine dB ?_ | refine cN ?_ | refine dN ?_ | refine cV ?_ | refine dV ?_ | refine cE ?_ | refine dE ?_ | refine condX0 ?_ | refine condX1 ?_ | refine condNot ?_ | refine condAnd ?_ | refine condOr ?_ | refine aO ?_ | refine aB ?_ | refine aR ?_ | refine aR ?_ (by simp; omega) | refine xr (by assumption) ?_ | refine ai (by assumption) ?_ | refine condD (fun h => ?_) (fun h => ?_) | refine condB (fun h => ?_) (fun h => ?_) | refine condN (fun h => ?_) (fun h => ?_) | refine condE (fun h => ?_) (fun h => ?_) | refine condV (fun h => ?_) (fun h => ?_))
    all_goals try ((first | refine ev_fin (And.intro (by first | rfl | (simp [AV.pure, pureL]; done) | fail) ?_) | refine ev_fin0 (And.intro (by first | rfl | (simp [AV.pure, pureL]; done) | fail) ?_)); first | rfl | (simp [Bool.cond_eq_ite, *]; done) | (simp [Bool.cond_eq_ite, *]; omega))

theorem in_loop103 (pa pb : List Seg) (hlen : pa.length = pb.length) (hl : pa.length < 2 ^ 40) (i : Int) (s t : Seg) (h0 : 0 ≤ i) (hs : (pa.map Seg.enc)[i.toNat]? = some s.enc) (ht : (pb.map Seg.enc)[i.toNat]? = some t.enc) (hi : i < 2 ^ 40)
   (hst : s.as.length = t.as.length) (hsl : s.as.length < 2 ^ 40) (R : Bool)
   (go : ∀ T H c, Ev G ⟨f103x16LH, ⟨(14, .int .i64 (i + 1)) :: (1, .sl 2 (pb.map Seg.enc)) :: (0, .sl 2 (pa.map Seg.enc)) :: (13, .int .i64 pa.length) :: T, H, c⟩, [.t 4], 0⟩ ⟨.bool R, []⟩) : ∀ (r1 d1 r2 d2 : List Int) (T : List (Nat × AV)) (H : Heap) (c : Nat) (n : Int) (e1 : s.as = d1 ++ r1) (e2 : t.as = d2 ++ r2) (hn1 : n = d1.length) (hn2 : n = d2.length),
   Ev G ⟨f103x14LH, ⟨(49, .int .i64 n) :: (5, .int .i64 i) :: (1, .sl 2 (pb.map Seg.enc)) :: (0, .sl 2 (pa.map Seg.enc)) :: (13, .int .i64 pa.length) :: (14, .int .i64 i) :: (48, .int .i64 s.as.length) :: T, H, c⟩, [.t 4], 0⟩ ⟨.bool (decide (r1 = r2) && R), []⟩
  | [], d1, [], d2, T, H, c, n, e1, e2, hn1, hn2 => by
    have hd : s.as.length = d1.length := by simp [e1]
    refine ev_loop' (W_ok 300 _ _ _ _ ?_)
    repeat' ((conv => whnf); first | refine bslP (by first | rfl | (simp [pureL, pureLL, AV.pure]; done) | fail) rfl ?_ | refine TakeC.full (by first | rfl | omega | (simp; done) | (simp; omega) | fail) ?_ | refine zBs ?_ | refine zBn ?_ | refine zBv rfl rfl ?_ | refine zN ?_ | refine zC ?_ | refine zC4 ?_ | refine zOr16 ?_ | refine zC1 ?_ | refine zByte ?_ | refine zMaxL ?_ | refine zMaxR ?_ | refine zMinL ?_ | refine zMinR ?_ | refine zShr ?_ | refine zC8 ?_ | refine zQ ?_ | refine zR ?_ | refine zS ?_ | refine zA ?_ | refine zM ?_ | refine xr rfl ?_ | refine ai rfl ?_ | refine condT ?_ | refine condF ?_ | refine condG1 ?_ | refine condG0 ?_ | refine cD ?_ | refine dD ?_ | refine cB ?_ | refine dB ?_ | refine cN ?_ | refine dN ?_ | refine cV ?_ | refine dV ?_ | refine cE ?_ | refine dE ?_ | refine condX0 ?_ | refine condX1 ?_ | refine condNot ?_ | refine condAnd ?_ | refine condOr ?_ | refine aO ?_ | refine aB ?_ | refine aR ?_ | refine aR ?_ (by simp; omega) | refine xr (by assumption) ?_ | refine ai (by assumption) ?_ | refine condD (fun h => ?_) (fun h => ?_) | refine condB (fun h => ?_) (fun h => ?_) | refine condN (fun h => ?_) (fun h => ?_) | refine condE (fun h => ?_) (fun h => ?_) | refine condV (fun h => ?_) (fun h => ?_))
    refine ev_keep [14, 1, 0, 13] [] ?_
    rw [show (decide (([] : List Int) = []) && R) = R from by simp]
    exact go _ _ _
  | x :: r1, d1, y :: r2, d2, T, H, c, n, e1, e2, hn1, hn2 => by
    have hd : s.as.length = d1.length + (r1.length + 1) := by simp [e1]
    have hx : (s.as.map encI)[n.toNat]? = some (encI x) := by simp [e1, hn1]
    have hy : (t.as.map encI)[n.toNat]? = some (encI y) := by simp [e2, hn2]
    refine ev_loop' (W_ok 300 _ _ _ _ ?_)
    repeat' ((conv => whnf); first | refine bslP (by first | rfl | (simp [pureL, pureLL, AV.pure]; done) | fail) rfl ?_ | refine TakeC.full (by first | rfl | omega | (simp; done) | (simp; omega) | fail) ?_ | refine zBs ?_ | refine zBn ?_ | refine zBv rfl rfl ?_ | refine zN ?_ | refine zC ?_ | refine zC4 ?_ | refine zOr16 ?_ | refine zC1 ?_ | refine zByte ?_ | refine zMaxL ?_ | refine zMaxR ?_ | refine zMinL ?_ | refine zMinR ?_ | refine zShr ?_ | refine zC8 ?_ | refine zQ ?_ | refine zR ?_ | refine zS ?_ | refine zA ?_ | refine zM ?_ | refine xr rfl ?_ | refine ai rfl ?_ | refine condT ?_ | refine condF ?_ | refine condG1 ?_ | refine condG0 ?_ | refine cD ?_ | refine dD ?_ | refine cB ?_ | refine dB ?_ | refine cN ?_ | refine dN ?_ | refine cV ?_ | refine dV ?_ | refine cE ?_ | refine dE ?_ | refine condX0 ?_ | refine condX1 ?_ | refine condNot ?_ | refine condAnd ?_ | refine condOr ?_ | refine aO ?_ | refine aB ?_ | refine aR ?_ | refine aR ?_ (by simp; omega) | refine xr (by assumption) ?_ | refine ai (by assumption) ?_ | refine condD (fun h => ?_) (fun h => ?_) | refine condB (fun h => ?_) (fun h => ?_) | refine condN (fun h => ?_) (fun h => ?_) | refine condE (fun h => ?_) (fun h => ?_) | refine condV (fun h => ?_) (fun h => ?_))
    all_goals try ((first | refine ev_fin (And.intro (by first | rfl | (simp [AV.pure, pureL]; done) | fail) ?_) | refine ev_fin0 (And.intro (by first | rfl | (simp [AV.pure, pureL]; done) | fail) ?_)); first | rfl | (simp [Bool.cond_eq_ite, *]; done) | (simp [Bool.cond_eq_ite, *]; omega))
    rw [show decide (x :: r1 = y :: r2) = decide (r1 = r2) from by simp [*]]
    refine ev_keep [49, 5, 1, 0, 13, 14, 48] [] ?_; exact in_loop103 pa pb hlen hl i s t h0 hs ht hi hst hsl R go r1 (d1 ++ [x]) r2 (d2 ++ [y]) _ _ _ (n + 1) (by simp [e1]) (by simp [e2]) (by simp [hn1]) (by simp; omega)
  | [], d1, y :: r2, d2, T, H, c, n, e1, e2, hn1, hn2 => by
    exfalso; rw [e1, e2] at hst; simp at hst; omega
  | x :: r1, d1, [], d2, T, H, c, n, e1, e2, hn1, hn2 => by
    exfalso; rw [e1, e2] at hst; simp at hst; omega
theorem out_loop103 (pa pb : List Seg) (hlen : pa.length = pb.length) (hl : pa.length < 2 ^ 40) (ha : ∀ s ∈ pa, s.as.length < 2 ^ 40) (hb : ∀ s ∈ pb, s.as.length < 2 ^ 40) : ∀ (r1 d1 r2 d2 : List Seg) (T : List (Nat × AV)) (H : Heap) (c : Nat) (n : Int) (e1 : pa = d1 ++ r1) (e2 : pb = d2 ++ r2) (hn1 : n = d1.length) (hn2 : n = d2.length),
   Ev G ⟨f103x16LH, ⟨(14, .int .i64 n) :: (1, .sl 2 (pb.map Seg.enc)) :: (0, .sl 2 (pa.map Seg.enc)) :: (13, .int .i64 pa.length) :: T, H, c⟩, [.t 4], 0⟩ ⟨.bool (decide (r1 = r2)), []⟩
  | [], d1, [], d2, T, H, c, n, e1, e2, hn1, hn2 => by
    have hd : pa.length = d1.length := by simp [e1]
    refine ev_loop' (W_ok 300 _ _ _ _ ?_)
    repeat' ((conv => whnf); first | refine bslP (by first | rfl | (simp [pureL, pureLL, AV.pure]; done) | fail) rfl ?_ | refine TakeC.full (by first | rfl | omega | (simp; done) | (simp; omega) | fail) ?_ | refine zBs ?_ | refine zBn ?_ | refine zBv rfl rfl ?_ | refine zN ?_ | refine zC ?_ | refine zC4 ?_ | refine zOr16 ?_ | refine zC1 ?_ | refine zByte ?_ | refine zMaxL ?_ | refine zMaxR ?_ | refine zMinL ?_ | refine zMinR ?_ | refine zShr ?_ | refine zC8 ?_ | refine zQ ?_ | refine zR ?_ | refine zS ?_ | refine zA ?_ | refine zM ?_ | refine xr rfl ?_ | refine ai rfl ?_ | refine condT ?_ | refine condF ?_ | refine condG1 ?_ | refine condG0 ?_ | refine cD ?_ | refine dD ?_ | refine cB ?_ | refine dB ?_ | refine cN ?_ | refine dN ?_ | refine cV ?_ | refine dV ?_ | refine cE ?_ | refine dE ?_ | refine condX0 ?_ | refine condX1 ?_ | refine condNot ?_ | refine condAnd ?_ | refine condOr ?_ | refine aO ?_ | refine aB ?_ | refine aR ?_ | refine aR ?_ (by simp; omega) | refine xr (by assumption) ?_ | refine ai (by assumption) ?_ | refine condD (fun h => ?_) (fun h => ?_) | refine condB (fun h => ?_) (fun h => ?_) | refine condN (fun h => ?_) (fun h => ?_) | refine condE (fun h => ?_) (fun h => ?_) | refine condV (fun h => ?_) (fun h => ?_))
    all_goals try ((first | refine ev_fin (And.intro (by first | rfl | (simp [AV.pure, pureL]; done) | fail) ?_) | refine ev_fin0 (And.intro (by first | rfl | (simp [AV.pure, pureL]; done) | fail) ?_)); first | rfl | (simp [Bool.cond_eq_ite, *]; done) | (simp [Bool.cond_eq_ite, *]; omega))
  | x :: r1, d1, y :: r2, d2, T, H, c, n, e1, e2, hn1, hn2 => by
    have hd : pa.length = d1.length + (r1.length + 1) := by simp [e1]
    have hx : (pa.map Seg.enc)[n.toNat]? = some x.enc := by simp [e1, hn1]
    have hy : (pb.map Seg.enc)[n.toNat]? = some y.enc := by simp [e2, hn2]
    have hxl := ha x (by simp [e1])
    have hyl := hb y (by simp [e2])
    have l1 : (x.as.map encI).length = x.as.length := by simp
    have l2 : (y.as.map encI).length = y.as.length := by simp
    have hee : (x = y) ↔ (x.kind = y.kind ∧ x.as = y.as) := by cases x; cases y; simp
    have ih := fun T H c => out_loop103 pa pb hlen hl ha hb r1 (d1 ++ [x]) r2 (d2 ++ [y]) T H c (n + 1) (by simp [e1]) (by simp [e2]) (by simp [hn1]) (by simp; omega)
    by_cases hk : x.kind = y.kind
    · by_cases hal : x.as.length = y.as.length
      · refine ev_loop' (W_ok 300 _ _ _ _ ?_)
        repeat' ((conv => whnf); first | refine bslP (by first | rfl | (simp [pureL, pureLL, AV.pure]; done) | fail) rfl ?_ | refine TakeC.full (by first | rfl | omega | (simp; done) | (simp; omega) | fail) ?_ | refine zBs ?_ | refine zBn ?_ | refine zBv rfl rfl ?_ | refine zN ?_ | refine zC ?_ | refine zC4 ?_ | refine zOr16 ?_ | refine zC1 ?_ | refine zByte ?_ | refine zMaxL ?_ | refine zMaxR ?_ | refine zMinL ?_ | refine zMinR ?_ | refine zShr ?_ | refine zC8 ?_ | refine zQ ?_ | refine zR ?_ | refine zS ?_ | refine zA ?_ | refine zM ?_ | refine xr rfl ?_ | refine ai rfl ?_ | refine condT ?_ | refine condF ?_ | refine condG1 ?_ | refine condG0 ?_ | refine cD ?_ | refine dD ?_ | refine cB ?_ | refine dB ?_ | refine cN ?_ | refine dN ?_ | refine cV ?_ | refine dV ?_ | refine cE ?_ | refine dE ?_ | refine condX0 ?_ | refine condX1 ?_ | refine condNot ?_ | refine condAnd ?_ | refine condOr ?_ | refine aO ?_ | refine aB ?_ | refine aR ?_ | refine aR ?_ (by simp; omega) | refine xr (by assumption) ?_ | refine ai (by assumption) ?_ | refine condD (fun h => ?_) (fun h => ?_) | refine condB (fun h => ?_) (fun h => ?_) | refine condN (fun h => ?_) (fun h => ?_) | refine condE (fun h => ?_) (fun h => ?_) | refine condV (fun h => ?_) (fun h => ?_))
        refine ev_keep [49, 5, 1, 0, 13, 14, 48] [] ?_
        rw [l1]
        have := in_loop103 pa pb hlen hl n x y (by omega) hx hy (by omega) hal hxl _ ih x.as [] y.as []
        rw [show decide (x :: r1 = y :: r2) = (decide (x.as = y.as) && decide (r1 = r2)) from by simp [hee, hk]]
        exact this _ _ _ 0 rfl rfl rfl rfl
      · rw [show decide (x :: r1 = y :: r2) = false from by simp [hee]; intro _ h; exact absurd (by rw [h]) hal]
        refine ev_loop' (W_ok 300 _ _ _ _ ?_)
        repeat' ((conv => whnf); first | refine bslP (by first | rfl | (simp [pureL, pureLL, AV.pure]; done) | fail) rfl ?_ | refine TakeC.full (by first | rfl | omega | (simp; done) | (simp; omega) | fail) ?_ | refine zBs ?_ | refine zBn ?_ | refine zBv rfl rfl ?_ | refine zN ?_ | refine zC ?_ | refine zC4 ?_ | refine zOr16 ?_ | refine zC1 ?_ | refine zByte ?_ | refine zMaxL ?_ | refine zMaxR ?_ | refine zMinL ?_ | refine zMinR ?_ | refine zShr ?_ | refine zC8 ?_ | refine zQ ?_ | refine zR ?_ | refine zS ?_ | refine zA ?_ | refine zM ?_ | refine xr rfl ?_ | refine ai rfl ?_ | refine condT ?_ | refine condF ?_ | refine condG1 ?_ | refine condG0 ?_ | refine cD ?_ | refine dD ?_ | refine cB ?_ | refine dB ?_ | refine cN ?_ | refine dN ?_ | refine cV ?_ | refine dV ?_ | refine cE ?_ | refine dE ?_ | refine condX0 ?_ | refine condX1 ?_ | refine condNot ?_ | refine condAnd ?_ | refine condOr ?_ | refine aO ?_ | refine aB ?_ | refine aR ?_ | refine aR ?_ (by simp; omega) | refine xr (by assumption) ?_ | refine ai (by assumption) ?_ | refine condD (fun h => ?_) (fun h => ?_) | refine condB (fun h => ?_) (fun h => ?_) | refine condN (fun h => ?_) (fun h => ?_) | refine condE (fun h => ?_) (fun h => ?_) | refine condV (fun h => ?_) (fun h => ?_))
        all_goals try ((first | refine ev_fin (And.intro (by first | rfl | (simp [AV.pure, pureL]; done) | fail) ?_) | refine ev_fin0 (And.intro (by first | rfl | (simp [AV.pure, pureL]; done) | fail) ?_)); first | rfl | (simp [Bool.cond_eq_ite, *]; done) | (simp [Bool.cond_eq_ite, *]; omega))
    · rw [show decide (x :: r1 = y :: r2) = false from by simp [hee, hk]]
      refine ev_loop' (W_ok 300 _ _ _ _ ?_)
      repeat' ((conv => whnf); first | refine bslP (by first | rfl | (simp [pureL, pureLL, AV.pure]; done) | fail) rfl ?_ | refine TakeC.full (by first | rfl | omega | (simp; done) | (simp; omega) | fail) ?_ | refine zBs ?_ | refine zBn ?_ | refine zBv rfl rfl ?_ | refine zN ?_ | refine zC ?_ | refine zC4 ?_ | refine zOr16 ?_ | refine zC1 ?_ | refine zByte ?_ | refine zMaxL ?_ | refine zMaxR ?_ | refine zMinL ?_ | refine zMinR ?_ | refine zShr ?_ | refine zC8 ?_ | refine zQ ?_ | refine zR ?_ | refine zS ?_ | refine zA ?_ | refine zM ?_ | refine xr rfl ?_ | refine ai rfl ?_ | refine condT ?_ | refine condF ?_ | refine condG1 ?_ | refine condG0 ?_ | refine cD ?_ | refine dD ?_ | refine cB ?_ | refine dB ?_ | refine cN ?_ | refine dN ?_ | refine cV ?_ | refine dV ?_ | refine cE ?_ | refine dE ?_ | refine condX0 ?_ | refine condX1 ?_ | refine condNot ?_ | refine condAnd ?_ | refine condOr ?_ | refine aO ?_ | refine aB ?_ | refine aR ?_ | refine aR ?_ (by simp; omega) | refine xr (by assumption) ?_ | refine ai (by assumption) ?_ | refine condD (fun h => ?_) (fun h => ?_) | refine condB (fun h => ?_) (fun h => ?_) | refine condN (fun h => ?_) (fun h => ?_) | refine condE (fun h => ?_) (fun h => ?_) | refine condV (fun h => ?_) (fun h => ?_))
      all_goals try ((first | refine ev_fin (And.intro (by first | rfl | (simp [AV.pure, pureL]; done) | fail) ?_) | refine ev_fin0 (And.intro (by first | rfl | (simp [AV.pure, pureL]; done) | fail) ?_)); first | rfl | (simp [Bool.cond_eq_ite, *]; done) | (simp [Bool.cond_eq_ite, *]; omega))
  | [], d1, y :: r2, d2, T, H, c, n, e1, e2, hn1, hn2 => by
    exfalso; rw [e1, e2] at hlen; simp at hlen; omega
  | x :: r1, d1, [], d2, T, H, c, n, e1, e2, hn1, hn2 => by
    exfalso; rw [e1, e2] at hlen; simp at hlen; omega
theorem same_gives103 (pa pb : List Seg) (h1 : pa.length < 2 ^ 40) (h2 : pb.length < 2 ^ 40) (ha : ∀ s ∈ pa, s.as.length < 2 ^ 40) (hb : ∀ s ∈ pb, s.as.length < 2 ^ 40) : Gives G 103 [.sl 2 (pa.map Seg.enc), .sl 2 (pb.map Seg.enc)] [] ⟨.bool (decide (pa = pb)), []⟩ := by
  have l1 : (pa.map Seg.enc).length = pa.length := by simp
  have l2 : (pb.map Seg.enc).length = pb.length := by simp
  by_cases hlen : pa.length = pb.length
  · refine gives_code (F := f103) rfl rfl (W_ok 300 _ _ _ _ ?_)
    repeat' ((conv => whnf); first | refine bslP (by first | rfl | (simp [pureL, pureLL, AV.pure]; done) | fail) rfl ?_ | refine TakeC.full (by first | rfl | omega | (simp; done) | (simp; omega) | fail) ?_ | refine zBs ?_ | refine zBn ?_ | refine zBv rfl rfl ?_ | refine zN ?_ | refine zC ?_ | refine zC4 ?_ | refine zOr16 ?_ | refine zC1 ?_ | refine zByte ?_ | refine zMaxL ?_ | refine zMaxR ?_ | refine zMinL ?_ | refine zMinR ?_ | refine zShr ?_ | refine zC8 ?_ | refine zQ ?_ | refine zR ?_ | refine zS ?_ | refine zA ?_ | refine zM ?_ | refine xr rfl ?_ | refine ai rfl ?_ | refine condT ?_ | refine condF ?_ | refine condG1 ?_ | refine condG0 ?_ | refine cD ?_ | refine dD ?_ | refine cB ?_ | refine dB ?_ | refine cN ?_ | refine dN ?_ | refine cV ?_ | refine dV ?_ | refine cE ?_ | refine dE ?_ | refine condX0 ?_ | refine condX1 ?_ | refine condNot ?_ | refine condAnd ?_ | refine condOr ?_ | refine aO ?_ | refine aB ?_ | refine aR ?_ | refine aR ?_ (by simp; omega) | refine xr (by assumption) ?_ | refine ai (by assumption) ?_ | refine condD (fun h => ?_) (fun h => ?_) | refine condB (fun h => ?_) (fun h => ?_) | refine condN (fun h => ?_) (fun h => ?_) | refine condE (fun h => ?_) (fun h => ?_) | refine condV (fun h => ?_) (fun h => ?_))
    refine ev_keep [14, 1, 0, 13] [] ?_
    rw [l1]
    exact out_loop103 pa pb hlen h1 ha hb pa [] pb [] _ _ _ 0 rfl rfl rfl rfl
  · rw [show decide (pa = pb) = false from by simp; intro h; exact hlen (by rw [h])]
    refine gives_code (F := f103) rfl rfl (W_ok 300 _ _ _ _ ?_)
    repeat' ((conv => whnf); first | refine bslP (by first | rfl | (simp [pureL, pureLL, AV.pure]; done) | fail) rfl ?_ | refine TakeC.full (by first | rfl | omega | (simp; done) | (simp; omega) | fail) ?_ | refine zBs ?_ | refine zBn ?_ | refine zBv rfl rfl ?_ | refine zN ?_ | refine zC ?_ | refine zC4 ?_ | refine zOr16 ?_ | refine zC1 ?_ | refine zByte ?_ | refine zMaxL ?_ | refine zMaxR ?_ | refine zMinL ?_ | refine zMinR ?_ | refine zShr ?_ | refine zC8 ?_ | refine zQ ?_ | refine zR ?_ | refine zS ?_ | refine zA ?_ | refine zM ?_ | refine xr rfl ?_ | refine ai rfl ?_ | refine condT ?_ | refine condF ?_ | refine condG1 ?_ | refine condG0 ?_ | refine cD ?_ | refine dD ?_ | refine cB ?_ | refine dB ?_ | refine cN ?_ | refine dN ?_ | refine cV ?_ | refine dV ?_ | refine cE ?_ | refine dE ?_ | refine condX0 ?_ | refine condX1 ?_ | refine condNot ?_ | refine condAnd ?_ | refine condOr ?_ | refine aO ?_ | refine aB ?_ | refine aR ?_ | refine aR ?_ (by simp; omega) | refine xr (by assumption) ?_ | refine ai (by assumption) ?_ | refine condD (fun h => ?_) (fun h => ?_) | refine condB (fun h => ?_) (fun h => ?_) | refine condN (fun h => ?_) (fun h => ?_) | refine condE (fun h => ?_) (fun h => ?_) | refine condV (fun h => ?_) (fun h => ?_))
    all_goals try ((first | refine ev_fin (And.intro (by first | rfl | (simp [AV.pure, pureL]; done) | fail) ?_) | refine ev_fin0 (And.intro (by first | rfl | (simp [AV.pure, pureL]; done) | fail) ?_)); first | rfl | (simp [Bool.cond_eq_ite, *]; done) | (simp [Bool.cond_eq_ite, *]; omega))

theorem in_loop97 (pa pb : List Seg) (hlen : pa.length = pb.length) (hl : pa.length < 2 ^ 40) (i : Int) (s t : Seg) (h0 : 0 ≤ i) (hs : (pa.map Seg.enc)[i.toNat]? = some s.enc) (ht : (pb.map Seg.enc)[i.toNat]? = some t.enc) (hi : i < 2 ^ 40)
   (hst : s.as.length = t.as.length) (hsl : s.as.length < 2 ^ 40) (R : Bool)
   (go : ∀ T H c, Ev G ⟨f97x16LH, ⟨(14, .int .i64 (i + 1)) :: (1, .sl 2 (pb.map Seg.enc)) :: (0, .sl 2 (pa.map Seg.enc)) :: (13, .int .i64 pa.length) :: T, H, c⟩, [.t 4], 0⟩ ⟨.bool R, []⟩) : ∀ (r1 d1 r2 d2 : List Int) (T : List (Nat × AV)) (H : Heap) (c : Nat) (n : Int) (e1 : s.as = d1 ++ r1) (e2 : t.as = d2 ++ r2) (hn1 : n = d1.length) (hn2 : n = d2.length),
   Ev G ⟨f97x14LH, ⟨(49, .int .i64 n) :: (5, .int .i64 i) :: (1, .sl 2 (pb.map Seg.enc)) :: (0, .sl 2 (pa.map Seg.enc)) :: (13, .int .i64 pa.length) :: (14, .int .i64 i) :: (48, .int .i64 s.as.length) :: T, H, c⟩, [.t 4], 0⟩ ⟨.bool (decide (r1 = r2) && R), []⟩
  | [], d1, [], d2, T, H, c, n, e1, e2, hn1, hn2 => by
    have hd : s.as.length = d1.length := by simp [e1]
    refine ev_loop' (W_ok 300 _ _ _ _ ?_)
    repeat' ((conv => whnf); first | refine bslP (by first | rfl | (simp [pureL, pureLL, AV.pure]; done) | fail) rfl ?_ | refine TakeC.full (by first | rfl | omega | (simp; done) | (simp; omega) | fail) ?_ | refine zBs ?_ | refine zBn ?_ | refine zBv rfl rfl ?_ | refine zN ?_ | refine zC ?_ | refine zC4 ?_ | refine zOr16 ?_ | refine zC1 ?_ | refine zByte ?_ | refine zMaxL ?_ | refine zMaxR ?_ | refine zMinL ?_ | refine zMinR ?_ | refine zShr ?_ | refine zC8 ?_ | refine zQ ?_ | refine zR ?_ | refine zS ?_ | refine zA ?_ | refine zM ?_ | refine xr rfl ?_ | refine ai rfl ?_ | refine condT ?_ | refine condF ?_ | refine condG1 ?_ | refine condG0 ?_ | refine cD ?_ | refine dD ?_ | refine cB ?_ | refine dB ?_ | refine cN ?_ | refine dN ?_ | refine cV ?_ | refine dV ?_ | refine cE ?_ | refine dE ?_ | refine condX0 ?_ | refine condX1 ?_ | refine condNot ?_ | refine condAnd ?_ | refine condOr ?_ | refine aO ?_ | refine aB ?_ | refine aR ?_ | refine aR ?_ (by simp; omega) | refine xr (by assumption) ?_ | refine ai (by assumption) ?_ | refine condD (fun h => ?_) (fun h => ?_) | refine condB (fun h => ?_) (fun h => ?_) | refine condN (fun h => ?_) (fun h => ?_) | refine condE (fun h => ?_) (fun h => ?_) | refine condV (fun h => ?_) (fun h => ?_))
    refine ev_keep [14, 1, 0, 13] [] ?_
    rw [show (decide (([] : List Int) = []) && R) = R from by simp]
    exact go _ _ _
  | x :: r1, d1, y :: r2, d2, T, H, c, n, e1, e2, hn1, hn2 => by
    have hd : s.as.length = d1.length + (r1.length + 1) := by simp [e1]
    have hx : (s.as.map encI)[n.toNat]? = some (encI x) := by simp [e1, hn1]
    have hy : (t.as.map encI)[n.toNat]? = some (encI y) := by simp [e2, hn2]
    refine ev_loop' (W_ok 300 _ _ _ _ ?_)
    repeat' ((conv => whnf); first | refine bslP (by first | rfl | (simp [pureL, pureLL, AV.pure]; done) | fail) rfl ?_ | refine TakeC.full (by first | rfl | omega | (simp; done) | (simp; omega) | fail) ?_ | refine zBs ?_ | refine zBn ?_ | refine zBv rfl rfl ?_ | refine zN ?_ | refine zC ?_ | refine zC4 ?_ | refine zOr16 ?_ | refine zC1 ?_ | refine zByte ?_ | refine zMaxL ?_ | refine zMaxR ?_ | refine zMinL ?_ | refine zMinR ?_ | refine zShr ?_ | refine zC8 ?_ | refine zQ ?_ | refine zR ?_ | refine zS ?_ | refine zA ?_ | refine zM ?_ | refine xr rfl ?_ | refine ai rfl ?_ | refine condT ?_ | refine condF ?_ | refine condG1 ?_ | refine condG0 ?_ | refine cD ?_ | refine dD ?_ | refine cB ?_ | refine dB ?_ | refine cN ?_ | refine dN ?_ | refine cV ?_ | refine dV ?_ | refine cE ?_ | refine dE ?_ | refine condX0 ?_ | refine condX1 ?_ | refine condNot ?_ | refine condAnd ?_ | refine condOr ?_ | refine aO ?_ | refine aB ?_ | refine aR ?_ | refine aR ?_ (by simp; omega) | refine xr (by assumption) ?_ | refine ai (by assumption) ?_ | refine condD (fun h => ?_) (fun h => ?_) | refine condB (fun h => ?_) (fun h => ?_) | refine condN (fun h => ?_) (fun h => ?_) | refine condE (fun h => ?_) (fun h => ?_) | refine condV (fun h => ?_) (fun h => ?_))
    all_goals try ((first | refine ev_fin (And.intro (by first | rfl | (simp [AV.pure, pureL]; done) | fail) ?_) | refine ev_fin0 (And.intro (by first | rfl | (simp [AV.pure, pureL]; done) | fail) ?_)); first | rfl | (simp [Bool.cond_eq_ite, *]; done) | (simp [Bool.cond_eq_ite, *]; omega))
    rw [show decide (x :: r1 = y :: r2) = decide (r1 = r2) from by simp [*]]
    refine ev_keep [49, 5, 1, 0, 13, 14, 48] [] ?_; exact in_loop97 pa pb hlen hl i s t h0 hs ht hi hst hsl R go r1 (d1 ++ [x]) r2 (d2 ++ [y]) _ _ _ (n + 1) (by simp [e1]) (by simp [e2]) (by simp [hn1]) (by simp; omega)
  | [], d1, y :: r2, d2, T, H, c, n, e1, e2, hn1, hn2 => by
    exfalso; rw [e1, e2] at hst; simp at hst; omega
  | x :: r1, d1, [], d2, T, H, c, n, e1, e2, hn1, hn2 => by
    exfalso; rw [e1, e2] at hst; simp at hst; omega
theorem out_loop97 (pa pb : List Seg) (hlen : pa.length = pb.length) (hl : pa.length < 2 ^ 40) (ha : ∀ s ∈ pa, s.as.length < 2 ^ 40) (hb : ∀ s ∈ pb, s.as.length < 2 ^ 40) : ∀ (r1 d1 r2 d2 : List Seg) (T : List (Nat × AV)) (H : Heap) (c : Nat) (n : Int) (e1 : pa = d1 ++ r1) (e2 : pb = d2 ++ r2) (hn1 : n = d1.length) (hn2 : n = d2.length),
   Ev G ⟨f97x16LH, ⟨(14, .int .i64 n) :: (1, .sl 2 (pb.map Seg.enc)) :: (0, .sl 2 (pa.map Seg.enc)) :: (13, .int .i64 pa.length) :: T, H, c⟩, [.t 4], 0⟩ ⟨.bool (decide (r1 = r2)), []⟩
  | [], d1, [], d2, T, H, c, n, e1, e2, hn1, hn2 => by
    have hd : pa.length = d1.length := by simp [e1]
    refine ev_loop' (W_ok 300 _ _ _ _ ?_)
    repeat' ((conv => whnf); first | refine bslP (by first | rfl | (simp [pureL, pureLL, AV.pure]; done) | fail) rfl ?_ | refine TakeC.full (by first | rfl | omega | (simp; done) | (simp; omega) | fail) ?_ | refine zBs ?_ | refine zBn ?_ | refine zBv rfl rfl ?_ | refine zN ?_ | refine zC ?_ | refine zC4 ?_ | refine zOr16 ?_ | refine zC1 ?_ | refine zByte ?_ | refine zMaxL ?_ | refine zMaxR ?_ | refine zMinL ?_ | refine zMinR ?_ | refine zShr ?_ | refine zC8 ?_ | refine zQ ?_ | refine zR ?_ | refine zS ?_ | refine zA ?_ | refine zM ?_ | refine xr rfl ?_ | refine ai rfl ?_ | refine condT ?_ | refine condF ?_ | refine condG1 ?_ | refine condG0 ?_ | refine cD ?_ | refine dD ?_ | refine cB ?_ | refine dB ?_ | refine cN ?_ | refine dN ?_ | refine cV ?_ | refine dV ?_ | refine cE ?_ | refine dE ?_ | refine condX0 ?_ | refine condX1 ?_ | refine condNot ?_ | refine condAnd ?_ | refine condOr ?_ | refine aO ?_ | refine aB ?_ | refine aR ?_ | refine aR ?_ (by simp; omega) | refine xr (by assumption) ?_ | refine ai (by assumption) ?_ | refine condD (fun h => ?_) (fun h => ?_) | refine condB (fun h => ?_) (fun h => ?_) | refine condN (fun h => ?_) (fun h => ?_) | refine condE (fun h => ?_) (fun h => ?_) | refine condV (fun h => ?_) (fun h => ?_))
    all_goals try ((first | refine ev_fin (And.intro (by first | rfl | (simp [AV.pure, pureL]; done) | fail) ?_) | refine ev_fin0 (And.intro (by first | rfl | (simp [AV.pure, pureL]; done) | fail) ?_)); first | rfl | (simp [Bool.cond_eq_ite, *]; done) | (simp [Bool.cond_eq_ite, *]; omega))
  | x :: r1, d1, y :: r2, d2, T, H, c, n, e1, e2, hn1, hn2 => by
    have hd : pa.length = d1.length + (r1.length + 1) := by simp [e1]
    have hx : (pa.map Seg.enc)[n.toNat]? = some x.enc := by simp [e1, hn1]
    have hy : (pb.map Seg.enc)[n.toNat]? = some y.enc := by simp [e2, hn2]
    have hxl := ha x (by simp [e1])
    have hyl := hb y (by simp [e2])
    have l1 : (x.as.map encI).length = x.as.length := by simp
    have l2 : (y.as.map encI).length = y.as.length := by simp
    have hee : (x = y) ↔ (x.kind = y.kind ∧ x.as = y.as) := by cases x; cases y; simp
    have ih := fun T H c => out_loop97 pa pb hlen hl ha hb r1 (d1 ++ [x]) r2 (d2 ++ [y]) T H c (n + 1) (by simp [e1]) (by simp [e2]) (by simp [hn1]) (by simp; omega)
    by_cases hk : x.kind = y.kind
    · by_cases hal : x.as.length = y.as.length
      · refine ev_loop' (W_ok 300 _ _ _ _ ?_)
        repeat' ((conv => whnf); first | refine bslP (by first | rfl | (simp [pureL, pureLL, AV.pure]; done) | fail) rfl ?_ | refine TakeC.full (by first | rfl | omega | (simp; done) | (simp; omega) | fail) ?_ | refine zBs ?_ | refine zBn ?_ | refine zBv rfl rfl ?_ | refine zN ?_ | refine zC ?_ | refine zC4 ?_ | refine zOr16 ?_ | refine zC1 ?_ | refine zByte ?_ | refine zMaxL ?_ | refine zMaxR ?_ | refine zMinL ?_ | refine zMinR ?_ | refine zShr ?_ | refine zC8 ?_ | refine zQ ?_ | refine zR ?_ | refine zS ?_ | refine zA ?_ | refine zM ?_ | refine xr rfl ?_ | refine ai rfl ?_ | refine condT ?_ | refine condF ?_ | refine condG1 ?_ | refine condG0 ?_ | refine cD ?_ | refine dD ?_ | refine cB ?_ | refine dB ?_ | refine cN ?_ | refine dN ?_ | refine cV ?_ | refine dV ?_ | refine cE ?_ | refine dE ?_ | refine condX0 ?_ | refine condX1 ?_ | refine condNot ?_ | refine condAnd ?_ | refine condOr ?_ | refine aO ?_ | refine aB ?_ | refine aR ?_ | refine aR ?_ (by simp; omega) | refine xr (by assumption) ?_ | refine ai (by assumption) ?_ | refine condD (fun h => ?_) (fun h => ?_) | refine condB (fun h => ?_) (fun h => ?_) | refine condN (fun h => ?_) (fun h => ?_) | refine condE (fun h => ?_) (fun h => ?_) | refine condV (fun h => ?_) (fun h => ?_))
        refine ev_keep [49, 5, 1, 0, 13, 14, 48] [] ?_
        rw [l1]
        have := in_loop97 pa pb hlen hl n x y (by omega) hx hy (by omega) hal hxl _ ih x.as [] y.as []
        rw [show decide (x :: r1 = y :: r2) = (decide (x.as = y.as) && decide (r1 = r2)) from by simp [hee, hk]]
        exact this _ _ _ 0 rfl rfl rfl rfl
      · rw [show decide (x :: r1 = y :: r2) = false from by simp [hee]; intro _ h; exact absurd (by rw [h]) hal]
        refine ev_loop' (W_ok 300 _ _ _ _ ?_)
        repeat' ((conv => whnf); first | refine bslP (by first | rfl | (simp [pureL, pureLL, AV.pure]; done) | fail) rfl ?_ | refine TakeC.full (by first | rfl | omega | (simp; done) | (simp; omega) | fail) ?_ | refine zBs ?_ | refine zBn ?_ | refine zBv rfl rfl ?_ | refine zN ?_ | refine zC ?_ | refine zC4 ?_ | refine zOr16 ?_ | refine zC1 ?_ | refine zByte ?_ | refine zMaxL ?_ | refine zMaxR ?_ | refine zMinL ?_ | refine zMinR ?_ | refine zShr ?_ | refine zC8 ?_ | refine zQ ?_ | refine zR ?_ | refine zS ?_ | refine zA ?_ | refine zM ?_ | refine xr rfl ?_ | refine ai rfl ?_ | refine condT ?_ | refine condF ?_ | refine condG1 ?_ | refine condG0 ?_ | refine cD ?_ | refine dD ?_ | refine cB ?_ | refine dB ?_ | refine cN ?_ | refine dN ?_ | refine cV ?_ | refine dV ?_ | refine cE ?_ | refine dE ?_ | refine condX0 ?_ | refine condX1 ?_ | refine condNot ?_ | refine condAnd ?_ | refine condOr ?_ | refine aO ?_ | refine aB ?_ | refine aR ?_ | refine aR ?_ (by simp; omega) | refine xr (by assumption) ?_ | refine ai (by assumption) ?_ | refine condD (fun h => ?_) (fun h => ?_) | refine condB (fun h => ?_) (fun h => ?_) | refine condN (fun h => ?_) (fun h => ?_) | refine condE (fun h => ?_) (fun h => ?_) | refine condV (fun h => ?_) (fun h => ?_))
        all_goals try ((first | refine ev_fin (And.intro (by first | rfl | (simp [AV.pure, pureL]; done) | fail) ?_) | refine ev_fin0 (And.intro (by first | rfl | (simp [AV.pure, pureL]; done) | fail) ?_)); first | rfl | (simp [Bool.cond_eq_ite, *]; done) | (simp [Bool.cond_eq_ite, *]; omega))
    · rw [show decide (x :: r1 = y :: r2) = false from by simp [hee, hk]]
      refine ev_loop' (W_ok 300 _ _ _ _ ?_)
      repeat' ((conv => whnf); first | refine bslP (by first | rfl | (simp [pureL, pureLL, AV.pure]; done) | fail) rfl ?_ | refine TakeC.full (by first | rfl | omega | (simp; done) | (simp; omega) | fail) ?_ | refine zBs ?_ | refine zBn ?_ | refine zBv rfl rfl ?_ | refine zN ?_ | refine zC ?_ | refine zC4 ?_ | refine zOr16 ?_ | refine zC1 ?_ | refine zByte ?_ | refine zMaxL ?_ | refine zMaxR ?_ | refine zMinL ?_ | refine zMinR ?_ | refine zShr ?_ | refine zC8 ?_ | refine zQ ?_ | refine zR ?_ | refine zS ?_ | refine zA ?_ | refine zM ?_ | refine xr rfl ?_ | refine ai rfl ?_ | refine condT ?_ | refine condF ?_ | refine condG1 ?_ | refine condG0 ?_ | refine cD ?_ | refine dD ?_ | refine cB ?_ | refine dB ?_ | refine cN ?_ | refine dN ?_ | refine cV ?_ | refine dV ?_ | refine cE ?_ | refine dE ?_ | refine condX0 ?_ | refine condX1 ?_ | refine condNot ?_ | refine condAnd ?_ | refine condOr ?_ | refine aO ?_ | refine aB ?_ | refine aR ?_ | refine aR ?_ (by simp; omega) | refine xr (by assumption) ?_ | refine ai (by assumption) ?_ | refine condD (fun h => ?_) (fun h => ?_) | refine condB (fun h => ?_) (fun h => ?_) | refine condN (fun h => ?_) (fun h => ?_) | refine condE (fun h => ?_) (fun h => ?_) | refine condV (fun h => ?_) (fun h => ?_))
      all_goals try ((first | refine ev_fin (And.intro (by first | rfl | (simp [AV.pure, pureL]; done) | fail) ?_) | refine ev_fin0 (And.intro (by first | rfl | (simp [AV.pure, pureL]; done) | fail) ?_)); first | rfl | (simp [Bool.cond_eq_ite, *]; done) | (simp [Bool.cond_eq_ite, *]; omega))
  | [], d1, y :: r2, d2, T, H, c, n, e1, e2, hn1, hn2 => by
    exfalso; rw [e1, e2] at hlen; simp at hlen; omega
  | x :: r1, d1, [], d2, T, H, c, n, e1, e2, hn1, hn2 => by
    exfalso; rw [e1, e2] at hlen; simp at hlen; omega
theorem same_gives97 (pa pb : List Seg) (h1 : pa.length < 2 ^ 40) (h2 : pb.length < 2 ^ 40) (ha : ∀ s ∈ pa, s.as.length < 2 ^ 40) (hb : ∀ s ∈ pb, s.as.length < 2 ^ 40) : Gives G 97 [.sl 2 (pa.map Seg.enc), .sl 2 (pb.map Seg.enc)] [] ⟨.bool (decide (pa = pb)), []⟩ := by
  have l1 : (pa.map Seg.enc).length = pa.length := by simp
  have l2 : (pb.map Seg.enc).length = pb.length := by simp
  by_cases hlen : pa.length = pb.length
  · refine gives_code (F := f97) rfl rfl (W_ok 300 _ _ _ _ ?_)
    repeat' ((conv => whnf); first | refine bslP (by first | rfl | (simp [pureL, pureLL, AV.pure]; done) | fail) rfl ?_ | refine TakeC.full (by first | rfl | omega | (simp; done) | (simp; omega) | fail) ?_ | refine zBs ?_ | refine zBn ?_ | refine zBv rfl rfl ?_ | refine zN ?_ | refine zC ?_ | refine zC4 ?_ | refine zOr16 ?_ | refine zC1 ?_ | refine zByte ?_ | refine zMaxL ?_ | refine zMaxR ?_ | refine zMinL ?_ | refine zMinR ?_ | refine zShr ?_ | refine zC8 ?_ | refine zQ ?_ | refine zR ?_ | refine zS ?_ | refine zA ?_ | refine zM ?_ | refine xr rfl ?_ | refine ai rfl ?_ | refine condT ?_ | refine condF ?_ | refine condG1 ?_ | refine condG0 ?_ | refine cD ?_ | refine dD ?_ | refine cB ?_ | refine dB ?_ | refine cN ?_ | refine dN ?_ | refine cV ?_ | refine dV ?_ | refine cE ?_ | refine dE ?_ | refine condX0 ?_ | refine condX1 ?_ | refine condNot ?_ | refine condAnd ?_ | refine condOr ?_ | refine aO ?_ | refine aB ?_ | refine aR ?_ | refine aR ?_ (by simp; omega) | refine xr (by assumption) ?_ | refine ai (by assumption) ?_ | refine condD (fun h => ?_) (fun h => ?_) | refine condB (fun h => ?_) (fun h => ?_) | refine condN (fun h => ?_) (fun h => ?_) | refine condE (fun h => ?_) (fun h => ?_) | refine condV (fun h => ?_) (fun h => ?_))
    refine ev_keep [14, 1, 0, 13] [] ?_
    rw [l1]
    exact out_loop97 pa pb hlen h1 ha hb pa [] pb [] _ _ _ 0 rfl rfl rfl rfl
  · rw [show decide (pa = pb) = false from by simp; intro h; exact hlen (by rw [h])]
    refine gives_code (F := f97) rfl rfl (W_ok 300 _ _ _ _ ?_)
    repeat' ((conv => whnf); first | refine bslP (by first | rfl | (simp [pureL, pureLL, AV.pure]; done) | fail) rfl ?_ | refine TakeC.full (by first | rfl | omega | (simp; done) | (simp; omega) | fail) ?_ | refine zBs ?_ | refine zBn ?_ | refine zBv rfl rfl ?_ | refine zN ?_ | refine zC ?_ | refine zC4 ?_ | refine zOr16 ?_ | refine zC1 ?_ | refine zByte ?_ | refine zMaxL ?_ | refine zMaxR ?_ | refine zMinL ?_ | refine zMinR ?_ | refine zShr ?_ | refine zC8 ?_ | refine zQ ?_ | refine zR ?_ | refine zS ?_ | refine zA ?_ | refine zM ?_ | refine xr rfl ?_ | refine ai rfl ?_ | refine condT ?_ | refine condF ?_ | refine condG1 ?_ | refine condG0 ?_ | refine cD ?_ | refine dD ?_ | refine cB ?_ | refine dB ?_ | refine cN ?_ | refine dN ?_ | refine cV ?_ | refine dV ?_ | refine cE ?_ | refine dE ?_ | refine condX0 ?_ | refine condX1 ?_ | refine condNot ?_ | refine condAnd ?_ | refine condOr ?_ | refine aO ?_ | refine aB ?_ | refine aR ?_ | refine aR ?_ (by simp; omega) | refine xr (by assumption) ?_ | refine ai (by assumption) ?_ | refine condD (fun h => ?_) (fun h => ?_) | refine condB (fun h => ?_) (fun h => ?_) | refine condN (fun h => ?_) (fun h => ?_) | refine condE (fun h => ?_) (fun h => ?_) | refine condV (fun h => ?_) (fun h => ?_))
    all_goals try ((first | refine ev_fin (And.intro (by first | rfl | (simp [AV.pure, pureL]; done) | fail) ?_) | refine ev_fin0 (And.intro (by first | rfl | (simp [AV.pure, pureL]; done) | fail) ?_)); first | rfl | (simp [Bool.cond_eq_ite, *]; done) | (simp [Bool.cond_eq_ite, *]; omega))
end Go.AM.IR
set_option maxHeartbeats 4000000
set_option maxRecDepth 20000
namespace Go.AM.IR
@[simp] theorem pure_bytesL (l : List UInt8) : pureLL (byteCells l) = true := pureLL_bytes l
theorem bytesSame_gives98 (x y : List UInt8) : Gives G 98 [.sl 1 (byteCells x), .sl 1 (byteCells y)] [] ⟨.bool (decide (x = y)), []⟩ := by
  rw [show decide (x = y) = (x == y) from by by_cases h : x = y <;> simp [h]]
  refine gives_code (F := f98) rfl rfl (W_ok 300 _ _ _ _ ?_)
  repeat' ((conv => whnf); first | refine bslP (by first | rfl | (simp [pureL, pureLL, AV.pure]; done) | fail) rfl ?_ | refine TakeC.full (by first | rfl | omega | (simp; done) | (simp; omega) | fail) ?_ | refine zBs ?_ | refine zBn ?_ | refine zBv rfl rfl ?_ | refine zN ?_ | refine zC ?_ | refine zC4 ?_ | refine zOr16 ?_ | refine zC1 ?_ | refine zByte ?_ | refine zMaxL ?_ | refine zMaxR ?_ | refine zMinL ?_ | refine zMinR ?_ | refine zShr ?_ | refine zC8 ?_ | refine zQ ?_ | refine zR ?_ | refine zS ?_ | refine zA ?_ | refine zM ?_ | refine xr rfl ?_ | refine ai rfl ?_ | refine condT ?_ | refine condF ?_ | refine condG1 ?_ | refine condG0 ?_ | refine cD ?_ | refine dD ?_ | refine cB ?_ | refine dB ?_ | refine cN ?_ | refine dN ?_ | refine cV ?_ | refine dV ?_ | refine cE ?_ | refine dE ?_ | refine condX0 ?_ | refine condX1 ?_ | refine condNot ?_ | refine condAnd ?_ | refine condOr ?_ | refine aO ?_ | refine aB ?_ | refine aR ?_ | refine aR ?_ (by simp; omega) | refine xr (by assumption) ?_ | refine ai (by assumption) ?_ | refine condD (fun h => ?_) (fun h => ?_) | refine condB (fun h => ?_) (fun h => ?_) | refine condN (fun h => ?_) (fun h => ?_) | refine condE (fun h => ?_) (fun h => ?_) | refine condV (fun h => ?_) (fun h => ?_))
  all_goals try ((first | refine ev_fin (And.intro (by first | rfl | (simp [AV.pure, pureL]; done) | fail) ?_) | refine ev_fin0 (And.intro (by first | rfl | (simp [AV.pure, pureL]; done) | fail) ?_)); first | rfl | (simp [Bool.cond_eq_ite, *]; done) | (simp [Bool.cond_eq_ite, *]; omega))
structure LenC (a : Attrs) : Prop where
  path : a.path.length < 2 ^ 40
  segs : ∀ s ∈ a.path, s.as.length < 2 ^ 40
  comms : a.comms.length < 2 ^ 40
  clusters : a.clusters.length < 2 ^ 40
  unknown : a.unknown.length < 2 ^ 40

theorem unk_loop72 (a b : Attrs) (ha : LenC a) (hb : LenC b) (hlen : a.unknown.length = b.unknown.length) : ∀ (r1 d1 r2 d2 : List TLV) (T : List (Nat × AV)) (H : Heap) (c : Nat) (n : Int) (e1 : a.unknown = d1 ++ r1) (e2 : b.unknown = d2 ++ r2) (hn1 : n = d1.length) (hn2 : n = d2.length),
   Ev G ⟨f72x11LH, ⟨(122, .int .i64 n) :: (3, .ref 67 2 0) :: (2, .ref 66 1 0) :: (121, .int .i64 a.unknown.length) :: T, (66, some (1, .cells a.enc)) :: (67, some (2, .cells b.enc)) :: H, c⟩, [.t 4], 0⟩ ⟨.bool (decide (r1 = r2)), []⟩
  | [], d1, [], d2, T, H, c, n, e1, e2, hn1, hn2 => by
    have hul := ha.unknown
    have hd : a.unknown.length = d1.length := by simp [e1]
    refine ev_loop' (W_ok 300 _ _ _ _ ?_)
    repeat' ((conv => whnf); first | refine bslP (by first | rfl | (simp [pureL, pureLL, AV.pure]; done) | fail) rfl ?_ | refine TakeC.full (by first | rfl | omega | (simp; done) | (simp; omega) | fail) ?_ | refine zBs ?_ | refine zBn ?_ | refine zBv rfl rfl ?_ | refine zN ?_ | refine zC ?_ | refine zC4 ?_ | refine zOr16 ?_ | refine zC1 ?_ | refine zByte ?_ | refine zMaxL ?_ | refine zMaxR ?_ | refine zMinL ?_ | refine zMinR ?_ | refine zShr ?_ | refine zC8 ?_ | refine zQ ?_ | refine zR ?_ | refine zS ?_ | refine zA ?_ | refine zM ?_ | refine xr rfl ?_ | refine ai rfl ?_ | refine condT ?_ | refine condF ?_ | refine condG1 ?_ | refine condG0 ?_ | refine cD ?_ | refine dD ?_ | refine cB ?_ | refine dB ?_ | refine cN ?_ | refine dN ?_ | refine cV ?_ | refine dV ?_ | refine cE ?_ | refine dE ?_ | refine condX0 ?_ | refine condX1 ?_ | refine condNot ?_ | refine condAnd ?_ | refine condOr ?_ | refine aO ?_ | refine aB ?_ | refine aR ?_ | refine aR ?_ (by simp; omega) | refine xr (by assumption) ?_ | refine ai (by assumption) ?_ | refine condD (fun h => ?_) (fun h => ?_) | refine condB (fun h => ?_) (fun h => ?_) | refine condN (fun h => ?_) (fun h => ?_) | refine condE (fun h => ?_) (fun h => ?_) | refine condV (fun h => ?_) (fun h => ?_))
    all_goals try ((first | refine ev_fin (And.intro (by first | rfl | (simp [AV.pure, pureL]; done) | fail) ?_) | refine ev_fin0 (And.intro (by first | rfl | (simp [AV.pure, pureL]; done) | fail) ?_)); first | rfl | (simp [Bool.cond_eq_ite, *]; done) | (simp [Bool.cond_eq_ite, *]; omega))
  | x :: r1, d1, y :: r2, d2, T, H, c, n, e1, e2, hn1, hn2 => by
    have hul := ha.unknown
    have hd : a.unknown.length = d1.length + (r1.length + 1) := by simp [e1]
    have hx : (a.unknown.map TLV.enc)[n.toNat]? = some x.enc := by simp [e1, hn1]
    have hy : (b.unknown.map TLV.enc)[n.toNat]? = some y.enc := by simp [e2, hn2]
    have hee : (x = y) ↔ (x.kind = y.kind ∧ x.value = y.value) := by cases x; cases y; simp
    refine ev_loop' (W_ok 300 _ _ _ _ ?_)
    repeat' ((conv => whnf); first | refine bslP (by first | rfl | (simp [pureL, pureLL, AV.pure]; done) | fail) rfl ?_ | refine TakeC.full (by first | rfl | omega | (simp; done) | (simp; omega) | fail) ?_ | refine zBs ?_ | refine zBn ?_ | refine zBv rfl rfl ?_ | refine zN ?_ | refine zC ?_ | refine zC4 ?_ | refine zOr16 ?_ | refine zC1 ?_ | refine zByte ?_ | refine zMaxL ?_ | refine zMaxR ?_ | refine zMinL ?_ | refine zMinR ?_ | refine zShr ?_ | refine zC8 ?_ | refine zQ ?_ | refine zR ?_ | refine zS ?_ | refine zA ?_ | refine zM ?_ | refine xr rfl ?_ | refine ai rfl ?_ | refine condT ?_ | refine condF ?_ | refine condG1 ?_ | refine condG0 ?_ | refine cD ?_ | refine dD ?_ | refine cB ?_ | refine dB ?_ | refine cN ?_ | refine dN ?_ | refine cV ?_ | refine dV ?_ | refine cE ?_ | refine dE ?_ | refine condX0 ?_ | refine condX1 ?_ | refine condNot ?_ | refine condAnd ?_ | refine condOr ?_ | refine aO ?_ | refine aB ?_ | refine aR ?_ | refine aR ?_ (by simp; omega) | refine xr (by assumption) ?_ | refine ai (by assumption) ?_ | refine condD (fun h => ?_) (fun h => ?_) | refine condB (fun h => ?_) (fun h => ?_) | refine condN (fun h => ?_) (fun h => ?_) | refine condE (fun h => ?_) (fun h => ?_) | refine condV (fun h => ?_) (fun h => ?_))
    all_goals try ((first | refine ev_fin (And.intro (by first | rfl | (simp [AV.pure, pureL]; done) | fail) ?_) | refine ev_fin0 (And.intro (by first | rfl | (simp [AV.pure, pureL]; done) | fail) ?_)); first | rfl | (simp [hee, Bool.cond_eq_ite, *]; done) | (simp [hee, Bool.cond_eq_ite, *]; omega))
    rw [show (decide (x :: r1 = y :: r2)) = (decide (r1 = r2)) from by simp [hee, *]]
    refine ev_keep [122, 3, 2, 121] [66, 67] ?_; exact unk_loop72 a b ha hb hlen r1 (d1 ++ [x]) r2 (d2 ++ [y]) _ _ _ (n + 1) (by simp [e1]) (by simp [e2]) (by simp [hn1]) (by simp; omega)
  | [], d1, y :: r2, d2, T, H, c, n, e1, e2, hn1, hn2 => by
    exfalso; rw [e1, e2] at hlen; simp at hlen; omega
  | x :: r1, d1, [], d2, T, H, c, n, e1, e2, hn1, hn2 => by
    exfalso; rw [e1, e2] at hlen; simp at hlen; omega
theorem same_gives72 (a b : Attrs) (ha : LenC a) (hb : LenC b) : Gives G 72 [.agg a.enc, .agg b.enc] [] ⟨.bool (decide (a = b)), []⟩ := by
  have hab : (a = b) ↔ (a.origin = b.origin ∧ a.path = b.path ∧ a.nextHop = b.nextHop ∧ a.hasMED = b.hasMED ∧ a.med = b.med ∧ a.hasPref = b.hasPref ∧ a.pref = b.pref ∧ a.atomic = b.atomic ∧ a.hasAggr = b.hasAggr ∧ a.aggrAS = b.aggrAS ∧ a.aggrAddr = b.aggrAddr ∧ a.comms = b.comms ∧ a.hasOrig = b.hasOrig ∧ a.orig = b.orig ∧ a.clusters = b.clusters ∧ a.unknown = b.unknown) := by cases a; cases b; simp
  have l1 : (a.unknown.map TLV.enc).length = a.unknown.length := by simp
  have l2 : (b.unknown.map TLV.enc).length = b.unknown.length := by simp
  by_cases hlen : a.unknown.length = b.unknown.length
  · refine gives_code (F := f72) rfl rfl (W_ok 300 _ _ _ _ ?_)
    repeat' ((conv => whnf); first | refine bslP (by first | rfl | (simp [pureL, pureLL, AV.pure]; done) | fail) rfl ?_ | refine TakeC.full (by first | rfl | omega | (simp; done) | (simp; omega) | fail) ?_ | refine zBs ?_ | refine zBn ?_ | refine zBv rfl rfl ?_ | refine zN ?_ | refine zC ?_ | refine zC4 ?_ | refine zOr16 ?_ | refine zC1 ?_ | refine zByte ?_ | refine zMaxL ?_ | refine zMaxR ?_ | refine zMinL ?_ | refine zMinR ?_ | refine zShr ?_ | refine zC8 ?_ | refine zQ ?_ | refine zR ?_ | refine zS ?_ | refine zA ?_ | refine zM ?_ | refine xr rfl ?_ | refine ai rfl ?_ | refine condT ?_ | refine condF ?_ | refine condG1 ?_ | refine condG0 ?_ | refine cD ?_ | refine dD ?_ | refine cB ?_ | refine dB ?_ | refine cN ?_ | refine dN ?_ | refine cV ?_ | refine dV ?_ | refine cE ?_ | refine dE ?_ | refine condX0 ?_ | refine condX1 ?_ | refine condNot ?_ | refine condAnd ?_ | refine condOr ?_ | refine aO ?_ | refine aB ?_ | refine aR ?_ | refine aR ?_ (by simp; omega) | refine xr (by assumption) ?_ | refine ai (by assumption) ?_ | refine kV (same_gives103 _ _ ha.path hb.path ha.segs hb.segs) ?_ | refine kV (eq_gives104 _ _ ha.comms hb.comms) ?_ | refine kV (eq_gives104 _ _ ha.clusters hb.clusters) ?_ | refine condD (fun h => ?_) (fun h => ?_) | refine condB (fun h => ?_) (fun h => ?_) | refine condN (fun h => ?_) (fun h => ?_) | refine condE (fun h => ?_) (fun h => ?_) | refine condV (fun h => ?_) (fun h => ?_))
    all_goals try ((first | refine ev_fin (And.intro (by first | rfl | (simp [AV.pure, pureL]; done) | fail) ?_) | refine ev_fin0 (And.intro (by first | rfl | (simp [AV.pure, pureL]; done) | fail) ?_)); first | rfl | (simp [hab, Bool.cond_eq_ite, *]; done) | (simp [hab, Bool.cond_eq_ite, *]; omega))
    refine ev_keep [122, 3, 2, 121] [66, 67] ?_
    rw [l1, show decide (a = b) = (decide (a.unknown = b.unknown)) from by simp [hab, *]]
    exact unk_loop72 a b ha hb hlen a.unknown [] b.unknown [] _ _ _ 0 rfl rfl rfl rfl
  · have hne : ¬ a.unknown = b.unknown := fun h => hlen (by rw [h])
    rw [show decide (a = b) = false from by simp [hab, hne]]
    refine gives_code (F := f72) rfl rfl (W_ok 300 _ _ _ _ ?_)
    repeat' ((conv => whnf); first | refine bslP (by first | rfl | (simp [pureL, pureLL, AV.pure]; done) | fail) rfl ?_ | refine TakeC.full (by first | rfl | omega | (simp; done) | (simp; omega) | fail) ?_ | refine zBs ?_ | refine zBn ?_ | refine zBv rfl rfl ?_ | refine zN ?_ | refine zC ?_ | refine zC4 ?_ | refine zOr16 ?_ | refine zC1 ?_ | refine zByte ?_ | refine zMaxL ?_ | refine zMaxR ?_ | refine zMinL ?_ | refine zMinR ?_ | refine zShr ?_ | refine zC8 ?_ | refine zQ ?_ | refine zR ?_ | refine zS ?_ | refine zA ?_ | refine zM ?_ | refine xr rfl ?_ | refine ai rfl ?_ | refine condT ?_ | refine condF ?_ | refine condG1 ?_ | refine condG0 ?_ | refine cD ?_ | refine dD ?_ | refine cB ?_ | refine dB ?_ | refine cN ?_ | refine dN ?_ | refine cV ?_ | refine dV ?_ | refine cE ?_ | refine dE ?_ | refine condX0 ?_ | refine condX1 ?_ | refine condNot ?_ | refine condAnd ?_ | refine condOr ?_ | refine aO ?_ | refine aB ?_ | refine aR ?_ | refine aR ?_ (by simp; omega) | refine xr (by assumption) ?_ | refine ai (by assumption) ?_ | refine kV (same_gives103 _ _ ha.path hb.path ha.segs hb.segs) ?_ | refine kV (eq_gives104 _ _ ha.comms hb.comms) ?_ | refine kV (eq_gives104 _ _ ha.clusters hb.clusters) ?_ | refine condD (fun h => ?_) (fun h => ?_) | refine condB (fun h => ?_) (fun h => ?_) | refine condN (fun h => ?_) (fun h => ?_) | refine condE (fun h => ?_) (fun h => ?_) | refine condV (fun h => ?_) (fun h => ?_))
    all_goals try ((first | refine ev_fin (And.intro (by first | rfl | (simp [AV.pure, pureL]; done) | fail) ?_) | refine ev_fin0 (And.intro (by first | rfl | (simp [AV.pure, pureL]; done) | fail) ?_)); first | rfl | (simp [Bool.cond_eq_ite, *]; done) | (simp [Bool.cond_eq_ite, *]; omega))

theorem unk_loop70 (a b : Attrs) (ha : LenC a) (hb : LenC b) (hlen : a.unknown.length = b.unknown.length) : ∀ (r1 d1 r2 d2 : List TLV) (T : List (Nat × AV)) (H : Heap) (c : Nat) (n : Int) (e1 : a.unknown = d1 ++ r1) (e2 : b.unknown = d2 ++ r2) (hn1 : n = d1.length) (hn2 : n = d2.length),
   Ev G ⟨f70x11LH, ⟨(106, .int .i64 n) :: (3, .ref 67 2 0) :: (2, .ref 66 1 0) :: (105, .int .i64 a.unknown.length) :: T, (66, some (1, .cells a.enc)) :: (67, some (2, .cells b.enc)) :: H, c⟩, [.t 4], 0⟩ ⟨.bool ((decide (r1 = r2) && (decide (a.comms = b.comms) && decide (a.clusters = b.clusters)))), []⟩
  | [], d1, [], d2, T, H, c, n, e1, e2, hn1, hn2 => by
    have hul := ha.unknown
    have hd : a.unknown.length = d1.length := by simp [e1]
    refine ev_loop' (W_ok 300 _ _ _ _ ?_)
    repeat' ((conv => whnf); first | refine bslP (by first | rfl | (simp [pureL, pureLL, AV.pure]; done) | fail) rfl ?_ | refine TakeC.full (by first | rfl | omega | (simp; done) | (simp; omega) | fail) ?_ | refine zBs ?_ | refine zBn ?_ | refine zBv rfl rfl ?_ | refine zN ?_ | refine zC ?_ | refine zC4 ?_ | refine zOr16 ?_ | refine zC1 ?_ | refine zByte ?_ | refine zMaxL ?_ | refine zMaxR ?_ | refine zMinL ?_ | refine zMinR ?_ | refine zShr ?_ | refine zC8 ?_ | refine zQ ?_ | refine zR ?_ | refine zS ?_ | refine zA ?_ | refine zM ?_ | refine xr rfl ?_ | refine ai rfl ?_ | refine condT ?_ | refine condF ?_ | refine condG1 ?_ | refine condG0 ?_ | refine cD ?_ | refine dD ?_ | refine cB ?_ | refine dB ?_ | refine cN ?_ | refine dN ?_ | refine cV ?_ | refine dV ?_ | refine cE ?_ | refine dE ?_ | refine condX0 ?_ | refine condX1 ?_ | refine condNot ?_ | refine condAnd ?_ | refine condOr ?_ | refine aO ?_ | refine aB ?_ | refine aR ?_ | refine aR ?_ (by simp; omega) | refine xr (by assumption) ?_ | refine ai (by assumption) ?_ | refine kV (bytesSame_gives98 _ _) ?_ | refine kV (eq_gives99 _ _ ha.comms hb.comms) ?_ | refine kV (eq_gives99 _ _ ha.clusters hb.clusters) ?_ | refine condD (fun h => ?_) (fun h => ?_) | refine condB (fun h => ?_) (fun h => ?_) | refine condN (fun h => ?_) (fun h => ?_) | refine condE (fun h => ?_) (fun h => ?_) | refine condV (fun h => ?_) (fun h => ?_))
    all_goals try ((first | refine ev_fin (And.intro (by first | rfl | (simp [AV.pure, pureL]; done) | fail) ?_) | refine ev_fin0 (And.intro (by first | rfl | (simp [AV.pure, pureL]; done) | fail) ?_)); first | rfl | (simp [Bool.cond_eq_ite, *]; done) | (simp [Bool.cond_eq_ite, *]; omega))
  | x :: r1, d1, y :: r2, d2, T, H, c, n, e1, e2, hn1, hn2 => by
    have hul := ha.unknown
    have hd : a.unknown.length = d1.length + (r1.length + 1) := by simp [e1]
    have hx : (a.unknown.map TLV.enc)[n.toNat]? = some x.enc := by simp [e1, hn1]
    have hy : (b.unknown.map TLV.enc)[n.toNat]? = some y.enc := by simp [e2, hn2]
    have hee : (x = y) ↔ (x.kind = y.kind ∧ x.value = y.value) := by cases x; cases y; simp
    refine ev_loop' (W_ok 300 _ _ _ _ ?_)
    repeat' ((conv => whnf); first | refine bslP (by first | rfl | (simp [pureL, pureLL, AV.pure]; done) | fail) rfl ?_ | refine TakeC.full (by first | rfl | omega | (simp; done) | (simp; omega) | fail) ?_ | refine zBs ?_ | refine zBn ?_ | refine zBv rfl rfl ?_ | refine zN ?_ | refine zC ?_ | refine zC4 ?_ | refine zOr16 ?_ | refine zC1 ?_ | refine zByte ?_ | refine zMaxL ?_ | refine zMaxR ?_ | refine zMinL ?_ | refine zMinR ?_ | refine zShr ?_ | refine zC8 ?_ | refine zQ ?_ | refine zR ?_ | refine zS ?_ | refine zA ?_ | refine zM ?_ | refine xr rfl ?_ | refine ai rfl ?_ | refine condT ?_ | refine condF ?_ | refine condG1 ?_ | refine condG0 ?_ | refine cD ?_ | refine dD ?_ | refine cB ?_ | refine dB ?_ | refine cN ?_ | refine dN ?_ | refine cV ?_ | refine dV ?_ | refine cE ?_ | refine dE ?_ | refine condX0 ?_ | refine condX1 ?_ | refine condNot ?_ | refine condAnd ?_ | refine condOr ?_ | refine aO ?_ | refine aB ?_ | refine aR ?_ | refine aR ?_ (by simp; omega) | refine xr (by assumption) ?_ | refine ai (by assumption) ?_ | refine kV (bytesSame_gives98 _ _) ?_ | refine kV (eq_gives99 _ _ ha.comms hb.comms) ?_ | refine kV (eq_gives99 _ _ ha.clusters hb.clusters) ?_ | refine condD (fun h => ?_) (fun h => ?_) | refine condB (fun h => ?_) (fun h => ?_) | refine condN (fun h => ?_) (fun h => ?_) | refine condE (fun h => ?_) (fun h => ?_) | refine condV (fun h => ?_) (fun h => ?_))
    all_goals try ((first | refine ev_fin (And.intro (by first | rfl | (simp [AV.pure, pureL]; done) | fail) ?_) | refine ev_fin0 (And.intro (by first | rfl | (simp [AV.pure, pureL]; done) | fail) ?_)); first | rfl | (simp [hee, Bool.cond_eq_ite, *]; done) | (simp [hee, Bool.cond_eq_ite, *]; omega))
    rw [show ((decide (x :: r1 = y :: r2) && (decide (a.comms = b.comms) && decide (a.clusters = b.clusters)))) = ((decide (r1 = r2) && (decide (a.comms = b.comms) && decide (a.clusters = b.clusters)))) from by simp [hee, *]]
    refine ev_keep [106, 3, 2, 105] [66, 67] ?_; exact unk_loop70 a b ha hb hlen r1 (d1 ++ [x]) r2 (d2 ++ [y]) _ _ _ (n + 1) (by simp [e1]) (by simp [e2]) (by simp [hn1]) (by simp; omega)
  | [], d1, y :: r2, d2, T, H, c, n, e1, e2, hn1, hn2 => by
    exfalso; rw [e1, e2] at hlen; simp at hlen; omega
  | x :: r1, d1, [], d2, T, H, c, n, e1, e2, hn1, hn2 => by
    exfalso; rw [e1, e2] at hlen; simp at hlen; omega
theorem same_gives70 (a b : Attrs) (ha : LenC a) (hb : LenC b) : Gives G 70 [.agg a.enc, .agg b.enc] [] ⟨.bool (decide (a = b)), []⟩ := by
  have hab : (a = b) ↔ (a.origin = b.origin ∧ a.path = b.path ∧ a.nextHop = b.nextHop ∧ a.hasMED = b.hasMED ∧ a.med = b.med ∧ a.hasPref = b.hasPref ∧ a.pref = b.pref ∧ a.atomic = b.atomic ∧ a.hasAggr = b.hasAggr ∧ a.aggrAS = b.aggrAS ∧ a.aggrAddr = b.aggrAddr ∧ a.comms = b.comms ∧ a.hasOrig = b.hasOrig ∧ a.orig = b.orig ∧ a.clusters = b.clusters ∧ a.unknown = b.unknown) := by cases a; cases b; simp
  have l1 : (a.unknown.map TLV.enc).length = a.unknown.length := by simp
  have l2 : (b.unknown.map TLV.enc).length = b.unknown.length := by simp
  by_cases hlen : a.unknown.length = b.unknown.length
  · refine gives_code (F := f70) rfl rfl (W_ok 300 _ _ _ _ ?_)
    repeat' ((conv => whnf); first | refine bslP (by first | rfl | (simp [pureL, pureLL, AV.pure]; done) | fail) rfl ?_ | refine TakeC.full (by first | rfl | omega | (simp; done) | (simp; omega) | fail) ?_ | refine zBs ?_ | refine zBn ?_ | refine zBv rfl rfl ?_ | refine zN ?_ | refine zC ?_ | refine zC4 ?_ | refine zOr16 ?_ | refine zC1 ?_ | refine zByte ?_ | refine zMaxL ?_ | refine zMaxR ?_ | refine zMinL ?_ | refine zMinR ?_ | refine zShr ?_ | refine zC8 ?_ | refine zQ ?_ | refine zR ?_ | refine zS ?_ | refine zA ?_ | refine zM ?_ | refine xr rfl ?_ | refine ai rfl ?_ | refine condT ?_ | refine condF ?_ | refine condG1 ?_ | refine condG0 ?_ | refine cD ?_ | refine dD ?_ | refine cB ?_ | refine dB ?_ | refine cN ?_ | refine dN ?_ | refine cV ?_ | refine dV ?_ | refine cE ?_ | refine dE ?_ | refine condX0 ?_ | refine condX1 ?_ | refine condNot ?_ | refine condAnd ?_ | refine condOr ?_ | refine aO ?_ | refine aB ?_ | refine aR ?_ | refine aR ?_ (by simp; omega) | refine xr (by assumption) ?_ | refine ai (by assumption) ?_ | refine kV (same_gives97 _ _ ha.path hb.path ha.segs hb.segs) ?_ | refine kV (eq_gives99 _ _ ha.comms hb.comms) ?_ | refine kV (eq_gives99 _ _ ha.clusters hb.clusters) ?_ | refine condD (fun h => ?_) (fun h => ?_) | refine condB (fun h => ?_) (fun h => ?_) | refine condN (fun h => ?_) (fun h => ?_) | refine condE (fun h => ?_) (fun h => ?_) | refine condV (fun h => ?_) (fun h => ?_))
    all_goals try ((first | refine ev_fin (And.intro (by first | rfl | (simp [AV.pure, pureL]; done) | fail) ?_) | refine ev_fin0 (And.intro (by first | rfl | (simp [AV.pure, pureL]; done) | fail) ?_)); first | rfl | (simp [hab, Bool.cond_eq_ite, *]; done) | (simp [hab, Bool.cond_eq_ite, *]; omega))
    refine ev_keep [106, 3, 2, 105] [66, 67] ?_
    rw [l1, show decide (a = b) = ((decide (a.unknown = b.unknown) && (decide (a.comms = b.comms) && decide (a.clusters = b.clusters)))) from by simp [hab, *]; rw [Bool.eq_iff_iff]; simp [and_comm, and_assoc, and_left_comm]]
    exact unk_loop70 a b ha hb hlen a.unknown [] b.unknown [] _ _ _ 0 rfl rfl rfl rfl
  · have hne : ¬ a.unknown = b.unknown := fun h => hlen (by rw [h])
    rw [show decide (a = b) = false from by simp [hab, hne]]
    refine gives_code (F := f70) rfl rfl (W_ok 300 _ _ _ _ ?_)
    repeat' ((conv => whnf); first | refine bslP (by first | rfl | (simp [pureL, pureLL, AV.pure]; done) | fail) rfl ?_ | refine TakeC.full (by first | rfl | omega | (simp; done) | (simp; omega) | fail) ?_ | refine zBs ?_ | refine zBn ?_ | refine zBv rfl rfl ?_ | refine zN ?_ | refine zC ?_ | refine zC4 ?_ | refine zOr16 ?_ | refine zC1 ?_ | refine zByte ?_ | refine zMaxL ?_ | refine zMaxR ?_ | refine zMinL ?_ | refine zMinR ?_ | refine zShr ?_ | refine zC8 ?_ | refine zQ ?_ | refine zR ?_ | refine zS ?_ | refine zA ?_ | refine zM ?_ | refine xr rfl ?_ | refine ai rfl ?_ | refine condT ?_ | refine condF ?_ | refine condG1 ?_ | refine condG0 ?_ | refine cD ?_ | refine dD ?_ | refine cB ?_ | refine dB ?_ | refine cN ?_ | refine dN ?_ | refine cV ?_ | refine dV ?_ | refine cE ?_ | refine dE ?_ | refine condX0 ?_ | refine condX1 ?_ | refine condNot ?_ | refine condAnd ?_ | refine condOr ?_ | refine aO ?_ | refine aB ?_ | refine aR ?_ | refine aR ?_ (by simp; omega) | refine xr (by assumption) ?_ | refine ai (by assumption) ?_ | refine kV (same_gives97 _ _ ha.path hb.path ha.segs hb.segs) ?_ | refine kV (eq_gives99 _ _ ha.comms hb.comms) ?_ | refine kV (eq_gives99 _ _ ha.clusters hb.clusters) ?_ | refine condD (fun h => ?_) (fun h => ?_) | refine condB (fun h => ?_) (fun h => ?_) | refine condN (fun h => ?_) (fun h => ?_) | refine condE (fun h => ?_) (fun h => ?_) | refine condV (fun h => ?_) (fun h => ?_))
    all_goals try ((first | refine ev_fin (And.intro (by first | rfl | (simp [AV.pure, pureL]; done) | fail) ?_) | refine ev_fin0 (And.intro (by first | rfl | (simp [AV.pure, pureL]; done) | fail) ?_)); first | rfl | (simp [Bool.cond_eq_ite, *]; done) | (simp [Bool.cond_eq_ite, *]; omega))
end Go.AM.IR
set_option maxHeartbeats 4000000
set_option maxRecDepth 20000
namespace Go.AM.IR
def flatS (l : List Seg) : List Int := l.flatMap (·.as)
theorem flat_loop57 (l : List Seg) (hs : (flatS l).length < 2 ^ 40) (hl : l.length < 2 ^ 62) (ln : Int) (hln : ln = l.length) : ∀ (rest done : List Seg) (g m : Nat) (es : List (List AV)) (T : List (Nat × AV)) (H : Heap) (c : Nat) (n : Int) (e : l = done ++ rest) (hn : n = done.length) (hm : m = es.length) (hes : es = (flatS done).map encI), Ev G ⟨f57x7LH, ⟨(6, .sl 2 (l.map Seg.enc)) :: (7, .int .i64 ln) :: (8, .int .i64 n) :: (3, .vs 79 g m) :: T, (79, some (g, .vec 1 es)) :: H, c⟩, [.t 2], 0⟩ ⟨.vs 0 0 (flatS l).length, [(false, .vec 1 ((flatS l).map encI))]⟩
  | [], done, g, m, es, T, H, c, n, e, hn, hm, hes => by
    have hd : l.length = done.length := by simp [e]
    have hll : (l.map Seg.enc).length = l.length := by simp
    obtain rfl : l = done := by simpa using e
    refine ev_loop' (W_ok 300 _ _ _ _ ?_)
    repeat ((conv => whnf); first | refine bslP (by first | rfl | (simp [pureL, pureLL, AV.pure]; done) | fail) rfl ?_ | refine TakeC.full (by first | rfl | omega | (simp; done) | (simp; omega) | fail) ?_ | refine zBs ?_ | refine zBn ?_ | refine zBv rfl rfl ?_ | refine zN ?_ | refine zC ?_ | refine zC4 ?_ | refine zOr16 ?_ | refine zC1 ?_ | refine zByte ?_ | refine zMaxL ?_ | refine zMaxR ?_ | refine zMinL ?_ | refine zMinR ?_ | refine zShr ?_ | refine zC8 ?_ | refine zQ ?_ | refine zR ?_ | refine zS ?_ | refine zA ?_ | refine zM ?_ | refine xr rfl ?_ | refine ai rfl ?_ | refine condT ?_ | refine condF ?_ | refine condG1 ?_ | refine condG0 ?_ | refine cD ?_ | refine dD ?_ | refine cB ?_ | refine dB ?_ | refine cN ?_ | refine dN ?_ | refine cV ?_ | refine dV ?_ | refine cE ?_ | refine dE ?_ | refine condX0 ?_ | refine condX1 ?_ | refine condNot ?_ | refine condAnd ?_ | refine condOr ?_ | refine aO ?_ | refine aB ?_ | refine aR ?_ | refine aR ?_ (by simp; omega) | refine xr (by assumption) ?_ | refine ai (by assumption) ?_)
    refine ev_retV 79 g m _ rfl rfl (by simp [Blk.pure, hes]) ?_
    simp [hm, hes]
  | x :: r, done, g, m, es, T, H, c, n, e, hn, hm, hes => by
    have hd : l.length = done.length + (r.length + 1) := by simp [e]
    have hll : (l.map Seg.enc).length = l.length := by simp
    have hx : (l.map Seg.enc)[n.toNat]? = some (Seg.enc x) := by simp [e, hn]
    have hsz : es.length + (x.as.map encI).length < 2 ^ 40 := by
      rw [e] at hs; simp [flatS] at hs; simp [hes, flatS]; omega
    refine ev_loop' (W_ok 300 _ _ _ _ ?_)
    repeat ((conv => whnf); first | refine bslP (by first | rfl | (simp [pureL, pureLL, AV.pure]; done) | fail) rfl ?_ | refine TakeC.full (by first | rfl | omega | (simp; done) | (simp; omega) | fail) ?_ | refine zBs ?_ | refine zBn ?_ | refine zBv rfl rfl ?_ | refine zN ?_ | refine zC ?_ | refine zC4 ?_ | refine zOr16 ?_ | refine zC1 ?_ | refine zByte ?_ | refine zMaxL ?_ | refine zMaxR ?_ | refine zMinL ?_ | refine zMinR ?_ | refine zShr ?_ | refine zC8 ?_ | refine zQ ?_ | refine zR ?_ | refine zS ?_ | refine zA ?_ | refine zM ?_ | refine xr rfl ?_ | refine ai rfl ?_ | refine condT ?_ | refine condF ?_ | refine condG1 ?_ | refine condG0 ?_ | refine cD ?_ | refine dD ?_ | refine cB ?_ | refine dB ?_ | refine cN ?_ | refine dN ?_ | refine cV ?_ | refine dV ?_ | refine cE ?_ | refine dE ?_ | refine condX0 ?_ | refine condX1 ?_ | refine condNot ?_ | refine condAnd ?_ | refine condOr ?_ | refine aO ?_ | refine aB ?_ | refine aR ?_ | refine aR ?_ (by simp; omega) | refine xr (by assumption) ?_ | refine ai (by assumption) ?_)
    refine ev_keep [6, 7, 8, 3] [79] ?_; exact flat_loop57 l hs hl ln hln r (done ++ [x]) _ _ _ _ _ _ (n + 1) (by simp [e]) (by simp [hn] <;> omega) (by simp [hm]) (by rw [hes]; simp [flatS])
theorem flat_gives57 (l : List Seg) (hl : l.length < 2 ^ 62) (hs : (flatS l).length < 2 ^ 40) : Gives G 57 [.sl 2 (l.map Seg.enc)] [] ⟨.vs 0 0 (flatS l).length, [(false, .vec 1 ((flatS l).map encI))]⟩ := by
  refine gives_code (F := f57) rfl rfl (W_ok 300 _ _ _ _ ?_)
  repeat ((conv => whnf); first | refine bslP (by first | rfl | (simp [pureL, pureLL, AV.pure]; done) | fail) rfl ?_ | refine TakeC.full (by first | rfl | omega | (simp; done) | (simp; omega) | fail) ?_ | refine zBs ?_ | refine zBn ?_ | refine zBv rfl rfl ?_ | refine zN ?_ | refine zC ?_ | refine zC4 ?_ | refine zOr16 ?_ | refine zC1 ?_ | refine zByte ?_ | refine zMaxL ?_ | refine zMaxR ?_ | refine zMinL ?_ | refine zMinR ?_ | refine zShr ?_ | refine zC8 ?_ | refine zQ ?_ | refine zR ?_ | refine zS ?_ | refine zA ?_ | refine zM ?_ | refine xr rfl ?_ | refine ai rfl ?_ | refine condT ?_ | refine condF ?_ | refine condG1 ?_ | refine condG0 ?_ | refine cD ?_ | refine dD ?_ | refine cB ?_ | refine dB ?_ | refine cN ?_ | refine dN ?_ | refine cV ?_ | refine dV ?_ | refine cE ?_ | refine dE ?_ | refine condX0 ?_ | refine condX1 ?_ | refine condNot ?_ | refine condAnd ?_ | refine condOr ?_ | refine aO ?_ | refine aB ?_ | refine aR ?_ | refine aR ?_ (by simp; omega) | refine xr (by assumption) ?_ | refine ai (by assumption) ?_)
  refine ev_nil 79 1 [(3, .vs 79 _ 0)] [] ⟨LeP.nilV _ _ _, trivial⟩ trivial ?_
  refine ev_keep [6, 7, 8, 3] [79] ?_
  exact flat_loop57 l hs hl _ (by simp) l [] _ _ _ _ _ _ 0 rfl rfl rfl rfl
theorem size_gives54 (l : List Seg) (hl : l.length < 2 ^ 40) (hs : (flatS l).length < 2 ^ 40) : Gives G 54 [.sl 2 (l.map Seg.enc)] [] ⟨.int .i64 (l.length + (flatS l).length), []⟩ := by
  have hlm : (l.map Seg.enc).length = l.length := by simp
  refine gives_code (F := f54) rfl rfl (W_ok 300 _ _ _ _ ?_)
  repeat ((conv => whnf); first | refine bslP (by first | rfl | (simp [pureL, pureLL, AV.pure]; done) | fail) rfl ?_ | refine TakeC.full (by first | rfl | omega | (simp; done) | (simp; omega) | fail) ?_ | refine zBs ?_ | refine zBn ?_ | refine zBv rfl rfl ?_ | refine zN ?_ | refine zC ?_ | refine zC4 ?_ | refine zOr16 ?_ | refine zC1 ?_ | refine zByte ?_ | refine zMaxL ?_ | refine zMaxR ?_ | refine zMinL ?_ | refine zMinR ?_ | refine zShr ?_ | refine zC8 ?_ | refine zQ ?_ | refine zR ?_ | refine zS ?_ | refine zA ?_ | refine zM ?_ | refine xr rfl ?_ | refine ai rfl ?_ | refine condT ?_ | refine condF ?_ | refine condG1 ?_ | refine condG0 ?_ | refine cD ?_ | refine dD ?_ | refine cB ?_ | refine dB ?_ | refine cN ?_ | refine dN ?_ | refine cV ?_ | refine dV ?_ | refine cE ?_ | refine dE ?_ | refine condX0 ?_ | refine condX1 ?_ | refine condNot ?_ | refine condAnd ?_ | refine condOr ?_ | refine aO ?_ | refine aB ?_ | refine aR ?_ | refine aR ?_ (by simp; omega) | refine xr (by assumption) ?_ | refine ai (by assumption) ?_)
  refine callN (flat_gives57 l (by omega) hs) (by simp [pureL, AV.pure]) rfl (by simp [pureBs, Blk.pure]) rfl ?_
  repeat ((conv => whnf); first | refine bslP (by first | rfl | (simp [pureL, pureLL, AV.pure]; done) | fail) rfl ?_ | refine TakeC.full (by first | rfl | omega | (simp; done) | (simp; omega) | fail) ?_ | refine zBs ?_ | refine zBn ?_ | refine zBv rfl rfl ?_ | refine zN ?_ | refine zC ?_ | refine zC4 ?_ | refine zOr16 ?_ | refine zC1 ?_ | refine zByte ?_ | refine zMaxL ?_ | refine zMaxR ?_ | refine zMinL ?_ | refine zMinR ?_ | refine zShr ?_ | refine zC8 ?_ | refine zQ ?_ | refine zR ?_ | refine zS ?_ | refine zA ?_ | refine zM ?_ | refine xr rfl ?_ | refine ai rfl ?_ | refine condT ?_ | refine condF ?_ | refine condG1 ?_ | refine condG0 ?_ | refine cD ?_ | refine dD ?_ | refine cB ?_ | refine dB ?_ | refine cN ?_ | refine dN ?_ | refine cV ?_ | refine dV ?_ | refine cE ?_ | refine dE ?_ | refine condX0 ?_ | refine condX1 ?_ | refine condNot ?_ | refine condAnd ?_ | refine condOr ?_ | refine aO ?_ | refine aB ?_ | refine aR ?_ | refine aR ?_ (by simp; omega) | refine xr (by assumption) ?_ | refine ai (by assumption) ?_)
  (first | refine ev_fin (And.intro (by first | rfl | (simp [AV.pure, pureL]; done) | fail) ?_) | refine ev_fin0 (And.intro (by first | rfl | (simp [AV.pure, pureL]; done) | fail) ?_))
  simp

def unkS (l : List TLV) : Int := (l.map fun t => (t.value.length : Int) / 8).sum
def sizeS (a : Attrs) : Int := a.path.length + (flatS a.path).length + a.comms.length + a.clusters.length + a.unknown.length + unkS a.unknown
/-- Bounds under which no number wraps. -/
structure AB (a : Attrs) : Prop where
  path : a.path.length < 2 ^ 40
  flat : (flatS a.path).length < 2 ^ 40
  comms : a.comms.length < 2 ^ 40
  clusters : a.clusters.length < 2 ^ 40
  unknown : a.unknown.length < 2 ^ 40
  vals : ∀ t ∈ a.unknown, t.value.length < 2 ^ 40
  unk : unkS a.unknown < 2 ^ 40
theorem unk_nonneg : ∀ l : List TLV, 0 ≤ unkS l
  | [] => by simp [unkS]
  | t :: r => by
    have := unk_nonneg r
    simp only [unkS, List.map_cons, List.sum_cons] at this ⊢
    have h2 : 0 ≤ (t.value.length : Int) / 8 := by omega
    omega
theorem size_loop26 (l : List TLV) (s0 : Int) (hv : ∀ t ∈ l, t.value.length < 2 ^ 40) (hu : unkS l < 2 ^ 40) (hs0 : 0 ≤ s0) (hs1 : s0 < 2 ^ 50) (hl : l.length < 2 ^ 40) (ln : Int) (hln : ln = l.length) : ∀ (rest done : List TLV) (s : Int) (T : List (Nat × AV)) (H : Heap) (c : Nat) (n : Int) (e : l = done ++ rest) (hn : n = done.length) (hs : s = s0 + unkS done), Ev G ⟨f26x7LH, ⟨(22, .sl 2 (l.map TLV.enc)) :: (23, .int .i64 ln) :: (24, .int .i64 n) :: (3, .int .i64 s) :: T, H, c⟩, [.t 2], 0⟩ ⟨.int .i64 (s0 + unkS l), []⟩
  | [], done, s, T, H, c, n, e, hn, hs => by
    have hd : l.length = done.length := by simp [e]
    have hll : (l.map TLV.enc).length = l.length := by simp
    obtain rfl : l = done := by simpa using e
    refine ev_loop' (W_ok 300 _ _ _ _ ?_)
    repeat ((conv => whnf); first | refine bslP (by first | rfl | (simp [pureL, pureLL, AV.pure]; done) | fail) rfl ?_ | refine TakeC.full (by first | rfl | omega | (simp; done) | (simp; omega) | fail) ?_ | refine zBs ?_ | refine zBn ?_ | refine zBv rfl rfl ?_ | refine zN ?_ | refine zC ?_ | refine zC4 ?_ | refine zOr16 ?_ | refine zC1 ?_ | refine zByte ?_ | refine zMaxL ?_ | refine zMaxR ?_ | refine zMinL ?_ | refine zMinR ?_ | refine zShr ?_ | refine zC8 ?_ | refine zQ ?_ | refine zR ?_ | refine zS ?_ | refine zA ?_ | refine zM ?_ | refine xr rfl ?_ | refine ai rfl ?_ | refine condT ?_ | refine condF ?_ | refine condG1 ?_ | refine condG0 ?_ | refine cD ?_ | refine dD ?_ | refine cB ?_ | refine dB ?_ | refine cN ?_ | refine dN ?_ | refine cV ?_ | refine dV ?_ | refine cE ?_ | refine dE ?_ | refine condX0 ?_ | refine condX1 ?_ | refine condNot ?_ | refine condAnd ?_ | refine condOr ?_ | refine aO ?_ | refine aB ?_ | refine aR ?_ | refine aR ?_ (by simp; omega) | refine xr (by assumption) ?_ | refine ai (by assumption) ?_)
    rw [hs]
    first | exact ev_ret rfl | exact ev_end rfl
  | x :: r, done, s, T, H, c, n, e, hn, hs => by
    have hd : l.length = done.length + (r.length + 1) := by simp [e]
    have hll : (l.map TLV.enc).length = l.length := by simp
    have hx : (l.map TLV.enc)[n.toNat]? = some (TLV.enc x) := by simp [e, hn]
    have hxv : x.value.length < 2 ^ 40 := hv x (by simp [e])
    have hbl : (byteCells x.value).length = x.value.length := by simp [byteCells]
    have hsum : unkS l = unkS done + ((x.value.length : Int) / 8 + unkS r) := by rw [e]; simp [unkS]
    have hr := unk_nonneg r
    have hdn := unk_nonneg done
    refine ev_loop' (W_ok 300 _ _ _ _ ?_)
    repeat ((conv => whnf); first | refine bslP (by first | rfl | (simp [pureL, pureLL, AV.pure]; done) | fail) rfl ?_ | refine TakeC.full (by first | rfl | omega | (simp; done) | (simp; omega) | fail) ?_ | refine zBs ?_ | refine zBn ?_ | refine zBv rfl rfl ?_ | refine zN ?_ | refine zC ?_ | refine zC4 ?_ | refine zOr16 ?_ | refine zC1 ?_ | refine zByte ?_ | refine zMaxL ?_ | refine zMaxR ?_ | refine zMinL ?_ | refine zMinR ?_ | refine zShr ?_ | refine zC8 ?_ | refine zQ ?_ | refine zR ?_ | refine zS ?_ | refine zA ?_ | refine zM ?_ | refine xr rfl ?_ | refine ai rfl ?_ | refine condT ?_ | refine condF ?_ | refine condG1 ?_ | refine condG0 ?_ | refine cD ?_ | refine dD ?_ | refine cB ?_ | refine dB ?_ | refine cN ?_ | refine dN ?_ | refine cV ?_ | refine dV ?_ | refine cE ?_ | refine dE ?_ | refine condX0 ?_ | refine condX1 ?_ | refine condNot ?_ | refine condAnd ?_ | refine condOr ?_ | refine aO ?_ | refine aB ?_ | refine aR ?_ | refine aR ?_ (by simp; omega) | refine xr (by assumption) ?_ | refine ai (by assumption) ?_)
    refine ev_keep [22, 23, 24, 3] [] ?_; exact size_loop26 l s0 hv hu hs0 hs1 hl ln hln r (done ++ [x]) _ _ _ _ (n + 1) (by simp [e]) (by simp [hn] <;> omega) (by rw [hs, hbl]; simp [unkS]; omega)
theorem size_gives26 (a : Attrs) (h : AB a) : Gives G 26 [.agg a.enc] [] ⟨.int .i64 (sizeS a), []⟩ := by
  obtain ⟨h1, h2, h3, h4, h5, h6, h7⟩ := h
  have l3 : (a.comms.map encU).length = a.comms.length := by simp
  have l4 : (a.clusters.map encU).length = a.clusters.length := by simp
  have l5 : (a.unknown.map TLV.enc).length = a.unknown.length := by simp
  refine gives_code (F := f26) rfl rfl (W_ok 300 _ _ _ _ ?_)
  repeat ((conv => whnf); first | refine bslP (by first | rfl | (simp [pureL, pureLL, AV.pure]; done) | fail) rfl ?_ | refine TakeC.full (by first | rfl | omega | (simp; done) | (simp; omega) | fail) ?_ | refine zBs ?_ | refine zBn ?_ | refine zBv rfl rfl ?_ | refine zN ?_ | refine zC ?_ | refine zC4 ?_ | refine zOr16 ?_ | refine zC1 ?_ | refine zByte ?_ | refine zMaxL ?_ | refine zMaxR ?_ | refine zMinL ?_ | refine zMinR ?_ | refine zShr ?_ | refine zC8 ?_ | refine zQ ?_ | refine zR ?_ | refine zS ?_ | refine zA ?_ | refine zM ?_ | refine xr rfl ?_ | refine ai rfl ?_ | refine condT ?_ | refine condF ?_ | refine condG1 ?_ | refine condG0 ?_ | refine cD ?_ | refine dD ?_ | refine cB ?_ | refine dB ?_ | refine cN ?_ | refine dN ?_ | refine cV ?_ | refine dV ?_ | refine cE ?_ | refine dE ?_ | refine condX0 ?_ | refine condX1 ?_ | refine condNot ?_ | refine condAnd ?_ | refine condOr ?_ | refine aO ?_ | refine aB ?_ | refine aR ?_ | refine aR ?_ (by simp; omega) | refine xr (by assumption) ?_ | refine ai (by assumption) ?_)
  refine callV (size_gives54 a.path h1 h2) (by first | rfl | (simp [pureL, pureLL, AV.pure]; done) | fail) (by first | rfl | (simp [AV.dry, dryL]; done) | fail) ?_
  repeat ((conv => whnf); first | refine bslP (by first | rfl | (simp [pureL, pureLL, AV.pure]; done) | fail) rfl ?_ | refine TakeC.full (by first | rfl | omega | (simp; done) | (simp; omega) | fail) ?_ | refine zBs ?_ | refine zBn ?_ | refine zBv rfl rfl ?_ | refine zN ?_ | refine zC ?_ | refine zC4 ?_ | refine zOr16 ?_ | refine zC1 ?_ | refine zByte ?_ | refine zMaxL ?_ | refine zMaxR ?_ | refine zMinL ?_ | refine zMinR ?_ | refine zShr ?_ | refine zC8 ?_ | refine zQ ?_ | refine zR ?_ | refine zS ?_ | refine zA ?_ | refine zM ?_ | refine xr rfl ?_ | refine ai rfl ?_ | refine condT ?_ | refine condF ?_ | refine condG1 ?_ | refine condG0 ?_ | refine cD ?_ | refine dD ?_ | refine cB ?_ | refine dB ?_ | refine cN ?_ | refine dN ?_ | refine cV ?_ | refine dV ?_ | refine cE ?_ | refine dE ?_ | refine condX0 ?_ | refine condX1 ?_ | refine condNot ?_ | refine condAnd ?_ | refine condOr ?_ | refine aO ?_ | refine aB ?_ | refine aR ?_ | refine aR ?_ (by simp; omega) | refine xr (by assumption) ?_ | refine ai (by assumption) ?_)
  refine ev_keep [22, 23, 24, 3] [] ?_
  rw [l3, l4, l5]
  refine size_loop26 a.unknown (a.path.length + (flatS a.path).length + a.comms.length + a.clusters.length + a.unknown.length) h6 h7 (by omega) (by omega) h5 _ (by simp) a.unknown [] _ _ _ _ 0 rfl rfl ?_
  simp [unkS]
theorem large_gives21 (a : Attrs) (h : AB a) : Gives G 21 [.agg a.enc] [] ⟨.bool (decide (sizeS a > 3000)), []⟩ := by
  refine gives_code (F := f21) rfl rfl (W_ok 60 _ _ _ _ ?_)
  repeat ((conv => whnf); first | refine bslP (by first | rfl | (simp [pureL, pureLL, AV.pure]; done) | fail) rfl ?_ | refine TakeC.full (by first | rfl | omega | (simp; done) | (simp; omega) | fail) ?_ | refine zBs ?_ | refine zBn ?_ | refine zBv rfl rfl ?_ | refine zN ?_ | refine zC ?_ | refine zC4 ?_ | refine zOr16 ?_ | refine zC1 ?_ | refine zByte ?_ | refine zMaxL ?_ | refine zMaxR ?_ | refine zMinL ?_ | refine zMinR ?_ | refine zShr ?_ | refine zC8 ?_ | refine zQ ?_ | refine zR ?_ | refine zS ?_ | refine zA ?_ | refine zM ?_ | refine xr rfl ?_ | refine ai rfl ?_ | refine condT ?_ | refine condF ?_ | refine condG1 ?_ | refine condG0 ?_ | refine cD ?_ | refine dD ?_ | refine cB ?_ | refine dB ?_ | refine cN ?_ | refine dN ?_ | refine cV ?_ | refine dV ?_ | refine cE ?_ | refine dE ?_ | refine condX0 ?_ | refine condX1 ?_ | refine condNot ?_ | refine condAnd ?_ | refine condOr ?_ | refine aO ?_ | refine aB ?_ | refine aR ?_ | refine aR ?_ (by simp; omega) | refine xr (by assumption) ?_ | refine ai (by assumption) ?_)
  refine callV (size_gives26 a h) (by first | rfl | (simp [pureL, pureLL, AV.pure]; done) | fail) (by first | rfl | (simp [AV.dry, dryL]; done) | fail) ?_
  repeat ((conv => whnf); first | refine bslP (by first | rfl | (simp [pureL, pureLL, AV.pure]; done) | fail) rfl ?_ | refine TakeC.full (by first | rfl | omega | (simp; done) | (simp; omega) | fail) ?_ | refine zBs ?_ | refine zBn ?_ | refine zBv rfl rfl ?_ | refine zN ?_ | refine zC ?_ | refine zC4 ?_ | refine zOr16 ?_ | refine zC1 ?_ | refine zByte ?_ | refine zMaxL ?_ | refine zMaxR ?_ | refine zMinL ?_ | refine zMinR ?_ | refine zShr ?_ | refine zC8 ?_ | refine zQ ?_ | refine zR ?_ | refine zS ?_ | refine zA ?_ | refine zM ?_ | refine xr rfl ?_ | refine ai rfl ?_ | refine condT ?_ | refine condF ?_ | refine condG1 ?_ | refine condG0 ?_ | refine cD ?_ | refine dD ?_ | refine cB ?_ | refine dB ?_ | refine cN ?_ | refine dN ?_ | refine cV ?_ | refine dV ?_ | refine cE ?_ | refine dE ?_ | refine condX0 ?_ | refine condX1 ?_ | refine condNot ?_ | refine condAnd ?_ | refine condOr ?_ | refine aO ?_ | refine aB ?_ | refine aR ?_ | refine aR ?_ (by simp; omega) | refine xr (by assumption) ?_ | refine ai (by assumption) ?_)
  first | exact ev_ret rfl | exact ev_end rfl
end Go.AM.IR
namespace Go.AM.IR
set_option maxRecDepth 1000000
set_option maxHeartbeats 0
theorem awake36_gives : Gives G 64 [] [] ⟨.bool true, []⟩ := by
  refine gives_run 20000 rfl rfl ?_
  kernel_rfl
end Go.AM.IR
namespace Go.AM.IR

theorem lift_enc {α : Type} {e : List AV → Prop} {enc : α → List AV} {Q : α → Prop} (h : ∀ x, e x → ∃ a, x = enc a ∧ Q a) : ∀ es : List (List AV), (∀ x ∈ es, e x) → ∃ l : List α, es = l.map enc ∧ ∀ a ∈ l, Q a
  | [], _ => ⟨[], rfl, by simp⟩
  | x :: r, hx => by
    obtain ⟨a, rfl, ha⟩ := h x (hx x (by simp))
    obtain ⟨l, rfl, hl⟩ := lift_enc h r fun y hy => hx y (by simp [hy])
    exact ⟨a :: l, rfl, by simpa using ⟨ha, hl⟩⟩

def okI (x : Int) : Prop := -9223372036854775808 ≤ x ∧ x ≤ 9223372036854775807
def okU (x : Int) : Prop := 0 ≤ x ∧ x ≤ 4294967295

theorem T_i64 {as : List AV} (h : Ty.T (.int .i64) as) : ∃ x, as = encI x ∧ okI x := by
  obtain ⟨n, rfl, h1, h2⟩ := h
  exact ⟨n, rfl, by simpa [IntKind.min, IntKind.max, IntKind.signed, IntKind.bits, okI] using And.intro h1 h2⟩
theorem T_u32 {as : List AV} (h : Ty.T (.int .u32) as) : ∃ x, as = encU x ∧ okU x := by
  obtain ⟨n, rfl, h1, h2⟩ := h
  exact ⟨n, rfl, by simpa [IntKind.min, IntKind.max, IntKind.signed, IntKind.bits, okU] using And.intro h1 h2⟩
theorem T_u8 {as : List AV} (h : Ty.T (.int .u8) as) : ∃ b : UInt8, as = [.int .u8 b.toNat] ∧ True := by
  obtain ⟨n, rfl, h1, h2⟩ := h
  have h1 : 0 ≤ n := by simpa [IntKind.min, IntKind.signed] using h1
  have h2 : n ≤ 255 := by simpa [IntKind.max, IntKind.signed, IntKind.bits] using h2
  refine ⟨UInt8.ofNat n.toNat, ?_, trivial⟩
  have : ((UInt8.ofNat n.toNat).toNat : Int) = n := by simp; omega
  rw [this]
theorem T_sl {α : Type} {τ : Ty} {enc : α → List AV} {Q : α → Prop} (h : ∀ x, τ.T x → ∃ a, x = enc a ∧ Q a) {as : List AV} (hs : Ty.T (.sl τ) as) : ∃ l : List α, as = [.sl τ.cells (l.map enc)] ∧ ∀ a ∈ l, Q a := by
  obtain ⟨es, rfl, h1, _⟩ := hs
  obtain ⟨l, rfl, h2⟩ := lift_enc h es h1
  exact ⟨l, rfl, h2⟩
theorem T_bytes {as : List AV} (hs : Ty.T (.sl (.int .u8)) as) : ∃ l : List UInt8, as = [.sl 1 (byteCells l)] := by
  obtain ⟨l, rfl, _⟩ := T_sl (fun x => T_u8) hs
  exact ⟨l, rfl⟩

def tSeg : Ty := .st [.int .i64, .sl (.int .i64)]
def tTLV : Ty := .st [.int .i64, .sl (.int .u8)]
def tAttrs : Ty := .st [.int .i64, .sl tSeg, .int .u32, .bool, .int .i64, .bool, .int .i64, .bool, .bool, .int .i64, .int .u32, .sl (.int .u32), .bool, .int .u32, .sl (.int .u32), .sl tTLV]
def tRoute : Ty := .st [.st [.int .u32, .int .i64], tAttrs, .int .i64, .int .i64, .int .u32, .bool]
def tIGP : Ty := .st [.int .u32, .int .i64]

structure Seg.ok (s : Seg) : Prop where
  kind : okI s.kind
  as : ∀ x ∈ s.as, okI x
theorem T_seg {as : List AV} (h : tSeg.T as) : ∃ s : Seg, as = s.enc ∧ s.ok := by
  simp only [tSeg, Ty.T.eq_5, TT] at h
  obtain ⟨a1, b1, rfl, h1, a2, b2, rfl, h2, rfl⟩ := h
  obtain ⟨x1, rfl, k1⟩ := T_i64 h1
  obtain ⟨x2, rfl, k2⟩ := T_sl (fun x => T_i64) h2
  exact ⟨⟨x1, x2⟩, rfl, k1, k2⟩
structure TLV.ok (s : TLV) : Prop where
  kind : okI s.kind
theorem T_tlv {as : List AV} (h : tTLV.T as) : ∃ s : TLV, as = s.enc ∧ s.ok := by
  simp only [tTLV, Ty.T.eq_5, TT] at h
  obtain ⟨a1, b1, rfl, h1, a2, b2, rfl, h2, rfl⟩ := h
  obtain ⟨x1, rfl, k1⟩ := T_i64 h1
  obtain ⟨x2, rfl⟩ := T_bytes h2
  exact ⟨⟨x1, x2⟩, rfl, ⟨k1⟩⟩
structure IGP.ok (s : IGP) : Prop where
  addr : okU s.addr
  cost : okI s.cost
theorem T_igp {as : List AV} (h : tIGP.T as) : ∃ s : IGP, as = s.enc ∧ s.ok := by
  simp only [tIGP, Ty.T.eq_5, TT] at h
  obtain ⟨a1, b1, rfl, h1, a2, b2, rfl, h2, rfl⟩ := h
  obtain ⟨x1, rfl, k1⟩ := T_u32 h1
  obtain ⟨x2, rfl, k2⟩ := T_i64 h2
  exact ⟨⟨x1, x2⟩, rfl, k1, k2⟩
structure Attrs.ok (a : Attrs) : Prop where
  origin : okI a.origin
  path : ∀ s ∈ a.path, s.ok
  nextHop : okU a.nextHop
  med : okI a.med
  pref : okI a.pref
  aggrAS : okI a.aggrAS
  aggrAddr : okU a.aggrAddr
  comms : ∀ x ∈ a.comms, okU x
  orig : okU a.orig
  clusters : ∀ x ∈ a.clusters, okU x
  unknown : ∀ x ∈ a.unknown, x.ok
theorem T_attrs {as : List AV} (h : tAttrs.T as) : ∃ s : Attrs, as = s.enc ∧ s.ok := by
  simp only [tAttrs, Ty.T.eq_5, TT] at h
  obtain ⟨a1, b1, rfl, h1, a2, b2, rfl, h2, a3, b3, rfl, h3, a4, b4, rfl, h4, a5, b5, rfl, h5, a6, b6, rfl, h6, a7, b7, rfl, h7, a8, b8, rfl, h8, a9, b9, rfl, h9, a10, b10, rfl, h10, a11, b11, rfl, h11, a12, b12, rfl, h12, a13, b13, rfl, h13, a14, b14, rfl, h14, a15, b15, rfl, h15, a16, b16, rfl, h16, rfl⟩ := h
  obtain ⟨x1, rfl, k1⟩ := T_i64 h1
  obtain ⟨x2, rfl, k2⟩ := T_sl (fun x => T_seg) h2
  obtain ⟨x3, rfl, k3⟩ := T_u32 h3
  obtain ⟨x4, rfl⟩ := h4
  obtain ⟨x5, rfl, k5⟩ := T_i64 h5
  obtain ⟨x6, rfl⟩ := h6
  obtain ⟨x7, rfl, k7⟩ := T_i64 h7
  obtain ⟨x8, rfl⟩ := h8
  obtain ⟨x9, rfl⟩ := h9
  obtain ⟨x10, rfl, k10⟩ := T_i64 h10
  obtain ⟨x11, rfl, k11⟩ := T_u32 h11
  obtain ⟨x12, rfl, k12⟩ := T_sl (fun x => T_u32) h12
  obtain ⟨x13, rfl⟩ := h13
  obtain ⟨x14, rfl, k14⟩ := T_u32 h14
  obtain ⟨x15, rfl, k15⟩ := T_sl (fun x => T_u32) h15
  obtain ⟨x16, rfl, k16⟩ := T_sl (fun x => T_tlv) h16
  exact ⟨⟨x1, x2, x3, x4, x5, x6, x7, x8, x9, x10, x11, x12, x13, x14, x15, x16⟩, rfl, k1, k2, k3, k5, k7, k10, k11, k12, k14, k15, k16⟩
structure PVRoute.ok (r : PVRoute) : Prop where
  paddr : okU r.paddr
  plen : okI r.plen
  attrs : r.attrs.ok
  peer : okI r.peer
  kind : okI r.kind
  router : okU r.router
theorem T_route {as : List AV} (h : tRoute.T as) : ∃ s : PVRoute, as = s.enc ∧ s.ok := by
  simp only [tRoute, Ty.T.eq_5, TT] at h
  obtain ⟨a1, b1, rfl, ⟨a0, b0, rfl, h0, a00, b00, rfl, h00, rfl⟩, a2, b2, rfl, h2, a3, b3, rfl, h3, a4, b4, rfl, h4, a5, b5, rfl, h5, a6, b6, rfl, h6, rfl⟩ := h
  obtain ⟨x0, rfl, k0⟩ := T_u32 h0
  obtain ⟨x00, rfl, k00⟩ := T_i64 h00
  obtain ⟨x2, rfl, k2⟩ := T_attrs h2
  obtain ⟨x3, rfl, k3⟩ := T_i64 h3
  obtain ⟨x4, rfl, k4⟩ := T_i64 h4
  obtain ⟨x5, rfl, k5⟩ := T_u32 h5
  obtain ⟨x6, rfl⟩ := h6
  exact ⟨⟨x0, x00, x2, x3, x4, x5, x6⟩, rfl, k0, k00, k2, k3, k4, k5⟩
end Go.AM.IR
namespace Go.AM.IR
set_option maxHeartbeats 2000000
theorem bkLL_map_le {α : Type} (f : α → List AV) (g : α → Nat) (h : ∀ x, g x ≤ bkL (f x)) : ∀ l : List α, (l.map g).sum ≤ bkLL (l.map f)
  | [] => by simp
  | x :: r => by
    have := bkLL_map_le f g h r
    have := h x
    simp only [List.map_cons, List.sum_cons, bkLL]
    omega
theorem sum_one {α : Type} : ∀ l : List α, (l.map fun _ => 1).sum = l.length
  | [] => rfl
  | x :: r => by simp only [List.map_cons, List.sum_cons, List.length_cons, sum_one r]; omega
theorem len_bk {α : Type} (f : α → List AV) (h : ∀ x, 1 ≤ bkL (f x)) (l : List α) : l.length ≤ bkLL (l.map f) := by
  have := bkLL_map_le f (fun _ => 1) h l
  rwa [sum_one] at this
theorem mem_bk {α : Type} (f : α → List AV) : ∀ (l : List α) (x : α), x ∈ l → bkL (f x) ≤ bkLL (l.map f)
  | y :: r, x, h => by
    simp only [List.map_cons, bkLL]
    rcases List.mem_cons.1 h with rfl | h
    · omega
    · have := mem_bk f r x h; omega
theorem bk_bytes (l : List UInt8) : l.length ≤ bkLL (byteCells l) := len_bk (f := fun b : UInt8 => [AV.int .u8 (b.toNat : Int)]) (fun _ => by simp [bkL, AV.bk]) l
theorem seg_bk (s : Seg) : s.as.length + 1 ≤ bkL s.enc := by
  have := len_bk encI (fun _ => by simp [encI, bkL, AV.bk]) s.as
  simp only [Seg.enc, bkL, AV.bk]; omega
theorem tlv_bk (s : TLV) : s.value.length + 1 ≤ bkL s.enc := by
  have := bk_bytes s.value
  simp only [TLV.enc, bkL, AV.bk]; omega
theorem flat_len : ∀ l : List Seg, (flatS l).length = (l.map fun s => s.as.length).sum
  | [] => rfl
  | s :: r => by
    have := flat_len r
    simp only [flatS, List.flatMap_cons, List.length_append, List.map_cons, List.sum_cons] at this ⊢
    omega
theorem unk_le : ∀ l : List TLV, unkS l ≤ ((l.map fun t => t.value.length).sum : Nat)
  | [] => by simp [unkS]
  | t :: r => by
    have := unk_le r
    simp only [unkS, List.map_cons, List.sum_cons] at this ⊢
    omega
theorem ab_of (a : Attrs) (h : bkL a.enc ≤ 1048576) : AB a := by
  simp only [Attrs.enc, bkL, AV.bk] at h
  have h1 := len_bk Seg.enc (fun s => by have := seg_bk s; omega) a.path
  have h2 := bkLL_map_le Seg.enc (fun s => s.as.length) (fun s => by have := seg_bk s; omega) a.path
  have h3 := len_bk encU (fun _ => by simp [encU, bkL, AV.bk]) a.comms
  have h4 := len_bk encU (fun _ => by simp [encU, bkL, AV.bk]) a.clusters
  have h5 := len_bk TLV.enc (fun s => by have := tlv_bk s; omega) a.unknown
  have h6 := bkLL_map_le TLV.enc (fun t => t.value.length) (fun s => by have := tlv_bk s; omega) a.unknown
  have h7 := unk_le a.unknown
  rw [← flat_len] at h2
  generalize bkLL (a.path.map Seg.enc) = z1 at *
  generalize bkLL (a.comms.map encU) = z2 at *
  generalize bkLL (a.clusters.map encU) = z3 at *
  refine ⟨by omega, by omega, by omega, by omega, by omega, fun t ht => ?_, by omega⟩
  have := mem_bk TLV.enc a.unknown t ht
  have := tlv_bk t
  omega
end Go.AM.IR
set_option maxHeartbeats 4000000
set_option maxRecDepth 20000
namespace Go.AM.IR
theorem lenC_of {a : Attrs} (h : AB a) : LenC a where
  path := h.path
  segs s hs := by
    have h1 := h.flat
    have h2 : s.as.length ≤ (flatS a.path).length := by
      unfold flatS
      obtain ⟨p, q, e⟩ := List.append_of_mem hs
      rw [e]; simp; omega
    omega
  comms := h.comms
  clusters := h.clusters
  unknown := h.unknown
theorem law63_gives (a b : Attrs) (ha : AB a) (hb : AB b) : Gives G 63 [.agg a.enc, .agg b.enc] [] ⟨.bool true, []⟩ := by
  have la := lenC_of ha
  have lb := lenC_of hb
  have h1 := same_gives72 a a la la
  rw [show decide (a = a) = true from by simp] at h1
  have h2 := same_gives72 a b la lb
  have h3 := same_gives70 a b la lb
  generalize decide (a = b) = d at h2 h3
  refine gives_code (F := f63) rfl rfl (W_ok 300 _ _ _ _ ?_)
  repeat' ((conv => whnf); first | refine bslP (by first | rfl | (simp [pureL, pureLL, AV.pure]; done) | fail) rfl ?_ | refine TakeC.full (by first | rfl | omega | (simp; done) | (simp; omega) | fail) ?_ | refine zBs ?_ | refine zBn ?_ | refine zBv rfl rfl ?_ | refine zN ?_ | refine zC ?_ | refine zC4 ?_ | refine zOr16 ?_ | refine zC1 ?_ | refine zByte ?_ | refine zMaxL ?_ | refine zMaxR ?_ | refine zMinL ?_ | refine zMinR ?_ | refine zShr ?_ | refine zC8 ?_ | refine zQ ?_ | refine zR ?_ | refine zS ?_ | refine zA ?_ | refine zM ?_ | refine xr rfl ?_ | refine ai rfl ?_ | refine condT ?_ | refine condF ?_ | refine condG1 ?_ | refine condG0 ?_ | refine cD ?_ | refine dD ?_ | refine cB ?_ | refine dB ?_ | refine cN ?_ | refine dN ?_ | refine cV ?_ | refine dV ?_ | refine cE ?_ | refine dE ?_ | refine condX0 ?_ | refine condX1 ?_ | refine condNot ?_ | refine condAnd ?_ | refine condOr ?_ | refine aO ?_ | refine aB ?_ | refine aR ?_ | refine aR ?_ (by simp; omega) | refine xr (by assumption) ?_ | refine ai (by assumption) ?_ | refine kV (large_gives21 _ ha) ?_ | refine kV (large_gives21 _ hb) ?_ | refine kV (awake36_gives) ?_ | refine kV (h1) ?_ | refine kV (h2) ?_ | refine kV (h3) ?_ | refine condD (fun h => ?_) (fun h => ?_) | refine condB (fun h => ?_) (fun h => ?_) | refine condN (fun h => ?_) (fun h => ?_) | refine condE (fun h => ?_) (fun h => ?_) | refine condV (fun h => ?_) (fun h => ?_))
  all_goals try ((first | refine ev_fin (And.intro (by first | rfl | (simp [AV.pure, pureL]; done) | fail) ?_) | refine ev_fin0 (And.intro (by first | rfl | (simp [AV.pure, pureL]; done) | fail) ?_)); first | rfl | (simp [Bool.cond_eq_ite, *]; done) | (simp [Bool.cond_eq_ite, *]; omega))
theorem law63_all (ass : List (List AV)) (h : ArgsT [tAttrs, tAttrs] ass) (hb : bkLL ass ≤ 1048576) : Gives G 63 (argsA [tAttrs, tAttrs] ass) [] ⟨.bool true, []⟩ := by
  obtain ⟨a, s1, rfl, h1, h⟩ := argsT_cons h
  obtain ⟨b, s2, rfl, h2, h⟩ := argsT_cons h
  obtain rfl := argsT_nil h
  obtain ⟨r, rfl, _⟩ := T_attrs h1
  obtain ⟨q, rfl, _⟩ := T_attrs h2
  simp only [bkLL] at hb
  exact law63_gives r q (ab_of r (by omega)) (ab_of q (by omega))
end Go.AM.IR
