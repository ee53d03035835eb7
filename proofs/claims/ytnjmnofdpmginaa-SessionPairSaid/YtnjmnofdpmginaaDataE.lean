/- What the functions of this program give, on the abstract machine. -/
import Derived.Test.YtnjmnofdpmginaaDataD
import Derived.Test.YtnjmnofdpmginaaDataB
set_option linter.unusedVariables false
set_option linter.unusedSimpArgs false
set_option maxHeartbeats 4000000
set_option maxRecDepth 20000
namespace Go.AM.IR
attribute [local simp] pureLL_bytes
def dataS (c : Conf) (peer : Int) (s : Ses) (m : PMsg) (er now : Int) (acts : List Act) : Ses × List Act :=
  if s.state < 2 ∨ s.state > 4 then (s, acts)
  else if er ≠ 0 then (if m = zeroM then (lostS s now, acts ++ lostA s) else (lostS s now, acts ++ [sendA m] ++ lostA s))
  else if m.kind = 3 then (lostS s now, acts ++ lostA s)
  else if s.state = 2 then openedS c peer s m now acts else if s.state = 3 then confS s m now acts else estS s m now acts
theorem loseN_gives165 (s : Ses) (now : Int) (acts : List Act) (hA : acts.length < 2 ^ 29) : Gives G 165 [.ref 0 0 0, .con (.slice none 0 0)] [.cells (cellsR s now (.vs 1 0 acts.length)), .vec 28 (acts.map Act.enc)] (runRet (lostS s now) now (acts ++ lostA s)) := by
  have h := lose_gives165 [] s now acts (by simpa using hA)
  simp only [List.map_nil, List.append_nil] at h
  exact gives_le rfl h ⟨.refl _, LeP.nil 27, trivial⟩
theorem sameZ_gives156 (m : PMsg) (h : LenM m) : Gives G 156 [.agg m.enc, .agg [.int .i64 0, .int .i64 0, .int .i64 0, .int .i64 0, .int .u32 0, nilV, nilV, .int .i64 0, nilV, .int .u32 0, .bool false, .int .i64 0, .bool false, .int .i64 0, .bool false, .bool false, .int .i64 0, .int .u32 0, nilV, .bool false, .int .u32 0, nilV, nilV, nilV, .int .i64 0, .int .i64 0, nilV]] [] ⟨.bool (decide (m = zeroM)), []⟩ :=
  gives_le rfl (same_gives156 m zeroM h lenM_zero) ⟨.refl _, LeP.agg (by repeat' (first | exact trivial | exact LeP.refl _ | exact LeP.nil _ | refine LeP.sl ?_ | refine ⟨?_, ?_⟩)), trivial⟩
theorem data_a (c : Conf) (hc : c.ok) (peer : Int) (m : PMsg) (h : LenO m) (s : Ses) (er now : Int) (acts : List Act) (h1 : s.state < 2) (ha : acts.length < 2 ^ 28) : Gives G 155 [.ref 1 0 0, .agg c.enc, .int .i64 peer, .agg m.enc, .int .i64 er, .fn 150 [.ref 0 0 0]] [.cells [.ref 1 0 0], .cells (cellsR s now (.vs 2 0 acts.length)), .vec 28 (acts.map Act.enc)] (runRet3 (dataS c peer s m er now acts) now true) := by
  have hp := hc.nets; have p1 := hc.p1; have p2 := hc.p2; have p3 := hc.p3; have p4 := hc.p4
  rw [show dataS c peer s m er now acts = (s, acts) from by rw [dataS, if_pos (Or.inl h1)]]
  refine gives_code (F := f155) rfl rfl (W_ok 300 _ _ _ _ ?_)
  repeat' ((conv => whnf); first | refine bslP (by first | rfl | (simp [pureL, pureLL, AV.pure]; done) | fail) rfl ?_ | refine TakeC.full (by first | rfl | omega | (simp; done) | (simp; omega) | fail) ?_ | refine zBs ?_ | refine zBn ?_ | refine zBv rfl rfl ?_ | refine zN ?_ | refine zC ?_ | refine zC4 ?_ | refine zOr16 ?_ | refine zC1 ?_ | refine zByte ?_ | refine zMaxL ?_ | refine zMaxR ?_ | refine zMinL ?_ | refine zMinR ?_ | refine zShr ?_ | refine zC8 ?_ | refine zQ ?_ | refine zR ?_ | refine zS ?_ | refine zA ?_ | refine zM ?_ | refine xr rfl ?_ | refine ai rfl ?_ | refine condT ?_ | refine condF ?_ | refine condG1 ?_ | refine condG0 ?_ | refine cD ?_ | refine dD ?_ | refine cB ?_ | refine dB ?_ | refine cN ?_ | refine dN ?_ | refine cV ?_ | refine dV ?_ | refine cE ?_ | refine dE ?_ | refine condX0 ?_ | refine condX1 ?_ | refine condNot ?_ | refine condAnd ?_ | refine condOr ?_ | refine aO ?_ | refine aB ?_ | refine aR ?_ | refine aR ?_ (by simp; omega) | refine xr (by assumption) ?_ | refine ai (by assumption) ?_ | refine condD (fun h => ?_) (fun h => ?_) | refine condB (fun h => ?_) (fun h => ?_) | refine condN (fun h => ?_) (fun h => ?_) | refine condE (fun h => ?_) (fun h => ?_) | refine condV (fun h => ?_) (fun h => ?_))
  (conv => whnf); first | refine ev_finX [(0, _, _), (1, _, _), (2, _, _)] [] [true, true, true] (Nat.succ_pos _) ⟨rfl, rfl, rfl, trivial⟩ rfl (by repeat' (first | exact trivial | rfl | refine And.intro ?_ ?_ | (simp [pureL, pureLL, AV.pure, Blk.renS, Blk.okS, Blk.okX, AV.okS, AV.okX]; done) | omega | fail)) ⟨(by first | rfl | exact (decide_eq_false (by omega)).symm), (by first | rfl | exact (decide_eq_false (by omega)).symm), (by first | rfl | exact (decide_eq_false (by omega)).symm), trivial⟩ ⟨rfl, (by repeat' (first | exact trivial | rfl | refine And.intro ?_ ?_ | (simp [pureL, pureLL, AV.pure, Blk.renS, Blk.okS, Blk.okX, AV.okS, AV.okX]; done) | omega | fail)), ?_⟩ | refine ev_finX0 [(0, _, _), (1, _, _), (2, _, _)] [] [true, true, true] (Nat.succ_pos _) ⟨rfl, rfl, rfl, trivial⟩ rfl (by repeat' (first | exact trivial | rfl | refine And.intro ?_ ?_ | (simp [pureL, pureLL, AV.pure, Blk.renS, Blk.okS, Blk.okX, AV.okS, AV.okX]; done) | omega | fail)) ⟨(by first | rfl | exact (decide_eq_false (by omega)).symm), (by first | rfl | exact (decide_eq_false (by omega)).symm), (by first | rfl | exact (decide_eq_false (by omega)).symm), trivial⟩ ⟨rfl, (by repeat' (first | exact trivial | rfl | refine And.intro ?_ ?_ | (simp [pureL, pureLL, AV.pure, Blk.renS, Blk.okS, Blk.okX, AV.okS, AV.okX]; done) | omega | fail)), ?_⟩
  rfl
theorem data_b (c : Conf) (hc : c.ok) (peer : Int) (m : PMsg) (h : LenO m) (s : Ses) (er now : Int) (acts : List Act) (h1 : s.state > 4) (ha : acts.length < 2 ^ 28) : Gives G 155 [.ref 1 0 0, .agg c.enc, .int .i64 peer, .agg m.enc, .int .i64 er, .fn 150 [.ref 0 0 0]] [.cells [.ref 1 0 0], .cells (cellsR s now (.vs 2 0 acts.length)), .vec 28 (acts.map Act.enc)] (runRet3 (dataS c peer s m er now acts) now true) := by
  have hp := hc.nets; have p1 := hc.p1; have p2 := hc.p2; have p3 := hc.p3; have p4 := hc.p4
  rw [show dataS c peer s m er now acts = (s, acts) from by rw [dataS, if_pos (Or.inr h1)]]
  refine gives_code (F := f155) rfl rfl (W_ok 300 _ _ _ _ ?_)
  repeat' ((conv => whnf); first | refine bslP (by first | rfl | (simp [pureL, pureLL, AV.pure]; done) | fail) rfl ?_ | refine TakeC.full (by first | rfl | omega | (simp; done) | (simp; omega) | fail) ?_ | refine zBs ?_ | refine zBn ?_ | refine zBv rfl rfl ?_ | refine zN ?_ | refine zC ?_ | refine zC4 ?_ | refine zOr16 ?_ | refine zC1 ?_ | refine zByte ?_ | refine zMaxL ?_ | refine zMaxR ?_ | refine zMinL ?_ | refine zMinR ?_ | refine zShr ?_ | refine zC8 ?_ | refine zQ ?_ | refine zR ?_ | refine zS ?_ | refine zA ?_ | refine zM ?_ | refine xr rfl ?_ | refine ai rfl ?_ | refine condT ?_ | refine condF ?_ | refine condG1 ?_ | refine condG0 ?_ | refine cD ?_ | refine dD ?_ | refine cB ?_ | refine dB ?_ | refine cN ?_ | refine dN ?_ | refine cV ?_ | refine dV ?_ | refine cE ?_ | refine dE ?_ | refine condX0 ?_ | refine condX1 ?_ | refine condNot ?_ | refine condAnd ?_ | refine condOr ?_ | refine aO ?_ | refine aB ?_ | refine aR ?_ | refine aR ?_ (by simp; omega) | refine xr (by assumption) ?_ | refine ai (by assumption) ?_ | refine condD (fun h => ?_) (fun h => ?_) | refine condB (fun h => ?_) (fun h => ?_) | refine condN (fun h => ?_) (fun h => ?_) | refine condE (fun h => ?_) (fun h => ?_) | refine condV (fun h => ?_) (fun h => ?_))
  (conv => whnf); first | refine ev_finX [(0, _, _), (1, _, _), (2, _, _)] [] [true, true, true] (Nat.succ_pos _) ⟨rfl, rfl, rfl, trivial⟩ rfl (by repeat' (first | exact trivial | rfl | refine And.intro ?_ ?_ | (simp [pureL, pureLL, AV.pure, Blk.renS, Blk.okS, Blk.okX, AV.okS, AV.okX]; done) | omega | fail)) ⟨(by first | rfl | exact (decide_eq_false (by omega)).symm), (by first | rfl | exact (decide_eq_false (by omega)).symm), (by first | rfl | exact (decide_eq_false (by omega)).symm), trivial⟩ ⟨rfl, (by repeat' (first | exact trivial | rfl | refine And.intro ?_ ?_ | (simp [pureL, pureLL, AV.pure, Blk.renS, Blk.okS, Blk.okX, AV.okS, AV.okX]; done) | omega | fail)), ?_⟩ | refine ev_finX0 [(0, _, _), (1, _, _), (2, _, _)] [] [true, true, true] (Nat.succ_pos _) ⟨rfl, rfl, rfl, trivial⟩ rfl (by repeat' (first | exact trivial | rfl | refine And.intro ?_ ?_ | (simp [pureL, pureLL, AV.pure, Blk.renS, Blk.okS, Blk.okX, AV.okS, AV.okX]; done) | omega | fail)) ⟨(by first | rfl | exact (decide_eq_false (by omega)).symm), (by first | rfl | exact (decide_eq_false (by omega)).symm), (by first | rfl | exact (decide_eq_false (by omega)).symm), trivial⟩ ⟨rfl, (by repeat' (first | exact trivial | rfl | refine And.intro ?_ ?_ | (simp [pureL, pureLL, AV.pure, Blk.renS, Blk.okS, Blk.okX, AV.okS, AV.okX]; done) | omega | fail)), ?_⟩
  rfl
theorem data_c (c : Conf) (hc : c.ok) (peer : Int) (m : PMsg) (h : LenO m) (s : Ses) (er now : Int) (acts : List Act) (h1 : 2 ≤ s.state) (h2 : s.state ≤ 4) (h3 : ¬ er = 0) (h4 : m = zeroM) (ha : acts.length < 2 ^ 28) : Gives G 155 [.ref 1 0 0, .agg c.enc, .int .i64 peer, .agg m.enc, .int .i64 er, .fn 150 [.ref 0 0 0]] [.cells [.ref 1 0 0], .cells (cellsR s now (.vs 2 0 acts.length)), .vec 28 (acts.map Act.enc)] (runRet3 (dataS c peer s m er now acts) now false) := by
  have hp := hc.nets; have p1 := hc.p1; have p2 := hc.p2; have p3 := hc.p3; have p4 := hc.p4
  have z1 := sameZ_gives156 m h.len
  unfold nilV at z1
  rw [show decide (m = zeroM) = true from by simp [h4]] at z1
  have l1 := loseN_gives165 s now acts (by omega)
  unfold runRet at l1
  rw [show dataS c peer s m er now acts = (lostS s now, acts ++ lostA s) from by rw [dataS, if_neg (by omega), if_pos h3, if_pos h4]]
  refine gives_code (F := f155) rfl rfl (W_ok 300 _ _ _ _ ?_)
  repeat' ((conv => whnf); first | refine zA ?_ | refine bslP (by first | rfl | (simp [pureL, pureLL, AV.pure]; done) | fail) rfl ?_ | refine TakeC.full (by first | rfl | omega | (simp; done) | (simp; omega) | fail) ?_ | refine zBs ?_ | refine zBn ?_ | refine zBv rfl rfl ?_ | refine zN ?_ | refine zC ?_ | refine zC4 ?_ | refine zOr16 ?_ | refine zC1 ?_ | refine zByte ?_ | refine zMaxL ?_ | refine zMaxR ?_ | refine zMinL ?_ | refine zMinR ?_ | refine zShr ?_ | refine zC8 ?_ | refine zQ ?_ | refine zR ?_ | refine zS ?_ | refine zA ?_ | refine zM ?_ | refine xr rfl ?_ | refine ai rfl ?_ | refine condT ?_ | refine condF ?_ | refine condG1 ?_ | refine condG0 ?_ | refine cD ?_ | refine dD ?_ | refine cB ?_ | refine dB ?_ | refine cN ?_ | refine dN ?_ | refine cV ?_ | refine dV ?_ | refine cE ?_ | refine dE ?_ | refine condX0 ?_ | refine condX1 ?_ | refine condNot ?_ | refine condAnd ?_ | refine condOr ?_ | refine aO ?_ | refine aB ?_ | refine aR ?_ | refine aR ?_ (by simp; omega) | refine xr (by assumption) ?_ | refine ai (by assumption) ?_ | refine kV (z1) ?_ | refine kX [(1, _, _), (2, _, _)] [] ⟨rfl, rfl, trivial⟩ trivial (l1) ?_ | refine condD (fun h => ?_) (fun h => ?_) | refine condB (fun h => ?_) (fun h => ?_) | refine condN (fun h => ?_) (fun h => ?_) | refine condE (fun h => ?_) (fun h => ?_) | refine condV (fun h => ?_) (fun h => ?_))
  (conv => whnf); first | refine ev_finX [(0, _, _), (1, _, _), (2, _, _)] [] [true, true, false] (Nat.succ_pos _) ⟨rfl, rfl, rfl, trivial⟩ rfl (by repeat' (first | exact trivial | rfl | refine And.intro ?_ ?_ | (simp [pureL, pureLL, AV.pure, Blk.renS, Blk.okS, Blk.okX, AV.okS, AV.okX]; done) | omega | fail)) ⟨(by first | rfl | exact (decide_eq_false (by omega)).symm), (by first | rfl | exact (decide_eq_false (by omega)).symm), (by first | rfl | exact (decide_eq_false (by omega)).symm), trivial⟩ ⟨rfl, (by repeat' (first | exact trivial | rfl | refine And.intro ?_ ?_ | (simp [pureL, pureLL, AV.pure, Blk.renS, Blk.okS, Blk.okX, AV.okS, AV.okX]; done) | omega | fail)), ?_⟩ | refine ev_finX0 [(0, _, _), (1, _, _), (2, _, _)] [] [true, true, false] (Nat.succ_pos _) ⟨rfl, rfl, rfl, trivial⟩ rfl (by repeat' (first | exact trivial | rfl | refine And.intro ?_ ?_ | (simp [pureL, pureLL, AV.pure, Blk.renS, Blk.okS, Blk.okX, AV.okS, AV.okX]; done) | omega | fail)) ⟨(by first | rfl | exact (decide_eq_false (by omega)).symm), (by first | rfl | exact (decide_eq_false (by omega)).symm), (by first | rfl | exact (decide_eq_false (by omega)).symm), trivial⟩ ⟨rfl, (by repeat' (first | exact trivial | rfl | refine And.intro ?_ ?_ | (simp [pureL, pureLL, AV.pure, Blk.renS, Blk.okS, Blk.okX, AV.okS, AV.okX]; done) | omega | fail)), ?_⟩
  rfl
theorem data_d (c : Conf) (hc : c.ok) (peer : Int) (m : PMsg) (h : LenO m) (s : Ses) (er now : Int) (acts : List Act) (h1 : 2 ≤ s.state) (h2 : s.state ≤ 4) (h3 : ¬ er = 0) (h4 : ¬ m = zeroM) (ha : acts.length < 2 ^ 28) : Gives G 155 [.ref 1 0 0, .agg c.enc, .int .i64 peer, .agg m.enc, .int .i64 er, .fn 150 [.ref 0 0 0]] [.cells [.ref 1 0 0], .cells (cellsR s now (.vs 2 0 acts.length)), .vec 28 (acts.map Act.enc)] (runRet3 (dataS c peer s m er now acts) now false) := by
  have hp := hc.nets; have p1 := hc.p1; have p2 := hc.p2; have p3 := hc.p3; have p4 := hc.p4
  have z1 := sameZ_gives156 m h.len
  unfold nilV at z1
  rw [show decide (m = zeroM) = false from by simp [h4]] at z1
  have l1 := lose_gives165 [m] s now acts (by simp; omega)
  unfold runRet at l1
  rw [show dataS c peer s m er now acts = (lostS s now, acts ++ [sendA m] ++ lostA s) from by rw [dataS, if_neg (by omega), if_pos h3, if_neg h4]]
  refine gives_code (F := f155) rfl rfl (W_ok 300 _ _ _ _ ?_)
  repeat' ((conv => whnf); first | refine zA ?_ | refine bslP (by first | rfl | (simp [pureL, pureLL, AV.pure]; done) | fail) rfl ?_ | refine TakeC.full (by first | rfl | omega | (simp; done) | (simp; omega) | fail) ?_ | refine zBs ?_ | refine zBn ?_ | refine zBv rfl rfl ?_ | refine zN ?_ | refine zC ?_ | refine zC4 ?_ | refine zOr16 ?_ | refine zC1 ?_ | refine zByte ?_ | refine zMaxL ?_ | refine zMaxR ?_ | refine zMinL ?_ | refine zMinR ?_ | refine zShr ?_ | refine zC8 ?_ | refine zQ ?_ | refine zR ?_ | refine zS ?_ | refine zA ?_ | refine zM ?_ | refine xr rfl ?_ | refine ai rfl ?_ | refine condT ?_ | refine condF ?_ | refine condG1 ?_ | refine condG0 ?_ | refine cD ?_ | refine dD ?_ | refine cB ?_ | refine dB ?_ | refine cN ?_ | refine dN ?_ | refine cV ?_ | refine dV ?_ | refine cE ?_ | refine dE ?_ | refine condX0 ?_ | refine condX1 ?_ | refine condNot ?_ | refine condAnd ?_ | refine condOr ?_ | refine aO ?_ | refine aB ?_ | refine aR ?_ | refine aR ?_ (by simp; omega) | refine xr (by assumption) ?_ | refine ai (by assumption) ?_ | refine kV (z1) ?_ | refine kX [(1, _, _), (2, _, _)] [(109, _, _)] ⟨rfl, rfl, trivial⟩ ⟨rfl, pz trivial⟩ (l1) ?_ | refine condD (fun h => ?_) (fun h => ?_) | refine condB (fun h => ?_) (fun h => ?_) | refine condN (fun h => ?_) (fun h => ?_) | refine condE (fun h => ?_) (fun h => ?_) | refine condV (fun h => ?_) (fun h => ?_))
  (conv => whnf); first | refine ev_finX [(0, _, _), (1, _, _), (2, _, _)] [] [true, true, false] (Nat.succ_pos _) ⟨rfl, rfl, rfl, trivial⟩ rfl (by repeat' (first | exact trivial | rfl | refine And.intro ?_ ?_ | (simp [pureL, pureLL, AV.pure, Blk.renS, Blk.okS, Blk.okX, AV.okS, AV.okX]; done) | omega | fail)) ⟨(by first | rfl | exact (decide_eq_false (by omega)).symm), (by first | rfl | exact (decide_eq_false (by omega)).symm), (by first | rfl | exact (decide_eq_false (by omega)).symm), trivial⟩ ⟨rfl, (by repeat' (first | exact trivial | rfl | refine And.intro ?_ ?_ | (simp [pureL, pureLL, AV.pure, Blk.renS, Blk.okS, Blk.okX, AV.okS, AV.okX]; done) | omega | fail)), ?_⟩ | refine ev_finX0 [(0, _, _), (1, _, _), (2, _, _)] [] [true, true, false] (Nat.succ_pos _) ⟨rfl, rfl, rfl, trivial⟩ rfl (by repeat' (first | exact trivial | rfl | refine And.intro ?_ ?_ | (simp [pureL, pureLL, AV.pure, Blk.renS, Blk.okS, Blk.okX, AV.okS, AV.okX]; done) | omega | fail)) ⟨(by first | rfl | exact (decide_eq_false (by omega)).symm), (by first | rfl | exact (decide_eq_false (by omega)).symm), (by first | rfl | exact (decide_eq_false (by omega)).symm), trivial⟩ ⟨rfl, (by repeat' (first | exact trivial | rfl | refine And.intro ?_ ?_ | (simp [pureL, pureLL, AV.pure, Blk.renS, Blk.okS, Blk.okX, AV.okS, AV.okX]; done) | omega | fail)), ?_⟩
  rfl
theorem data_e (c : Conf) (hc : c.ok) (peer : Int) (m : PMsg) (h : LenO m) (s : Ses) (er now : Int) (acts : List Act) (h1 : 2 ≤ s.state) (h2 : s.state ≤ 4)(h3 : er = 0) (h4 : m.kind = 3) (ha : acts.length < 2 ^ 28) : Gives G 155 [.ref 1 0 0, .agg c.enc, .int .i64 peer, .agg m.enc, .int .i64 er, .fn 150 [.ref 0 0 0]] [.cells [.ref 1 0 0], .cells (cellsR s now (.vs 2 0 acts.length)), .vec 28 (acts.map Act.enc)] (runRet3 (dataS c peer s m er now acts) now false) := by
  have hp := hc.nets; have p1 := hc.p1; have p2 := hc.p2; have p3 := hc.p3; have p4 := hc.p4
  have l1 := loseN_gives165 s now acts (by omega)
  unfold runRet at l1
  rw [show dataS c peer s m er now acts = (lostS s now, acts ++ lostA s) from by rw [dataS, if_neg (by omega), if_neg (by omega), if_pos h4]]
  refine gives_code (F := f155) rfl rfl (W_ok 300 _ _ _ _ ?_)
  repeat' ((conv => whnf); first | refine zA ?_ | refine bslP (by first | rfl | (simp [pureL, pureLL, AV.pure]; done) | fail) rfl ?_ | refine TakeC.full (by first | rfl | omega | (simp; done) | (simp; omega) | fail) ?_ | refine zBs ?_ | refine zBn ?_ | refine zBv rfl rfl ?_ | refine zN ?_ | refine zC ?_ | refine zC4 ?_ | refine zOr16 ?_ | refine zC1 ?_ | refine zByte ?_ | refine zMaxL ?_ | refine zMaxR ?_ | refine zMinL ?_ | refine zMinR ?_ | refine zShr ?_ | refine zC8 ?_ | refine zQ ?_ | refine zR ?_ | refine zS ?_ | refine zA ?_ | refine zM ?_ | refine xr rfl ?_ | refine ai rfl ?_ | refine condT ?_ | refine condF ?_ | refine condG1 ?_ | refine condG0 ?_ | refine cD ?_ | refine dD ?_ | refine cB ?_ | refine dB ?_ | refine cN ?_ | refine dN ?_ | refine cV ?_ | refine dV ?_ | refine cE ?_ | refine dE ?_ | refine condX0 ?_ | refine condX1 ?_ | refine condNot ?_ | refine condAnd ?_ | refine condOr ?_ | refine aO ?_ | refine aB ?_ | refine aR ?_ | refine aR ?_ (by simp; omega) | refine xr (by assumption) ?_ | refine ai (by assumption) ?_ | refine kX [(1, _, _), (2, _, _)] [] ⟨rfl, rfl, trivial⟩ trivial (l1) ?_ | refine condD (fun h => ?_) (fun h => ?_) | refine condB (fun h => ?_) (fun h => ?_) | refine condN (fun h => ?_) (fun h => ?_) | refine condE (fun h => ?_) (fun h => ?_) | refine condV (fun h => ?_) (fun h => ?_))
  (conv => whnf); first | refine ev_finX [(0, _, _), (1, _, _), (2, _, _)] [] [true, true, false] (Nat.succ_pos _) ⟨rfl, rfl, rfl, trivial⟩ rfl (by repeat' (first | exact trivial | rfl | refine And.intro ?_ ?_ | (simp [pureL, pureLL, AV.pure, Blk.renS, Blk.okS, Blk.okX, AV.okS, AV.okX]; done) | omega | fail)) ⟨(by first | rfl | exact (decide_eq_false (by omega)).symm), (by first | rfl | exact (decide_eq_false (by omega)).symm), (by first | rfl | exact (decide_eq_false (by omega)).symm), trivial⟩ ⟨rfl, (by repeat' (first | exact trivial | rfl | refine And.intro ?_ ?_ | (simp [pureL, pureLL, AV.pure, Blk.renS, Blk.okS, Blk.okX, AV.okS, AV.okX]; done) | omega | fail)), ?_⟩ | refine ev_finX0 [(0, _, _), (1, _, _), (2, _, _)] [] [true, true, false] (Nat.succ_pos _) ⟨rfl, rfl, rfl, trivial⟩ rfl (by repeat' (first | exact trivial | rfl | refine And.intro ?_ ?_ | (simp [pureL, pureLL, AV.pure, Blk.renS, Blk.okS, Blk.okX, AV.okS, AV.okX]; done) | omega | fail)) ⟨(by first | rfl | exact (decide_eq_false (by omega)).symm), (by first | rfl | exact (decide_eq_false (by omega)).symm), (by first | rfl | exact (decide_eq_false (by omega)).symm), trivial⟩ ⟨rfl, (by repeat' (first | exact trivial | rfl | refine And.intro ?_ ?_ | (simp [pureL, pureLL, AV.pure, Blk.renS, Blk.okS, Blk.okX, AV.okS, AV.okX]; done) | omega | fail)), ?_⟩
  rfl
theorem data_f (c : Conf) (hc : c.ok) (peer : Int) (m : PMsg) (h : LenO m) (s : Ses) (er now : Int) (acts : List Act) (h1 : s.state = 2)(h3 : er = 0) (h4 : ¬ m.kind = 3) (ha : acts.length < 2 ^ 28) : Gives G 155 [.ref 1 0 0, .agg c.enc, .int .i64 peer, .agg m.enc, .int .i64 er, .fn 150 [.ref 0 0 0]] [.cells [.ref 1 0 0], .cells (cellsR s now (.vs 2 0 acts.length)), .vec 28 (acts.map Act.enc)] (runRet3 (dataS c peer s m er now acts) now false) := by
  have hp := hc.nets; have p1 := hc.p1; have p2 := hc.p2; have p3 := hc.p3; have p4 := hc.p4
  have l1 := opened_gives166 c hc peer m h s now acts ha
  unfold runRet3 at l1
  rw [show dataS c peer s m er now acts = openedS c peer s m now acts from by rw [dataS, if_neg (by omega), if_neg (by omega), if_neg (by omega), if_pos h1]]
  refine gives_code (F := f155) rfl rfl (W_ok 300 _ _ _ _ ?_)
  repeat' ((conv => whnf); first | refine zA ?_ | refine kXp [(0, _, _), (1, _, _), (2, _, _)] _ [1, 0] ⟨rfl, rfl, rfl, trivial⟩ l1 ?_ (by simp [renXL, AV.renX, renX_pure hp, renX_pure p1, renX_pure p2, renX_pure p3, renX_pure p4, Conf.enc, PMsg.enc, zidx, show Nat.beq 0 1 = false from rfl, show Nat.beq 1 0 = false from rfl]) (by simp [okXL, AV.okX, okX_pure hp, okX_pure p1, okX_pure p2, okX_pure p3, okX_pure p4, pureLL_bytes, zidx]) (by simp [kSL, AV.kS, kS_pure hp, kS_pure p1, kS_pure p2, kS_pure p3, kS_pure p4]) (by simp [kSL, AV.kS, kS_pure hp, kS_pure p1, kS_pure p2, kS_pure p3, kS_pure p4]) (by simp) | refine bslP (by first | rfl | (simp [pureL, pureLL, AV.pure]; done) | fail) rfl ?_ | refine TakeC.full (by first | rfl | omega | (simp; done) | (simp; omega) | fail) ?_ | refine zBs ?_ | refine zBn ?_ | refine zBv rfl rfl ?_ | refine zN ?_ | refine zC ?_ | refine zC4 ?_ | refine zOr16 ?_ | refine zC1 ?_ | refine zByte ?_ | refine zMaxL ?_ | refine zMaxR ?_ | refine zMinL ?_ | refine zMinR ?_ | refine zShr ?_ | refine zC8 ?_ | refine zQ ?_ | refine zR ?_ | refine zS ?_ | refine zA ?_ | refine zM ?_ | refine xr rfl ?_ | refine ai rfl ?_ | refine condT ?_ | refine condF ?_ | refine condG1 ?_ | refine condG0 ?_ | refine cD ?_ | refine dD ?_ | refine cB ?_ | refine dB ?_ | refine cN ?_ | refine dN ?_ | refine cV ?_ | refine dV ?_ | refine cE ?_ | refine dE ?_ | refine condX0 ?_ | refine condX1 ?_ | refine condNot ?_ | refine condAnd ?_ | refine condOr ?_ | refine aO ?_ | refine aB ?_ | refine aR ?_ | refine aR ?_ (by simp; omega) | refine xr (by assumption) ?_ | refine ai (by assumption) ?_ | refine condD (fun h => ?_) (fun h => ?_) | refine condB (fun h => ?_) (fun h => ?_) | refine condN (fun h => ?_) (fun h => ?_) | refine condE (fun h => ?_) (fun h => ?_) | refine condV (fun h => ?_) (fun h => ?_))
  (conv => whnf); first | refine ev_finX [(0, _, _), (1, _, _), (2, _, _)] [] [true, true, false] (Nat.succ_pos _) ⟨rfl, rfl, rfl, trivial⟩ rfl (by repeat' (first | exact trivial | rfl | refine And.intro ?_ ?_ | (simp [pureL, pureLL, AV.pure, Blk.renS, Blk.okS, Blk.okX, AV.okS, AV.okX]; done) | omega | fail)) ⟨(by first | rfl | exact (decide_eq_false (by omega)).symm), (by first | rfl | exact (decide_eq_false (by omega)).symm), (by first | rfl | exact (decide_eq_false (by omega)).symm), trivial⟩ ⟨rfl, (by repeat' (first | exact trivial | rfl | refine And.intro ?_ ?_ | (simp [pureL, pureLL, AV.pure, Blk.renS, Blk.okS, Blk.okX, AV.okS, AV.okX]; done) | omega | fail)), ?_⟩ | refine ev_finX0 [(0, _, _), (1, _, _), (2, _, _)] [] [true, true, false] (Nat.succ_pos _) ⟨rfl, rfl, rfl, trivial⟩ rfl (by repeat' (first | exact trivial | rfl | refine And.intro ?_ ?_ | (simp [pureL, pureLL, AV.pure, Blk.renS, Blk.okS, Blk.okX, AV.okS, AV.okX]; done) | omega | fail)) ⟨(by first | rfl | exact (decide_eq_false (by omega)).symm), (by first | rfl | exact (decide_eq_false (by omega)).symm), (by first | rfl | exact (decide_eq_false (by omega)).symm), trivial⟩ ⟨rfl, (by repeat' (first | exact trivial | rfl | refine And.intro ?_ ?_ | (simp [pureL, pureLL, AV.pure, Blk.renS, Blk.okS, Blk.okX, AV.okS, AV.okX]; done) | omega | fail)), ?_⟩
  rfl
theorem data_g (c : Conf) (hc : c.ok) (peer : Int) (m : PMsg) (h : LenO m) (s : Ses) (er now : Int) (acts : List Act) (h1 : s.state = 3)(h3 : er = 0) (h4 : ¬ m.kind = 3) (ha : acts.length < 2 ^ 28) : Gives G 155 [.ref 1 0 0, .agg c.enc, .int .i64 peer, .agg m.enc, .int .i64 er, .fn 150 [.ref 0 0 0]] [.cells [.ref 1 0 0], .cells (cellsR s now (.vs 2 0 acts.length)), .vec 28 (acts.map Act.enc)] (runRet3 (dataS c peer s m er now acts) now false) := by
  have hp := hc.nets; have p1 := hc.p1; have p2 := hc.p2; have p3 := hc.p3; have p4 := hc.p4
  have l1 := conf_gives167 s m now acts ha
  unfold runRet2 at l1
  rw [show dataS c peer s m er now acts = confS s m now acts from by rw [dataS, if_neg (by omega), if_neg (by omega), if_neg (by omega), if_neg (by omega), if_pos h1]]
  refine gives_code (F := f155) rfl rfl (W_ok 300 _ _ _ _ ?_)
  repeat' ((conv => whnf); first | refine zA ?_ | refine bslP (by first | rfl | (simp [pureL, pureLL, AV.pure]; done) | fail) rfl ?_ | refine TakeC.full (by first | rfl | omega | (simp; done) | (simp; omega) | fail) ?_ | refine zBs ?_ | refine zBn ?_ | refine zBv rfl rfl ?_ | refine zN ?_ | refine zC ?_ | refine zC4 ?_ | refine zOr16 ?_ | refine zC1 ?_ | refine zByte ?_ | refine zMaxL ?_ | refine zMaxR ?_ | refine zMinL ?_ | refine zMinR ?_ | refine zShr ?_ | refine zC8 ?_ | refine zQ ?_ | refine zR ?_ | refine zS ?_ | refine zA ?_ | refine zM ?_ | refine xr rfl ?_ | refine ai rfl ?_ | refine condT ?_ | refine condF ?_ | refine condG1 ?_ | refine condG0 ?_ | refine cD ?_ | refine dD ?_ | refine cB ?_ | refine dB ?_ | refine cN ?_ | refine dN ?_ | refine cV ?_ | refine dV ?_ | refine cE ?_ | refine dE ?_ | refine condX0 ?_ | refine condX1 ?_ | refine condNot ?_ | refine condAnd ?_ | refine condOr ?_ | refine aO ?_ | refine aB ?_ | refine aR ?_ | refine aR ?_ (by simp; omega) | refine xr (by assumption) ?_ | refine ai (by assumption) ?_ | refine kX [(1, _, _), (2, _, _)] [] ⟨rfl, rfl, trivial⟩ trivial (l1) ?_ | refine condD (fun h => ?_) (fun h => ?_) | refine condB (fun h => ?_) (fun h => ?_) | refine condN (fun h => ?_) (fun h => ?_) | refine condE (fun h => ?_) (fun h => ?_) | refine condV (fun h => ?_) (fun h => ?_))
  (conv => whnf); first | refine ev_finX [(0, _, _), (1, _, _), (2, _, _)] [] [true, true, false] (Nat.succ_pos _) ⟨rfl, rfl, rfl, trivial⟩ rfl (by repeat' (first | exact trivial | rfl | refine And.intro ?_ ?_ | (simp [pureL, pureLL, AV.pure, Blk.renS, Blk.okS, Blk.okX, AV.okS, AV.okX]; done) | omega | fail)) ⟨(by first | rfl | exact (decide_eq_false (by omega)).symm), (by first | rfl | exact (decide_eq_false (by omega)).symm), (by first | rfl | exact (decide_eq_false (by omega)).symm), trivial⟩ ⟨rfl, (by repeat' (first | exact trivial | rfl | refine And.intro ?_ ?_ | (simp [pureL, pureLL, AV.pure, Blk.renS, Blk.okS, Blk.okX, AV.okS, AV.okX]; done) | omega | fail)), ?_⟩ | refine ev_finX0 [(0, _, _), (1, _, _), (2, _, _)] [] [true, true, false] (Nat.succ_pos _) ⟨rfl, rfl, rfl, trivial⟩ rfl (by repeat' (first | exact trivial | rfl | refine And.intro ?_ ?_ | (simp [pureL, pureLL, AV.pure, Blk.renS, Blk.okS, Blk.okX, AV.okS, AV.okX]; done) | omega | fail)) ⟨(by first | rfl | exact (decide_eq_false (by omega)).symm), (by first | rfl | exact (decide_eq_false (by omega)).symm), (by first | rfl | exact (decide_eq_false (by omega)).symm), trivial⟩ ⟨rfl, (by repeat' (first | exact trivial | rfl | refine And.intro ?_ ?_ | (simp [pureL, pureLL, AV.pure, Blk.renS, Blk.okS, Blk.okX, AV.okS, AV.okX]; done) | omega | fail)), ?_⟩
  rfl
theorem data_ht (c : Conf) (hc : c.ok) (peer : Int) (m : PMsg) (h : LenO m) (s : Ses) (er now : Int) (acts : List Act) (h1 : s.state = 4)(h3 : er = 0) (h4 : ¬ m.kind = 3) (l1 : Gives G 168 [.ref 0 0 0, .agg m.enc] [.cells (cellsR s now (.vs 1 0 acts.length)), .vec 28 (acts.map Act.enc)] (runRet2 (estS s m now acts) now true)) (ha : acts.length < 2 ^ 28) : Gives G 155 [.ref 1 0 0, .agg c.enc, .int .i64 peer, .agg m.enc, .int .i64 er, .fn 150 [.ref 0 0 0]] [.cells [.ref 1 0 0], .cells (cellsR s now (.vs 2 0 acts.length)), .vec 28 (acts.map Act.enc)] (runRet3 (dataS c peer s m er now acts) now true) := by
  have hp := hc.nets; have p1 := hc.p1; have p2 := hc.p2; have p3 := hc.p3; have p4 := hc.p4
  unfold runRet2 at l1
  rw [show dataS c peer s m er now acts = estS s m now acts from by rw [dataS, if_neg (by omega), if_neg (by omega), if_neg (by omega), if_neg (by omega), if_neg (by omega)]]
  refine gives_code (F := f155) rfl rfl (W_ok 300 _ _ _ _ ?_)
  repeat' ((conv => whnf); first | refine zA ?_ | refine bslP (by first | rfl | (simp [pureL, pureLL, AV.pure]; done) | fail) rfl ?_ | refine TakeC.full (by first | rfl | omega | (simp; done) | (simp; omega) | fail) ?_ | refine zBs ?_ | refine zBn ?_ | refine zBv rfl rfl ?_ | refine zN ?_ | refine zC ?_ | refine zC4 ?_ | refine zOr16 ?_ | refine zC1 ?_ | refine zByte ?_ | refine zMaxL ?_ | refine zMaxR ?_ | refine zMinL ?_ | refine zMinR ?_ | refine zShr ?_ | refine zC8 ?_ | refine zQ ?_ | refine zR ?_ | refine zS ?_ | refine zA ?_ | refine zM ?_ | refine xr rfl ?_ | refine ai rfl ?_ | refine condT ?_ | refine condF ?_ | refine condG1 ?_ | refine condG0 ?_ | refine cD ?_ | refine dD ?_ | refine cB ?_ | refine dB ?_ | refine cN ?_ | refine dN ?_ | refine cV ?_ | refine dV ?_ | refine cE ?_ | refine dE ?_ | refine condX0 ?_ | refine condX1 ?_ | refine condNot ?_ | refine condAnd ?_ | refine condOr ?_ | refine aO ?_ | refine aB ?_ | refine aR ?_ | refine aR ?_ (by simp; omega) | refine xr (by assumption) ?_ | refine ai (by assumption) ?_ | refine kX [(1, _, _), (2, _, _)] [] ⟨rfl, rfl, trivial⟩ trivial (l1) ?_ | refine condD (fun h => ?_) (fun h => ?_) | refine condB (fun h => ?_) (fun h => ?_) | refine condN (fun h => ?_) (fun h => ?_) | refine condE (fun h => ?_) (fun h => ?_) | refine condV (fun h => ?_) (fun h => ?_))
  (conv => whnf); first | refine ev_finX [(0, _, _), (1, _, _), (2, _, _)] [] [true, true, true] (Nat.succ_pos _) ⟨rfl, rfl, rfl, trivial⟩ rfl (by repeat' (first | exact trivial | rfl | refine And.intro ?_ ?_ | (simp [pureL, pureLL, AV.pure, Blk.renS, Blk.okS, Blk.okX, AV.okS, AV.okX]; done) | omega | fail)) ⟨(by first | rfl | exact (decide_eq_false (by omega)).symm), (by first | rfl | exact (decide_eq_false (by omega)).symm), (by first | rfl | exact (decide_eq_false (by omega)).symm), trivial⟩ ⟨rfl, (by repeat' (first | exact trivial | rfl | refine And.intro ?_ ?_ | (simp [pureL, pureLL, AV.pure, Blk.renS, Blk.okS, Blk.okX, AV.okS, AV.okX]; done) | omega | fail)), ?_⟩ | refine ev_finX0 [(0, _, _), (1, _, _), (2, _, _)] [] [true, true, true] (Nat.succ_pos _) ⟨rfl, rfl, rfl, trivial⟩ rfl (by repeat' (first | exact trivial | rfl | refine And.intro ?_ ?_ | (simp [pureL, pureLL, AV.pure, Blk.renS, Blk.okS, Blk.okX, AV.okS, AV.okX]; done) | omega | fail)) ⟨(by first | rfl | exact (decide_eq_false (by omega)).symm), (by first | rfl | exact (decide_eq_false (by omega)).symm), (by first | rfl | exact (decide_eq_false (by omega)).symm), trivial⟩ ⟨rfl, (by repeat' (first | exact trivial | rfl | refine And.intro ?_ ?_ | (simp [pureL, pureLL, AV.pure, Blk.renS, Blk.okS, Blk.okX, AV.okS, AV.okX]; done) | omega | fail)), ?_⟩
  rfl
theorem data_hf (c : Conf) (hc : c.ok) (peer : Int) (m : PMsg) (h : LenO m) (s : Ses) (er now : Int) (acts : List Act) (h1 : s.state = 4)(h3 : er = 0) (h4 : ¬ m.kind = 3) (l1 : Gives G 168 [.ref 0 0 0, .agg m.enc] [.cells (cellsR s now (.vs 1 0 acts.length)), .vec 28 (acts.map Act.enc)] (runRet2 (estS s m now acts) now false)) (ha : acts.length < 2 ^ 28) : Gives G 155 [.ref 1 0 0, .agg c.enc, .int .i64 peer, .agg m.enc, .int .i64 er, .fn 150 [.ref 0 0 0]] [.cells [.ref 1 0 0], .cells (cellsR s now (.vs 2 0 acts.length)), .vec 28 (acts.map Act.enc)] (runRet3 (dataS c peer s m er now acts) now false) := by
  have hp := hc.nets; have p1 := hc.p1; have p2 := hc.p2; have p3 := hc.p3; have p4 := hc.p4
  unfold runRet2 at l1
  rw [show dataS c peer s m er now acts = estS s m now acts from by rw [dataS, if_neg (by omega), if_neg (by omega), if_neg (by omega), if_neg (by omega), if_neg (by omega)]]
  refine gives_code (F := f155) rfl rfl (W_ok 300 _ _ _ _ ?_)
  repeat' ((conv => whnf); first | refine zA ?_ | refine bslP (by first | rfl | (simp [pureL, pureLL, AV.pure]; done) | fail) rfl ?_ | refine TakeC.full (by first | rfl | omega | (simp; done) | (simp; omega) | fail) ?_ | refine zBs ?_ | refine zBn ?_ | refine zBv rfl rfl ?_ | refine zN ?_ | refine zC ?_ | refine zC4 ?_ | refine zOr16 ?_ | refine zC1 ?_ | refine zByte ?_ | refine zMaxL ?_ | refine zMaxR ?_ | refine zMinL ?_ | refine zMinR ?_ | refine zShr ?_ | refine zC8 ?_ | refine zQ ?_ | refine zR ?_ | refine zS ?_ | refine zA ?_ | refine zM ?_ | refine xr rfl ?_ | refine ai rfl ?_ | refine condT ?_ | refine condF ?_ | refine condG1 ?_ | refine condG0 ?_ | refine cD ?_ | refine dD ?_ | refine cB ?_ | refine dB ?_ | refine cN ?_ | refine dN ?_ | refine cV ?_ | refine dV ?_ | refine cE ?_ | refine dE ?_ | refine condX0 ?_ | refine condX1 ?_ | refine condNot ?_ | refine condAnd ?_ | refine condOr ?_ | refine aO ?_ | refine aB ?_ | refine aR ?_ | refine aR ?_ (by simp; omega) | refine xr (by assumption) ?_ | refine ai (by assumption) ?_ | refine kX [(1, _, _), (2, _, _)] [] ⟨rfl, rfl, trivial⟩ trivial (l1) ?_ | refine condD (fun h => ?_) (fun h => ?_) | refine condB (fun h => ?_) (fun h => ?_) | refine condN (fun h => ?_) (fun h => ?_) | refine condE (fun h => ?_) (fun h => ?_) | refine condV (fun h => ?_) (fun h => ?_))
  (conv => whnf); first | refine ev_finX [(0, _, _), (1, _, _), (2, _, _)] [] [true, true, false] (Nat.succ_pos _) ⟨rfl, rfl, rfl, trivial⟩ rfl (by repeat' (first | exact trivial | rfl | refine And.intro ?_ ?_ | (simp [pureL, pureLL, AV.pure, Blk.renS, Blk.okS, Blk.okX, AV.okS, AV.okX]; done) | omega | fail)) ⟨(by first | rfl | exact (decide_eq_false (by omega)).symm), (by first | rfl | exact (decide_eq_false (by omega)).symm), (by first | rfl | exact (decide_eq_false (by omega)).symm), trivial⟩ ⟨rfl, (by repeat' (first | exact trivial | rfl | refine And.intro ?_ ?_ | (simp [pureL, pureLL, AV.pure, Blk.renS, Blk.okS, Blk.okX, AV.okS, AV.okX]; done) | omega | fail)), ?_⟩ | refine ev_finX0 [(0, _, _), (1, _, _), (2, _, _)] [] [true, true, false] (Nat.succ_pos _) ⟨rfl, rfl, rfl, trivial⟩ rfl (by repeat' (first | exact trivial | rfl | refine And.intro ?_ ?_ | (simp [pureL, pureLL, AV.pure, Blk.renS, Blk.okS, Blk.okX, AV.okS, AV.okX]; done) | omega | fail)) ⟨(by first | rfl | exact (decide_eq_false (by omega)).symm), (by first | rfl | exact (decide_eq_false (by omega)).symm), (by first | rfl | exact (decide_eq_false (by omega)).symm), trivial⟩ ⟨rfl, (by repeat' (first | exact trivial | rfl | refine And.intro ?_ ?_ | (simp [pureL, pureLL, AV.pure, Blk.renS, Blk.okS, Blk.okX, AV.okS, AV.okX]; done) | omega | fail)), ?_⟩
  rfl
theorem data_gives155 (c : Conf) (hc : c.ok) (peer : Int) (m : PMsg) (h : LenO m) (s : Ses) (er now : Int) (acts : List Act) (ha : acts.length < 2 ^ 28) : ∃ fl, Gives G 155 [.ref 1 0 0, .agg c.enc, .int .i64 peer, .agg m.enc, .int .i64 er, .fn 150 [.ref 0 0 0]] [.cells [.ref 1 0 0], .cells (cellsR s now (.vs 2 0 acts.length)), .vec 28 (acts.map Act.enc)] (runRet3 (dataS c peer s m er now acts) now fl) := by
  by_cases h1 : s.state < 2
  · exact ⟨_, data_a c hc peer m h s er now acts h1 ha⟩
  by_cases h2 : s.state > 4
  · exact ⟨_, data_b c hc peer m h s er now acts h2 ha⟩
  by_cases h3 : er = 0
  · by_cases h4 : m.kind = 3
    · exact ⟨_, data_e c hc peer m h s er now acts (by omega) (by omega) h3 h4 ha⟩
    · by_cases h5 : s.state = 2
      · exact ⟨_, data_f c hc peer m h s er now acts h5 h3 h4 ha⟩
      · by_cases h6 : s.state = 3
        · exact ⟨_, data_g c hc peer m h s er now acts h6 h3 h4 ha⟩
        · obtain ⟨fl, l1⟩ := est_gives168 s m ⟨h.len.withdrawn, h.len.reach⟩ now acts ha
          cases fl
          · exact ⟨_, data_hf c hc peer m h s er now acts (by omega) h3 h4 l1 ha⟩
          · exact ⟨_, data_ht c hc peer m h s er now acts (by omega) h3 h4 l1 ha⟩
  · by_cases h4 : m = zeroM
    · exact ⟨_, data_c c hc peer m h s er now acts (by omega) (by omega) h3 h4 ha⟩
    · exact ⟨_, data_d c hc peer m h s er now acts (by omega) (by omega) h3 h4 ha⟩
end Go.AM.IR
set_option maxHeartbeats 4000000
set_option maxRecDepth 20000
namespace Go.AM.IR
attribute [local simp] pureLL_bytes
theorem stop_gives153 (s : Ses) (now : Int) (acts : List Act) (ha : acts.length < 2 ^ 28) : ∃ fl, Gives G 153 [.ref 1 0 0, .fn 150 [.ref 0 0 0]] [.cells [.ref 1 0 0], .cells (cellsR s now (.vs 2 0 acts.length)), .vec 28 (acts.map Act.enc)] (runRet3 (noS, acts ++ stopA s) now fl) := by
  by_cases h2 : s.untl = 0
  · by_cases h4 : s.state = 4
    · exact ⟨_, stop_4n s now acts h4 h2 ha⟩
    · by_cases h3 : s.state = 3
      · exact ⟨_, stop_3n s now acts h3 h2 ha⟩
      · by_cases h5 : s.state = 2
        · exact ⟨_, stop_2n s now acts h5 h2 ha⟩
        · exact ⟨_, stop_on s now acts h4 h3 h5 h2 ha⟩
  · by_cases h4 : s.state = 4
    · exact ⟨_, stop_4u s now acts h4 h2 ha⟩
    · by_cases h3 : s.state = 3
      · exact ⟨_, stop_3u s now acts h3 h2 ha⟩
      · by_cases h5 : s.state = 2
        · exact ⟨_, stop_2u s now acts h5 h2 ha⟩
        · exact ⟨_, stop_ou s now acts h4 h3 h5 h2 ha⟩
theorem down_gives152 (s : Ses) (p : Peer) (now : Int) (acts : List Act) (ha : acts.length < 2 ^ 28) : ∃ fl, Gives G 152 [.ref 0 0 0, .agg p.enc] [.cells (cellsR s now (.vs 1 0 acts.length)), .vec 28 (acts.map Act.enc)] (runRet2 (downS s p now acts) now fl) := by
  by_cases h1 : s.state = 4
  · by_cases h2 : s.restart > 0
    · by_cases h3 : p.restart > 0
      · exact ⟨_, down_a s p now acts h1 h2 h3 ha⟩
      · exact ⟨_, down_c s p now acts h1 h2 h3 ha⟩
    · exact ⟨_, down_b s p now acts h1 h2 ha⟩
  · exact ⟨_, down_d s p now acts h1 ha⟩
def downE (c : Conf) (peer : Int) (s : Ses) (now : Int) : Ses × List Act := match c.peers[peer.toNat]? with
  | none => (s, [])
  | some p => if s.state < 2 ∨ s.state > 4 then (s, []) else downS s p now []
def handleS (c : Conf) (peer : Int) (s : Ses) (m : PMsg) (er ev now : Int) : Ses × List Act :=
  if knownS c peer = false then (s, [])
  else if ev = 1 then (if s.state = 0 then ({ s with state := 1, retry := wr (now + 30) }, [act0 1]) else (s, []))
  else if ev = 2 then (if s.state = 1 then ({ s with state := 2, retry := 0, hold := wr (now + 240) }, [sendA (openS c peer)]) else if s.state = 0 then (s, [act0 2]) else (s, []))
  else if ev = 3 then downE c peer s now
  else if ev = 6 then (noS, stopA s)
  else if ev = 5 then timersS s now []
  else if ev = 4 then dataS c peer s m er now []
  else (s, [])
theorem handle_u (s : Ses) (c : Conf) (hc : c.ok) (peer now ev er : Int) (m : PMsg) (hk : knownS c peer = false) : Gives G 135 [.agg s.enc, .agg c.enc, .int .i64 peer, .int .i64 now, .int .i64 ev, .agg m.enc, .int .i64 er] [] (handleRet (s, [])) := by
  have hp := hc.nets; have h1 := hc.p1; have h2 := hc.p2; have h3 := hc.p3; have h4 := hc.p4
  have hk0 := known_gives140 c hc hc.len peer
  rw [hk] at hk0
  refine gives_code (F := f135) rfl rfl (W_ok 300 _ _ _ _ ?_)
  repeat' ((conv => whnf); first | refine kV hk0 ?_ (by simp [pureL, AV.pure, hp, h1, h2, h3, h4]) | refine bslP (by first | rfl | (simp [pureL, pureLL, AV.pure]; done) | fail) rfl ?_ | refine TakeC.full (by first | rfl | omega | (simp; done) | (simp; omega) | fail) ?_ | refine zBs ?_ | refine zBn ?_ | refine zBv rfl rfl ?_ | refine zN ?_ | refine zC ?_ | refine zC4 ?_ | refine zOr16 ?_ | refine zC1 ?_ | refine zByte ?_ | refine zMaxL ?_ | refine zMaxR ?_ | refine zMinL ?_ | refine zMinR ?_ | refine zShr ?_ | refine zC8 ?_ | refine zQ ?_ | refine zR ?_ | refine zS ?_ | refine zA ?_ | refine zM ?_ | refine xr rfl ?_ | refine ai rfl ?_ | refine condT ?_ | refine condF ?_ | refine condG1 ?_ | refine condG0 ?_ | refine cD ?_ | refine dD ?_ | refine cB ?_ | refine dB ?_ | refine cN ?_ | refine dN ?_ | refine cV ?_ | refine dV ?_ | refine cE ?_ | refine dE ?_ | refine condX0 ?_ | refine condX1 ?_ | refine condNot ?_ | refine condAnd ?_ | refine condOr ?_ | refine aO ?_ | refine aB ?_ | refine aR ?_ | refine aR ?_ (by simp; omega) | refine xr (by assumption) ?_ | refine ai (by assumption) ?_ | refine condD (fun h => ?_) (fun h => ?_) | refine condB (fun h => ?_) (fun h => ?_) | refine condN (fun h => ?_) (fun h => ?_) | refine condE (fun h => ?_) (fun h => ?_) | refine condV (fun h => ?_) (fun h => ?_))
  refine ev_le [(15, .sl 28 [])] [] ⟨LeP.nil 28, trivial⟩ trivial ?_
  refine ev_fin ?_
  (conv => whnf)
  refine And.intro (by first | rfl | (simp [AV.pure, pureL, pureLL_bytes]; done) | fail) ?_
  (conv => whnf)
  first | exact And.intro rfl rfl | (refine And.intro (by first | rfl | (simp [AV.pure, pureL, pureLL_bytes]; done) | fail) ?_; (conv => whnf); rfl) | rfl
theorem h1a (s : Ses) (c : Conf) (hc : c.ok) (peer now er : Int) (m : PMsg) (hk : knownS c peer = true) (h1 : s.state = 0) : Gives G 135 [.agg s.enc, .agg c.enc, .int .i64 peer, .int .i64 now, .int .i64 1, .agg m.enc, .int .i64 er] [] (handleRet ({ s with state := 1, retry := wr (now + 30) }, [act0 1])) := by
  have hp := hc.nets; have p1 := hc.p1; have p2 := hc.p2; have p3 := hc.p3; have p4 := hc.p4
  have hpl : (c.peers.map Peer.enc).length = c.peers.length := by simp
  have d1 := do_gives151 { s with state := 1, retry := wr (now + 30) } now 1 [] (by simp)
  refine hPre135 s c hc peer now 1 er m.enc (PMsg.pure m) hk _ ?_
  intro g1 g2 g3 g4 g7 g8 g12 T H ct
  refine ev_seq (b := sfx 5 f135.body) ?_
  refine W_okd 1 300 _ _ _ _ ?_
  repeat' ((conv => whnf); first | refine zA ?_ | refine wAdd ?_ | refine bslP (by first | rfl | (simp [pureL, pureLL, AV.pure]; done) | fail) rfl ?_ | refine TakeC.full (by first | rfl | omega | (simp; done) | (simp; omega) | fail) ?_ | refine zBs ?_ | refine zBn ?_ | refine zBv rfl rfl ?_ | refine zN ?_ | refine zC ?_ | refine zC4 ?_ | refine zOr16 ?_ | refine zC1 ?_ | refine zByte ?_ | refine zMaxL ?_ | refine zMaxR ?_ | refine zMinL ?_ | refine zMinR ?_ | refine zShr ?_ | refine zC8 ?_ | refine zQ ?_ | refine zR ?_ | refine zS ?_ | refine zA ?_ | refine zM ?_ | refine xr rfl ?_ | refine ai rfl ?_ | refine condT ?_ | refine condF ?_ | refine condG1 ?_ | refine condG0 ?_ | refine cD ?_ | refine dD ?_ | refine cB ?_ | refine dB ?_ | refine cN ?_ | refine dN ?_ | refine cV ?_ | refine dV ?_ | refine cE ?_ | refine dE ?_ | refine condX0 ?_ | refine condX1 ?_ | refine condNot ?_ | refine condAnd ?_ | refine condOr ?_ | refine aO ?_ | refine aB ?_ | refine aR ?_ | refine aR ?_ (by simp; omega) | refine xr (by assumption) ?_ | refine ai (by assumption) ?_ | refine kX [(90, _, _), (500, _, _)] [] ⟨rfl, rfl, trivial⟩ trivial (d1) ?_ | refine condD (fun h => ?_) (fun h => ?_) | refine condB (fun h => ?_) (fun h => ?_) | refine condN (fun h => ?_) (fun h => ?_) | refine condE (fun h => ?_) (fun h => ?_) | refine condV (fun h => ?_) (fun h => ?_))
  refine ev_keep [16, 14] [78, 80, 90, 500] ?_
  exact hEnd135 ({ s with state := 1, retry := wr (now + 30) }) now ([act0 1]) _ _ _ _ _ rfl _ rfl _ _ _
theorem h1b (s : Ses) (c : Conf) (hc : c.ok) (peer now er : Int) (m : PMsg) (hk : knownS c peer = true) (h1 : ¬ s.state = 0) : Gives G 135 [.agg s.enc, .agg c.enc, .int .i64 peer, .int .i64 now, .int .i64 1, .agg m.enc, .int .i64 er] [] (handleRet (s, [])) := by
  have hp := hc.nets; have p1 := hc.p1; have p2 := hc.p2; have p3 := hc.p3; have p4 := hc.p4
  have hpl : (c.peers.map Peer.enc).length = c.peers.length := by simp
  refine hPre135 s c hc peer now 1 er m.enc (PMsg.pure m) hk _ ?_
  intro g1 g2 g3 g4 g7 g8 g12 T H ct
  refine ev_seq (b := sfx 5 f135.body) ?_
  refine W_okd 1 300 _ _ _ _ ?_
  repeat' ((conv => whnf); first | refine zA ?_ | refine wAdd ?_ | refine bslP (by first | rfl | (simp [pureL, pureLL, AV.pure]; done) | fail) rfl ?_ | refine TakeC.full (by first | rfl | omega | (simp; done) | (simp; omega) | fail) ?_ | refine zBs ?_ | refine zBn ?_ | refine zBv rfl rfl ?_ | refine zN ?_ | refine zC ?_ | refine zC4 ?_ | refine zOr16 ?_ | refine zC1 ?_ | refine zByte ?_ | refine zMaxL ?_ | refine zMaxR ?_ | refine zMinL ?_ | refine zMinR ?_ | refine zShr ?_ | refine zC8 ?_ | refine zQ ?_ | refine zR ?_ | refine zS ?_ | refine zA ?_ | refine zM ?_ | refine xr rfl ?_ | refine ai rfl ?_ | refine condT ?_ | refine condF ?_ | refine condG1 ?_ | refine condG0 ?_ | refine cD ?_ | refine dD ?_ | refine cB ?_ | refine dB ?_ | refine cN ?_ | refine dN ?_ | refine cV ?_ | refine dV ?_ | refine cE ?_ | refine dE ?_ | refine condX0 ?_ | refine condX1 ?_ | refine condNot ?_ | refine condAnd ?_ | refine condOr ?_ | refine aO ?_ | refine aB ?_ | refine aR ?_ | refine aR ?_ (by simp; omega) | refine xr (by assumption) ?_ | refine ai (by assumption) ?_ | refine condD (fun h => ?_) (fun h => ?_) | refine condB (fun h => ?_) (fun h => ?_) | refine condN (fun h => ?_) (fun h => ?_) | refine condE (fun h => ?_) (fun h => ?_) | refine condV (fun h => ?_) (fun h => ?_))
  refine ev_keep [16, 14] [78, 80, 90, 500] ?_
  exact hEnd135 (s) now ([]) _ _ _ _ _ rfl _ rfl _ _ _
theorem h2a (s : Ses) (c : Conf) (hc : c.ok) (peer now er : Int) (m : PMsg) (hk : knownS c peer = true) (h1 : s.state = 1) : Gives G 135 [.agg s.enc, .agg c.enc, .int .i64 peer, .int .i64 now, .int .i64 2, .agg m.enc, .int .i64 er] [] (handleRet ({ s with state := 2, retry := 0, hold := wr (now + 240) }, [sendA (openS c peer)])) := by
  have hp := hc.nets; have p1 := hc.p1; have p2 := hc.p2; have p3 := hc.p3; have p4 := hc.p4
  have hpl : (c.peers.map Peer.enc).length = c.peers.length := by simp
  have d1 := send_gives150 { s with state := 2, retry := 0, hold := wr (now + 240) } now (openS c peer) [] (by simp)
  have o1 := open_gives127 c hc hc.len peer
  generalize openS c peer = om at *
  refine hPre135 s c hc peer now 2 er m.enc (PMsg.pure m) hk _ ?_
  intro g1 g2 g3 g4 g7 g8 g12 T H ct
  refine ev_seq (b := sfx 5 f135.body) ?_
  refine W_okd 1 300 _ _ _ _ ?_
  repeat' ((conv => whnf); first | refine zA ?_ | refine wAdd ?_ | refine callW o1 ?_ (by simp [pureL, AV.pure, hp, p1, p2, p3, p4]) | refine bslP (by first | rfl | (simp [pureL, pureLL, AV.pure]; done) | fail) rfl ?_ | refine TakeC.full (by first | rfl | omega | (simp; done) | (simp; omega) | fail) ?_ | refine zBs ?_ | refine zBn ?_ | refine zBv rfl rfl ?_ | refine zN ?_ | refine zC ?_ | refine zC4 ?_ | refine zOr16 ?_ | refine zC1 ?_ | refine zByte ?_ | refine zMaxL ?_ | refine zMaxR ?_ | refine zMinL ?_ | refine zMinR ?_ | refine zShr ?_ | refine zC8 ?_ | refine zQ ?_ | refine zR ?_ | refine zS ?_ | refine zA ?_ | refine zM ?_ | refine xr rfl ?_ | refine ai rfl ?_ | refine condT ?_ | refine condF ?_ | refine condG1 ?_ | refine condG0 ?_ | refine cD ?_ | refine dD ?_ | refine cB ?_ | refine dB ?_ | refine cN ?_ | refine dN ?_ | refine cV ?_ | refine dV ?_ | refine cE ?_ | refine dE ?_ | refine condX0 ?_ | refine condX1 ?_ | refine condNot ?_ | refine condAnd ?_ | refine condOr ?_ | refine aO ?_ | refine aB ?_ | refine aR ?_ | refine aR ?_ (by simp; omega) | refine xr (by assumption) ?_ | refine ai (by assumption) ?_ | refine kX [(80, _, _), (90, _, _), (500, _, _)] [] ⟨rfl, rfl, rfl, trivial⟩ trivial (d1) ?_ | refine condD (fun h => ?_) (fun h => ?_) | refine condB (fun h => ?_) (fun h => ?_) | refine condN (fun h => ?_) (fun h => ?_) | refine condE (fun h => ?_) (fun h => ?_) | refine condV (fun h => ?_) (fun h => ?_))
  refine ev_keep [16, 14] [78, 80, 90, 500] ?_
  exact hEnd135 ({ s with state := 2, retry := 0, hold := wr (now + 240) }) now ([sendA om]) _ _ _ _ _ rfl _ rfl _ _ _
theorem h2b (s : Ses) (c : Conf) (hc : c.ok) (peer now er : Int) (m : PMsg) (hk : knownS c peer = true) (h1 : s.state = 0) : Gives G 135 [.agg s.enc, .agg c.enc, .int .i64 peer, .int .i64 now, .int .i64 2, .agg m.enc, .int .i64 er] [] (handleRet (s, [act0 2])) := by
  have hp := hc.nets; have p1 := hc.p1; have p2 := hc.p2; have p3 := hc.p3; have p4 := hc.p4
  have hpl : (c.peers.map Peer.enc).length = c.peers.length := by simp
  have d1 := do_gives151 s now 2 [] (by simp)
  refine hPre135 s c hc peer now 2 er m.enc (PMsg.pure m) hk _ ?_
  intro g1 g2 g3 g4 g7 g8 g12 T H ct
  refine ev_seq (b := sfx 5 f135.body) ?_
  refine W_okd 1 300 _ _ _ _ ?_
  repeat' ((conv => whnf); first | refine zA ?_ | refine wAdd ?_ | refine bslP (by first | rfl | (simp [pureL, pureLL, AV.pure]; done) | fail) rfl ?_ | refine TakeC.full (by first | rfl | omega | (simp; done) | (simp; omega) | fail) ?_ | refine zBs ?_ | refine zBn ?_ | refine zBv rfl rfl ?_ | refine zN ?_ | refine zC ?_ | refine zC4 ?_ | refine zOr16 ?_ | refine zC1 ?_ | refine zByte ?_ | refine zMaxL ?_ | refine zMaxR ?_ | refine zMinL ?_ | refine zMinR ?_ | refine zShr ?_ | refine zC8 ?_ | refine zQ ?_ | refine zR ?_ | refine zS ?_ | refine zA ?_ | refine zM ?_ | refine xr rfl ?_ | refine ai rfl ?_ | refine condT ?_ | refine condF ?_ | refine condG1 ?_ | refine condG0 ?_ | refine cD ?_ | refine dD ?_ | refine cB ?_ | refine dB ?_ | refine cN ?_ | refine dN ?_ | refine cV ?_ | refine dV ?_ | refine cE ?_ | refine dE ?_ | refine condX0 ?_ | refine condX1 ?_ | refine condNot ?_ | refine condAnd ?_ | refine condOr ?_ | refine aO ?_ | refine aB ?_ | refine aR ?_ | refine aR ?_ (by simp; omega) | refine xr (by assumption) ?_ | refine ai (by assumption) ?_ | refine kX [(90, _, _), (500, _, _)] [] ⟨rfl, rfl, trivial⟩ trivial (d1) ?_ | refine condD (fun h => ?_) (fun h => ?_) | refine condB (fun h => ?_) (fun h => ?_) | refine condN (fun h => ?_) (fun h => ?_) | refine condE (fun h => ?_) (fun h => ?_) | refine condV (fun h => ?_) (fun h => ?_))
  refine ev_keep [16, 14] [78, 80, 90, 500] ?_
  exact hEnd135 (s) now ([act0 2]) _ _ _ _ _ rfl _ rfl _ _ _
theorem h2c (s : Ses) (c : Conf) (hc : c.ok) (peer now er : Int) (m : PMsg) (hk : knownS c peer = true) (h1 : ¬ s.state = 1) (h2 : ¬ s.state = 0) : Gives G 135 [.agg s.enc, .agg c.enc, .int .i64 peer, .int .i64 now, .int .i64 2, .agg m.enc, .int .i64 er] [] (handleRet (s, [])) := by
  have hp := hc.nets; have p1 := hc.p1; have p2 := hc.p2; have p3 := hc.p3; have p4 := hc.p4
  have hpl : (c.peers.map Peer.enc).length = c.peers.length := by simp
  refine hPre135 s c hc peer now 2 er m.enc (PMsg.pure m) hk _ ?_
  intro g1 g2 g3 g4 g7 g8 g12 T H ct
  refine ev_seq (b := sfx 5 f135.body) ?_
  refine W_okd 1 300 _ _ _ _ ?_
  repeat' ((conv => whnf); first | refine zA ?_ | refine wAdd ?_ | refine bslP (by first | rfl | (simp [pureL, pureLL, AV.pure]; done) | fail) rfl ?_ | refine TakeC.full (by first | rfl | omega | (simp; done) | (simp; omega) | fail) ?_ | refine zBs ?_ | refine zBn ?_ | refine zBv rfl rfl ?_ | refine zN ?_ | refine zC ?_ | refine zC4 ?_ | refine zOr16 ?_ | refine zC1 ?_ | refine zByte ?_ | refine zMaxL ?_ | refine zMaxR ?_ | refine zMinL ?_ | refine zMinR ?_ | refine zShr ?_ | refine zC8 ?_ | refine zQ ?_ | refine zR ?_ | refine zS ?_ | refine zA ?_ | refine zM ?_ | refine xr rfl ?_ | refine ai rfl ?_ | refine condT ?_ | refine condF ?_ | refine condG1 ?_ | refine condG0 ?_ | refine cD ?_ | refine dD ?_ | refine cB ?_ | refine dB ?_ | refine cN ?_ | refine dN ?_ | refine cV ?_ | refine dV ?_ | refine cE ?_ | refine dE ?_ | refine condX0 ?_ | refine condX1 ?_ | refine condNot ?_ | refine condAnd ?_ | refine condOr ?_ | refine aO ?_ | refine aB ?_ | refine aR ?_ | refine aR ?_ (by simp; omega) | refine xr (by assumption) ?_ | refine ai (by assumption) ?_ | refine condD (fun h => ?_) (fun h => ?_) | refine condB (fun h => ?_) (fun h => ?_) | refine condN (fun h => ?_) (fun h => ?_) | refine condE (fun h => ?_) (fun h => ?_) | refine condV (fun h => ?_) (fun h => ?_))
  refine ev_keep [16, 14] [78, 80, 90, 500] ?_
  exact hEnd135 (s) now ([]) _ _ _ _ _ rfl _ rfl _ _ _
theorem h3a (s : Ses) (c : Conf) (hc : c.ok) (peer now er : Int) (m : PMsg) (hk : knownS c peer = true) (h1 : s.state < 2) : Gives G 135 [.agg s.enc, .agg c.enc, .int .i64 peer, .int .i64 now, .int .i64 3, .agg m.enc, .int .i64 er] [] (handleRet (s, [])) := by
  have hp := hc.nets; have p1 := hc.p1; have p2 := hc.p2; have p3 := hc.p3; have p4 := hc.p4
  have hpl : (c.peers.map Peer.enc).length = c.peers.length := by simp
  refine hPre135 s c hc peer now 3 er m.enc (PMsg.pure m) hk _ ?_
  intro g1 g2 g3 g4 g7 g8 g12 T H ct
  refine ev_seq (b := sfx 5 f135.body) ?_
  refine W_okd 1 300 _ _ _ _ ?_
  repeat' ((conv => whnf); first | refine zA ?_ | refine wAdd ?_ | refine bslP (by first | rfl | (simp [pureL, pureLL, AV.pure]; done) | fail) rfl ?_ | refine TakeC.full (by first | rfl | omega | (simp; done) | (simp; omega) | fail) ?_ | refine zBs ?_ | refine zBn ?_ | refine zBv rfl rfl ?_ | refine zN ?_ | refine zC ?_ | refine zC4 ?_ | refine zOr16 ?_ | refine zC1 ?_ | refine zByte ?_ | refine zMaxL ?_ | refine zMaxR ?_ | refine zMinL ?_ | refine zMinR ?_ | refine zShr ?_ | refine zC8 ?_ | refine zQ ?_ | refine zR ?_ | refine zS ?_ | refine zA ?_ | refine zM ?_ | refine xr rfl ?_ | refine ai rfl ?_ | refine condT ?_ | refine condF ?_ | refine condG1 ?_ | refine condG0 ?_ | refine cD ?_ | refine dD ?_ | refine cB ?_ | refine dB ?_ | refine cN ?_ | refine dN ?_ | refine cV ?_ | refine dV ?_ | refine cE ?_ | refine dE ?_ | refine condX0 ?_ | refine condX1 ?_ | refine condNot ?_ | refine condAnd ?_ | refine condOr ?_ | refine aO ?_ | refine aB ?_ | refine aR ?_ | refine aR ?_ (by simp; omega) | refine xr (by assumption) ?_ | refine ai (by assumption) ?_ | refine condD (fun h => ?_) (fun h => ?_) | refine condB (fun h => ?_) (fun h => ?_) | refine condN (fun h => ?_) (fun h => ?_) | refine condE (fun h => ?_) (fun h => ?_) | refine condV (fun h => ?_) (fun h => ?_))
  refine ev_keep [16, 14] [78, 80, 90, 500] ?_
  exact hEnd135 (s) now ([]) _ _ _ _ _ rfl _ rfl _ _ _
theorem h3b (s : Ses) (c : Conf) (hc : c.ok) (peer now er : Int) (m : PMsg) (hk : knownS c peer = true) (h1 : s.state > 4) : Gives G 135 [.agg s.enc, .agg c.enc, .int .i64 peer, .int .i64 now, .int .i64 3, .agg m.enc, .int .i64 er] [] (handleRet (s, [])) := by
  have hp := hc.nets; have p1 := hc.p1; have p2 := hc.p2; have p3 := hc.p3; have p4 := hc.p4
  have hpl : (c.peers.map Peer.enc).length = c.peers.length := by simp
  refine hPre135 s c hc peer now 3 er m.enc (PMsg.pure m) hk _ ?_
  intro g1 g2 g3 g4 g7 g8 g12 T H ct
  refine ev_seq (b := sfx 5 f135.body) ?_
  refine W_okd 1 300 _ _ _ _ ?_
  repeat' ((conv => whnf); first | refine zA ?_ | refine wAdd ?_ | refine bslP (by first | rfl | (simp [pureL, pureLL, AV.pure]; done) | fail) rfl ?_ | refine TakeC.full (by first | rfl | omega | (simp; done) | (simp; omega) | fail) ?_ | refine zBs ?_ | refine zBn ?_ | refine zBv rfl rfl ?_ | refine zN ?_ | refine zC ?_ | refine zC4 ?_ | refine zOr16 ?_ | refine zC1 ?_ | refine zByte ?_ | refine zMaxL ?_ | refine zMaxR ?_ | refine zMinL ?_ | refine zMinR ?_ | refine zShr ?_ | refine zC8 ?_ | refine zQ ?_ | refine zR ?_ | refine zS ?_ | refine zA ?_ | refine zM ?_ | refine xr rfl ?_ | refine ai rfl ?_ | refine condT ?_ | refine condF ?_ | refine condG1 ?_ | refine condG0 ?_ | refine cD ?_ | refine dD ?_ | refine cB ?_ | refine dB ?_ | refine cN ?_ | refine dN ?_ | refine cV ?_ | refine dV ?_ | refine cE ?_ | refine dE ?_ | refine condX0 ?_ | refine condX1 ?_ | refine condNot ?_ | refine condAnd ?_ | refine condOr ?_ | refine aO ?_ | refine aB ?_ | refine aR ?_ | refine aR ?_ (by simp; omega) | refine xr (by assumption) ?_ | refine ai (by assumption) ?_ | refine condD (fun h => ?_) (fun h => ?_) | refine condB (fun h => ?_) (fun h => ?_) | refine condN (fun h => ?_) (fun h => ?_) | refine condE (fun h => ?_) (fun h => ?_) | refine condV (fun h => ?_) (fun h => ?_))
  refine ev_keep [16, 14] [78, 80, 90, 500] ?_
  exact hEnd135 (s) now ([]) _ _ _ _ _ rfl _ rfl _ _ _
theorem h3c (s : Ses) (c : Conf) (hc : c.ok) (peer now er : Int) (m : PMsg) (hk : knownS c peer = true) (h1 : 2 ≤ s.state) (h2 : s.state ≤ 4) (p : Peer) (hx : (c.peers.map Peer.enc)[peer.toNat]? = some p.enc) : Gives G 135 [.agg s.enc, .agg c.enc, .int .i64 peer, .int .i64 now, .int .i64 3, .agg m.enc, .int .i64 er] [] (handleRet ((downS s p now []).1, (downS s p now []).2)) := by
  have hp := hc.nets; have p1 := hc.p1; have p2 := hc.p2; have p3 := hc.p3; have p4 := hc.p4
  have hpl : (c.peers.map Peer.enc).length = c.peers.length := by simp
  obtain ⟨fl, d1⟩ := down_gives152 s p now [] (by simp)
  unfold runRet2 at d1
  have hx0 : 0 ≤ peer ∧ peer.toNat < (c.peers.map Peer.enc).length := by rw [hpl]; have := hk; simp [knownS] at this; omega
  obtain ⟨hx1, hx2⟩ := hx0
  have hx3 : peer < c.peers.length := by rw [hpl] at hx2; omega
  refine hPre135 s c hc peer now 3 er m.enc (PMsg.pure m) hk _ ?_
  intro g1 g2 g3 g4 g7 g8 g12 T H ct
  refine ev_seq (b := sfx 5 f135.body) ?_
  refine W_okd 1 300 _ _ _ _ ?_
  repeat' ((conv => whnf); first | refine zA ?_ | refine wAdd ?_ | refine bslP (by first | rfl | (simp [pureL, pureLL, AV.pure]; done) | fail) rfl ?_ | refine TakeC.full (by first | rfl | omega | (simp; done) | (simp; omega) | fail) ?_ | refine zBs ?_ | refine zBn ?_ | refine zBv rfl rfl ?_ | refine zN ?_ | refine zC ?_ | refine zC4 ?_ | refine zOr16 ?_ | refine zC1 ?_ | refine zByte ?_ | refine zMaxL ?_ | refine zMaxR ?_ | refine zMinL ?_ | refine zMinR ?_ | refine zShr ?_ | refine zC8 ?_ | refine zQ ?_ | refine zR ?_ | refine zS ?_ | refine zA ?_ | refine zM ?_ | refine xr rfl ?_ | refine ai rfl ?_ | refine condT ?_ | refine condF ?_ | refine condG1 ?_ | refine condG0 ?_ | refine cD ?_ | refine dD ?_ | refine cB ?_ | refine dB ?_ | refine cN ?_ | refine dN ?_ | refine cV ?_ | refine dV ?_ | refine cE ?_ | refine dE ?_ | refine condX0 ?_ | refine condX1 ?_ | refine condNot ?_ | refine condAnd ?_ | refine condOr ?_ | refine aO ?_ | refine aB ?_ | refine aR ?_ | refine aR ?_ (by simp; omega) | refine xr (by assumption) ?_ | refine ai (by assumption) ?_ | refine kX [(90, _, _), (500, _, _)] [] ⟨rfl, rfl, trivial⟩ trivial (d1) ?_ | refine condD (fun h => ?_) (fun h => ?_) | refine condB (fun h => ?_) (fun h => ?_) | refine condN (fun h => ?_) (fun h => ?_) | refine condE (fun h => ?_) (fun h => ?_) | refine condV (fun h => ?_) (fun h => ?_))
  refine ev_keep [16, 14] [78, 80, 90, 500] ?_
  exact hEnd135 ((downS s p now []).1) now ((downS s p now []).2) _ _ _ _ _ rfl _ rfl _ _ _
theorem h6 (s : Ses) (c : Conf) (hc : c.ok) (peer now er : Int) (m : PMsg) (hk : knownS c peer = true)  : Gives G 135 [.agg s.enc, .agg c.enc, .int .i64 peer, .int .i64 now, .int .i64 6, .agg m.enc, .int .i64 er] [] (handleRet (noS, stopA s)) := by
  have hp := hc.nets; have p1 := hc.p1; have p2 := hc.p2; have p3 := hc.p3; have p4 := hc.p4
  have hpl : (c.peers.map Peer.enc).length = c.peers.length := by simp
  obtain ⟨fl, d1⟩ := stop_gives153 s now [] (by simp)
  unfold runRet3 at d1
  refine hPre135 s c hc peer now 6 er m.enc (PMsg.pure m) hk _ ?_
  intro g1 g2 g3 g4 g7 g8 g12 T H ct
  refine ev_seq (b := sfx 5 f135.body) ?_
  refine W_okd 1 300 _ _ _ _ ?_
  repeat' ((conv => whnf); first | refine zA ?_ | refine wAdd ?_ | refine bslP (by first | rfl | (simp [pureL, pureLL, AV.pure]; done) | fail) rfl ?_ | refine TakeC.full (by first | rfl | omega | (simp; done) | (simp; omega) | fail) ?_ | refine zBs ?_ | refine zBn ?_ | refine zBv rfl rfl ?_ | refine zN ?_ | refine zC ?_ | refine zC4 ?_ | refine zOr16 ?_ | refine zC1 ?_ | refine zByte ?_ | refine zMaxL ?_ | refine zMaxR ?_ | refine zMinL ?_ | refine zMinR ?_ | refine zShr ?_ | refine zC8 ?_ | refine zQ ?_ | refine zR ?_ | refine zS ?_ | refine zA ?_ | refine zM ?_ | refine xr rfl ?_ | refine ai rfl ?_ | refine condT ?_ | refine condF ?_ | refine condG1 ?_ | refine condG0 ?_ | refine cD ?_ | refine dD ?_ | refine cB ?_ | refine dB ?_ | refine cN ?_ | refine dN ?_ | refine cV ?_ | refine dV ?_ | refine cE ?_ | refine dE ?_ | refine condX0 ?_ | refine condX1 ?_ | refine condNot ?_ | refine condAnd ?_ | refine condOr ?_ | refine aO ?_ | refine aB ?_ | refine aR ?_ | refine aR ?_ (by simp; omega) | refine xr (by assumption) ?_ | refine ai (by assumption) ?_ | refine kX [(80, _, _), (90, _, _), (500, _, _)] [] ⟨rfl, rfl, rfl, trivial⟩ trivial (d1) ?_ | refine condD (fun h => ?_) (fun h => ?_) | refine condB (fun h => ?_) (fun h => ?_) | refine condN (fun h => ?_) (fun h => ?_) | refine condE (fun h => ?_) (fun h => ?_) | refine condV (fun h => ?_) (fun h => ?_))
  refine ev_keep [16, 14] [78, 80, 90, 500] ?_
  exact hEnd135 (noS) now (stopA s) _ _ _ _ _ rfl _ rfl _ _ _
theorem h4 (s : Ses) (c : Conf) (hc : c.ok) (peer now er : Int) (m : PMsg) (hk : knownS c peer = true) (hm : LenO m) : Gives G 135 [.agg s.enc, .agg c.enc, .int .i64 peer, .int .i64 now, .int .i64 4, .agg m.enc, .int .i64 er] [] (handleRet ((dataS c peer s m er now []).1, (dataS c peer s m er now []).2)) := by
  have hp := hc.nets; have p1 := hc.p1; have p2 := hc.p2; have p3 := hc.p3; have p4 := hc.p4
  have hpl : (c.peers.map Peer.enc).length = c.peers.length := by simp
  obtain ⟨fl, d1⟩ := data_gives155 c hc peer m hm s er now [] (by simp)
  unfold runRet3 at d1
  generalize hdz : dataS c peer s m er now [] = dz at *
  refine hPre135 s c hc peer now 4 er m.enc (PMsg.pure m) hk _ ?_
  intro g1 g2 g3 g4 g7 g8 g12 T H ct
  refine ev_seq (b := sfx 5 f135.body) ?_
  refine W_okd 1 300 _ _ _ _ ?_
  repeat' ((conv => whnf); first | refine zA ?_ | refine wAdd ?_ | refine kXp [(80, _, _), (90, _, _), (500, _, _)] _ [90, 80] ⟨rfl, rfl, rfl, trivial⟩ d1 ?_ (by simp [renXL, AV.renX, renX_pure hp, renX_pure p1, renX_pure p2, renX_pure p3, renX_pure p4, Conf.enc, PMsg.enc, zidx, show Nat.beq 90 80 = false from rfl, show Nat.beq 80 90 = false from rfl]) (by simp [okXL, AV.okX, okX_pure hp, okX_pure p1, okX_pure p2, okX_pure p3, okX_pure p4, pureLL_bytes, zidx]) (by simp [kSL, AV.kS, kS_pure hp, kS_pure p1, kS_pure p2, kS_pure p3, kS_pure p4]) (by simp [kSL, AV.kS, kS_pure hp, kS_pure p1, kS_pure p2, kS_pure p3, kS_pure p4]) (by simp) | refine bslP (by first | rfl | (simp [pureL, pureLL, AV.pure]; done) | fail) rfl ?_ | refine TakeC.full (by first | rfl | omega | (simp; done) | (simp; omega) | fail) ?_ | refine zBs ?_ | refine zBn ?_ | refine zBv rfl rfl ?_ | refine zN ?_ | refine zC ?_ | refine zC4 ?_ | refine zOr16 ?_ | refine zC1 ?_ | refine zByte ?_ | refine zMaxL ?_ | refine zMaxR ?_ | refine zMinL ?_ | refine zMinR ?_ | refine zShr ?_ | refine zC8 ?_ | refine zQ ?_ | refine zR ?_ | refine zS ?_ | refine zA ?_ | refine zM ?_ | refine xr rfl ?_ | refine ai rfl ?_ | refine condT ?_ | refine condF ?_ | refine condG1 ?_ | refine condG0 ?_ | refine cD ?_ | refine dD ?_ | refine cB ?_ | refine dB ?_ | refine cN ?_ | refine dN ?_ | refine cV ?_ | refine dV ?_ | refine cE ?_ | refine dE ?_ | refine condX0 ?_ | refine condX1 ?_ | refine condNot ?_ | refine condAnd ?_ | refine condOr ?_ | refine aO ?_ | refine aB ?_ | refine aR ?_ | refine aR ?_ (by simp; omega) | refine xr (by assumption) ?_ | refine ai (by assumption) ?_ | refine condD (fun h => ?_) (fun h => ?_) | refine condB (fun h => ?_) (fun h => ?_) | refine condN (fun h => ?_) (fun h => ?_) | refine condE (fun h => ?_) (fun h => ?_) | refine condV (fun h => ?_) (fun h => ?_))
  refine ev_keep [16, 14] [78, 80, 90, 500] ?_
  exact hEnd135 (dz.1) now (dz.2) _ _ _ _ _ rfl _ rfl _ _ _
theorem h0 (s : Ses) (c : Conf) (hc : c.ok) (peer now ev er : Int) (m : PMsg) (hk : knownS c peer = true) (e1 : ¬ ev = 1) (e2 : ¬ ev = 2) (e3 : ¬ ev = 3) (e4 : ¬ ev = 4) (e5 : ¬ ev = 5) (e6 : ¬ ev = 6) : Gives G 135 [.agg s.enc, .agg c.enc, .int .i64 peer, .int .i64 now, .int .i64 ev, .agg m.enc, .int .i64 er] [] (handleRet (s, [])) := by
  have hp := hc.nets; have p1 := hc.p1; have p2 := hc.p2; have p3 := hc.p3; have p4 := hc.p4
  have hpl : (c.peers.map Peer.enc).length = c.peers.length := by simp
  refine hPre135 s c hc peer now ev er m.enc (PMsg.pure m) hk _ ?_
  intro g1 g2 g3 g4 g7 g8 g12 T H ct
  refine ev_seq (b := sfx 5 f135.body) ?_
  refine W_okd 1 300 _ _ _ _ ?_
  repeat' ((conv => whnf); first | refine zA ?_ | refine wAdd ?_ | refine bslP (by first | rfl | (simp [pureL, pureLL, AV.pure]; done) | fail) rfl ?_ | refine TakeC.full (by first | rfl | omega | (simp; done) | (simp; omega) | fail) ?_ | refine zBs ?_ | refine zBn ?_ | refine zBv rfl rfl ?_ | refine zN ?_ | refine zC ?_ | refine zC4 ?_ | refine zOr16 ?_ | refine zC1 ?_ | refine zByte ?_ | refine zMaxL ?_ | refine zMaxR ?_ | refine zMinL ?_ | refine zMinR ?_ | refine zShr ?_ | refine zC8 ?_ | refine zQ ?_ | refine zR ?_ | refine zS ?_ | refine zA ?_ | refine zM ?_ | refine xr rfl ?_ | refine ai rfl ?_ | refine condT ?_ | refine condF ?_ | refine condG1 ?_ | refine condG0 ?_ | refine cD ?_ | refine dD ?_ | refine cB ?_ | refine dB ?_ | refine cN ?_ | refine dN ?_ | refine cV ?_ | refine dV ?_ | refine cE ?_ | refine dE ?_ | refine condX0 ?_ | refine condX1 ?_ | refine condNot ?_ | refine condAnd ?_ | refine condOr ?_ | refine aO ?_ | refine aB ?_ | refine aR ?_ | refine aR ?_ (by simp; omega) | refine xr (by assumption) ?_ | refine ai (by assumption) ?_ | refine condD (fun h => ?_) (fun h => ?_) | refine condB (fun h => ?_) (fun h => ?_) | refine condN (fun h => ?_) (fun h => ?_) | refine condE (fun h => ?_) (fun h => ?_) | refine condV (fun h => ?_) (fun h => ?_))
  refine ev_keep [16, 14] [78, 80, 90, 500] ?_
  exact hEnd135 (s) now ([]) _ _ _ _ _ rfl _ rfl _ _ _
theorem handle_gives135 (s : Ses) (c : Conf) (hc : c.ok) (peer now ev er : Int) (m : PMsg) (hm : LenO m) : Gives G 135 [.agg s.enc, .agg c.enc, .int .i64 peer, .int .i64 now, .int .i64 ev, .agg m.enc, .int .i64 er] [] (handleRet (handleS c peer s m er ev now)) := by
  unfold handleS
  cases hk : knownS c peer
  · rw [if_pos rfl]; exact handle_u s c hc peer now ev er m hk
  rw [if_neg (by simp)]
  by_cases e1 : ev = 1
  · rw [if_pos e1]; subst e1
    by_cases h1 : s.state = 0
    · rw [if_pos h1]; exact h1a s c hc peer now er m hk h1
    · rw [if_neg h1]; exact h1b s c hc peer now er m hk h1
  rw [if_neg e1]
  by_cases e2 : ev = 2
  · rw [if_pos e2]; subst e2
    by_cases h1 : s.state = 1
    · rw [if_pos h1]; exact h2a s c hc peer now er m hk h1
    rw [if_neg h1]
    by_cases h2 : s.state = 0
    · rw [if_pos h2]; exact h2b s c hc peer now er m hk h2
    · rw [if_neg h2]; exact h2c s c hc peer now er m hk h1 h2
  rw [if_neg e2]
  by_cases e3 : ev = 3
  · rw [if_pos e3]; subst e3
    have h0 : 0 ≤ peer ∧ peer < c.peers.length := by simpa [knownS] using hk
    have hlt : peer.toNat < c.peers.length := by omega
    have hx : (c.peers.map Peer.enc)[peer.toNat]? = some (Peer.enc c.peers[peer.toNat]) := by simp [hlt]
    have hd : downE c peer s now = (if s.state < 2 ∨ s.state > 4 then (s, []) else downS s c.peers[peer.toNat] now []) := by simp [downE, hlt]
    rw [hd]
    by_cases h1 : s.state < 2
    · rw [if_pos (Or.inl h1)]; exact h3a s c hc peer now er m hk h1
    by_cases h2 : s.state > 4
    · rw [if_pos (Or.inr h2)]; exact h3b s c hc peer now er m hk h2
    rw [if_neg (by omega)]; exact h3c s c hc peer now er m hk (by omega) (by omega) _ hx
  rw [if_neg e3]
  by_cases e6 : ev = 6
  · rw [if_pos e6]; subst e6; exact h6 s c hc peer now er m hk
  rw [if_neg e6]
  by_cases e5 : ev = 5
  · rw [if_pos e5]; subst e5; exact handle5_gives135 s c hc peer now er m.enc (PMsg.pure m) hk
  rw [if_neg e5]
  by_cases e4 : ev = 4
  · rw [if_pos e4]; subst e4; exact h4 s c hc peer now er m hk hm
  rw [if_neg e4]; exact h0 s c hc peer now ev er m hk e1 e2 e3 e4 e5 e6
end Go.AM.IR
set_option maxHeartbeats 4000000
set_option maxRecDepth 20000
namespace Go.AM.IR
attribute [local simp] pureLL_bytes
theorem del0_gives137 (s : Ses) (c : Conf) (hc : c.ok) (now : Int) : Gives G 137 [.sl 28 (([] : List Act).map Act.enc), .agg s.enc, .agg c.enc, .int .i64 now] [] (handleRet (s, [])) := by
  have hp := hc.nets; have p1 := hc.p1; have p2 := hc.p2; have p3 := hc.p3; have p4 := hc.p4
  refine gives_code (F := f137) rfl rfl (W_ok 300 _ _ _ _ ?_)
  repeat' ((conv => whnf); first | refine bslP (by first | rfl | (simp [pureL, pureLL, AV.pure]; done) | fail) rfl ?_ | refine TakeC.full (by first | rfl | omega | (simp; done) | (simp; omega) | fail) ?_ | refine zBs ?_ | refine zBn ?_ | refine zBv rfl rfl ?_ | refine zN ?_ | refine zC ?_ | refine zC4 ?_ | refine zOr16 ?_ | refine zC1 ?_ | refine zByte ?_ | refine zMaxL ?_ | refine zMaxR ?_ | refine zMinL ?_ | refine zMinR ?_ | refine zShr ?_ | refine zC8 ?_ | refine zQ ?_ | refine zR ?_ | refine zS ?_ | refine zA ?_ | refine zM ?_ | refine xr rfl ?_ | refine ai rfl ?_ | refine condT ?_ | refine condF ?_ | refine condG1 ?_ | refine condG0 ?_ | refine cD ?_ | refine dD ?_ | refine cB ?_ | refine dB ?_ | refine cN ?_ | refine dN ?_ | refine cV ?_ | refine dV ?_ | refine cE ?_ | refine dE ?_ | refine condX0 ?_ | refine condX1 ?_ | refine condNot ?_ | refine condAnd ?_ | refine condOr ?_ | refine aO ?_ | refine aB ?_ | refine aR ?_ | refine aR ?_ (by simp; omega) | refine xr (by assumption) ?_ | refine ai (by assumption) ?_ | refine condD (fun h => ?_) (fun h => ?_) | refine condB (fun h => ?_) (fun h => ?_) | refine condN (fun h => ?_) (fun h => ?_) | refine condE (fun h => ?_) (fun h => ?_) | refine condV (fun h => ?_) (fun h => ?_))
  refine ev_loop' (W_ok 300 _ _ _ _ ?_)
  repeat' ((conv => whnf); first | refine bslP (by first | rfl | (simp [pureL, pureLL, AV.pure]; done) | fail) rfl ?_ | refine TakeC.full (by first | rfl | omega | (simp; done) | (simp; omega) | fail) ?_ | refine zBs ?_ | refine zBn ?_ | refine zBv rfl rfl ?_ | refine zN ?_ | refine zC ?_ | refine zC4 ?_ | refine zOr16 ?_ | refine zC1 ?_ | refine zByte ?_ | refine zMaxL ?_ | refine zMaxR ?_ | refine zMinL ?_ | refine zMinR ?_ | refine zShr ?_ | refine zC8 ?_ | refine zQ ?_ | refine zR ?_ | refine zS ?_ | refine zA ?_ | refine zM ?_ | refine xr rfl ?_ | refine ai rfl ?_ | refine condT ?_ | refine condF ?_ | refine condG1 ?_ | refine condG0 ?_ | refine cD ?_ | refine dD ?_ | refine cB ?_ | refine dB ?_ | refine cN ?_ | refine dN ?_ | refine cV ?_ | refine dV ?_ | refine cE ?_ | refine dE ?_ | refine condX0 ?_ | refine condX1 ?_ | refine condNot ?_ | refine condAnd ?_ | refine condOr ?_ | refine aO ?_ | refine aB ?_ | refine aR ?_ | refine aR ?_ (by simp; omega) | refine xr (by assumption) ?_ | refine ai (by assumption) ?_ | refine condD (fun h => ?_) (fun h => ?_) | refine condB (fun h => ?_) (fun h => ?_) | refine condN (fun h => ?_) (fun h => ?_) | refine condE (fun h => ?_) (fun h => ?_) | refine condV (fun h => ?_) (fun h => ?_))
  refine ev_le [(9, .sl 28 [])] [] ⟨LeP.nil 28, trivial⟩ trivial ?_
  refine ev_fin ?_
  (conv => whnf)
  refine And.intro (by first | rfl | (simp [AV.pure, pureL, pureLL_bytes]; done) | fail) ?_
  (conv => whnf)
  first | exact And.intro rfl rfl | (refine And.intro (by first | rfl | (simp [AV.pure, pureL, pureLL_bytes]; done) | fail) ?_; (conv => whnf); rfl) | rfl
theorem del1_gives137 (s : Ses) (c : Conf) (hc : c.ok) (now : Int) : Gives G 137 [.sl 28 ([act0 4].map Act.enc), .agg s.enc, .agg c.enc, .int .i64 now] [] (handleRet (s, [])) := by
  have hp := hc.nets; have p1 := hc.p1; have p2 := hc.p2; have p3 := hc.p3; have p4 := hc.p4
  refine gives_code (F := f137) rfl rfl (W_ok 300 _ _ _ _ ?_)
  repeat' ((conv => whnf); first | refine bslP (by first | rfl | (simp [pureL, pureLL, AV.pure]; done) | fail) rfl ?_ | refine TakeC.full (by first | rfl | omega | (simp; done) | (simp; omega) | fail) ?_ | refine zBs ?_ | refine zBn ?_ | refine zBv rfl rfl ?_ | refine zN ?_ | refine zC ?_ | refine zC4 ?_ | refine zOr16 ?_ | refine zC1 ?_ | refine zByte ?_ | refine zMaxL ?_ | refine zMaxR ?_ | refine zMinL ?_ | refine zMinR ?_ | refine zShr ?_ | refine zC8 ?_ | refine zQ ?_ | refine zR ?_ | refine zS ?_ | refine zA ?_ | refine zM ?_ | refine xr rfl ?_ | refine ai rfl ?_ | refine condT ?_ | refine condF ?_ | refine condG1 ?_ | refine condG0 ?_ | refine cD ?_ | refine dD ?_ | refine cB ?_ | refine dB ?_ | refine cN ?_ | refine dN ?_ | refine cV ?_ | refine dV ?_ | refine cE ?_ | refine dE ?_ | refine condX0 ?_ | refine condX1 ?_ | refine condNot ?_ | refine condAnd ?_ | refine condOr ?_ | refine aO ?_ | refine aB ?_ | refine aR ?_ | refine aR ?_ (by simp; omega) | refine xr (by assumption) ?_ | refine ai (by assumption) ?_ | refine condD (fun h => ?_) (fun h => ?_) | refine condB (fun h => ?_) (fun h => ?_) | refine condN (fun h => ?_) (fun h => ?_) | refine condE (fun h => ?_) (fun h => ?_) | refine condV (fun h => ?_) (fun h => ?_))
  refine ev_loop' (W_ok 300 _ _ _ _ ?_)
  repeat' ((conv => whnf); first | refine bslP (by first | rfl | (simp [pureL, pureLL, AV.pure]; done) | fail) rfl ?_ | refine TakeC.full (by first | rfl | omega | (simp; done) | (simp; omega) | fail) ?_ | refine zBs ?_ | refine zBn ?_ | refine zBv rfl rfl ?_ | refine zN ?_ | refine zC ?_ | refine zC4 ?_ | refine zOr16 ?_ | refine zC1 ?_ | refine zByte ?_ | refine zMaxL ?_ | refine zMaxR ?_ | refine zMinL ?_ | refine zMinR ?_ | refine zShr ?_ | refine zC8 ?_ | refine zQ ?_ | refine zR ?_ | refine zS ?_ | refine zA ?_ | refine zM ?_ | refine xr rfl ?_ | refine ai rfl ?_ | refine condT ?_ | refine condF ?_ | refine condG1 ?_ | refine condG0 ?_ | refine cD ?_ | refine dD ?_ | refine cB ?_ | refine dB ?_ | refine cN ?_ | refine dN ?_ | refine cV ?_ | refine dV ?_ | refine cE ?_ | refine dE ?_ | refine condX0 ?_ | refine condX1 ?_ | refine condNot ?_ | refine condAnd ?_ | refine condOr ?_ | refine aO ?_ | refine aB ?_ | refine aR ?_ | refine aR ?_ (by simp; omega) | refine xr (by assumption) ?_ | refine ai (by assumption) ?_ | refine condD (fun h => ?_) (fun h => ?_) | refine condB (fun h => ?_) (fun h => ?_) | refine condN (fun h => ?_) (fun h => ?_) | refine condE (fun h => ?_) (fun h => ?_) | refine condV (fun h => ?_) (fun h => ?_))
  refine ev_loop' (W_ok 300 _ _ _ _ ?_)
  repeat' ((conv => whnf); first | refine bslP (by first | rfl | (simp [pureL, pureLL, AV.pure]; done) | fail) rfl ?_ | refine TakeC.full (by first | rfl | omega | (simp; done) | (simp; omega) | fail) ?_ | refine zBs ?_ | refine zBn ?_ | refine zBv rfl rfl ?_ | refine zN ?_ | refine zC ?_ | refine zC4 ?_ | refine zOr16 ?_ | refine zC1 ?_ | refine zByte ?_ | refine zMaxL ?_ | refine zMaxR ?_ | refine zMinL ?_ | refine zMinR ?_ | refine zShr ?_ | refine zC8 ?_ | refine zQ ?_ | refine zR ?_ | refine zS ?_ | refine zA ?_ | refine zM ?_ | refine xr rfl ?_ | refine ai rfl ?_ | refine condT ?_ | refine condF ?_ | refine condG1 ?_ | refine condG0 ?_ | refine cD ?_ | refine dD ?_ | refine cB ?_ | refine dB ?_ | refine cN ?_ | refine dN ?_ | refine cV ?_ | refine dV ?_ | refine cE ?_ | refine dE ?_ | refine condX0 ?_ | refine condX1 ?_ | refine condNot ?_ | refine condAnd ?_ | refine condOr ?_ | refine aO ?_ | refine aB ?_ | refine aR ?_ | refine aR ?_ (by simp; omega) | refine xr (by assumption) ?_ | refine ai (by assumption) ?_ | refine condD (fun h => ?_) (fun h => ?_) | refine condB (fun h => ?_) (fun h => ?_) | refine condN (fun h => ?_) (fun h => ?_) | refine condE (fun h => ?_) (fun h => ?_) | refine condV (fun h => ?_) (fun h => ?_))
  refine ev_le [(9, .sl 28 [])] [] ⟨LeP.nil 28, trivial⟩ trivial ?_
  refine ev_fin ?_
  (conv => whnf)
  refine And.intro (by first | rfl | (simp [AV.pure, pureL, pureLL_bytes]; done) | fail) ?_
  (conv => whnf)
  first | exact And.intro rfl rfl | (refine And.intro (by first | rfl | (simp [AV.pure, pureL, pureLL_bytes]; done) | fail) ?_; (conv => whnf); rfl) | rfl
theorem del2_gives137 (s t : Ses) (c : Conf) (hc : c.ok) (now : Int) (m : PMsg) (x : Act) (hh : Gives G 135 [.agg s.enc, .agg c.enc, .int .i64 0, .int .i64 now, .int .i64 4, .agg m.enc, .int .i64 0] [] (handleRet (t, [x]))) : Gives G 137 [.sl 28 ([sendA m].map Act.enc), .agg s.enc, .agg c.enc, .int .i64 now] [] (handleRet (t, [x])) := by
  have hp := hc.nets; have p1 := hc.p1; have p2 := hc.p2; have p3 := hc.p3; have p4 := hc.p4
  unfold handleRet at hh
  simp only at hh
  refine gives_code (F := f137) rfl rfl (W_ok 300 _ _ _ _ ?_)
  repeat' ((conv => whnf); first | refine bslP (by first | rfl | (simp [pureL, pureLL, AV.pure]; done) | fail) rfl ?_ | refine TakeC.full (by first | rfl | omega | (simp; done) | (simp; omega) | fail) ?_ | refine zBs ?_ | refine zBn ?_ | refine zBv rfl rfl ?_ | refine zN ?_ | refine zC ?_ | refine zC4 ?_ | refine zOr16 ?_ | refine zC1 ?_ | refine zByte ?_ | refine zMaxL ?_ | refine zMaxR ?_ | refine zMinL ?_ | refine zMinR ?_ | refine zShr ?_ | refine zC8 ?_ | refine zQ ?_ | refine zR ?_ | refine zS ?_ | refine zA ?_ | refine zM ?_ | refine xr rfl ?_ | refine ai rfl ?_ | refine condT ?_ | refine condF ?_ | refine condG1 ?_ | refine condG0 ?_ | refine cD ?_ | refine dD ?_ | refine cB ?_ | refine dB ?_ | refine cN ?_ | refine dN ?_ | refine cV ?_ | refine dV ?_ | refine cE ?_ | refine dE ?_ | refine condX0 ?_ | refine condX1 ?_ | refine condNot ?_ | refine condAnd ?_ | refine condOr ?_ | refine aO ?_ | refine aB ?_ | refine aR ?_ | refine aR ?_ (by simp; omega) | refine xr (by assumption) ?_ | refine ai (by assumption) ?_ | refine condD (fun h => ?_) (fun h => ?_) | refine condB (fun h => ?_) (fun h => ?_) | refine condN (fun h => ?_) (fun h => ?_) | refine condE (fun h => ?_) (fun h => ?_) | refine condV (fun h => ?_) (fun h => ?_))
  refine ev_loop' (W_ok 300 _ _ _ _ ?_)
  repeat' ((conv => whnf); first | refine callW hh ?_ (by simp [pureL, AV.pure, hp, p1, p2, p3, p4]) | refine bslP (by first | rfl | (simp [pureL, pureLL, AV.pure]; done) | fail) rfl ?_ | refine TakeC.full (by first | rfl | omega | (simp; done) | (simp; omega) | fail) ?_ | refine zBs ?_ | refine zBn ?_ | refine zBv rfl rfl ?_ | refine zN ?_ | refine zC ?_ | refine zC4 ?_ | refine zOr16 ?_ | refine zC1 ?_ | refine zByte ?_ | refine zMaxL ?_ | refine zMaxR ?_ | refine zMinL ?_ | refine zMinR ?_ | refine zShr ?_ | refine zC8 ?_ | refine zQ ?_ | refine zR ?_ | refine zS ?_ | refine zA ?_ | refine zM ?_ | refine xr rfl ?_ | refine ai rfl ?_ | refine condT ?_ | refine condF ?_ | refine condG1 ?_ | refine condG0 ?_ | refine cD ?_ | refine dD ?_ | refine cB ?_ | refine dB ?_ | refine cN ?_ | refine dN ?_ | refine cV ?_ | refine dV ?_ | refine cE ?_ | refine dE ?_ | refine condX0 ?_ | refine condX1 ?_ | refine condNot ?_ | refine condAnd ?_ | refine condOr ?_ | refine aO ?_ | refine aB ?_ | refine aR ?_ | refine aR ?_ (by simp; omega) | refine xr (by assumption) ?_ | refine ai (by assumption) ?_ | refine condD (fun h => ?_) (fun h => ?_) | refine condB (fun h => ?_) (fun h => ?_) | refine condN (fun h => ?_) (fun h => ?_) | refine condE (fun h => ?_) (fun h => ?_) | refine condV (fun h => ?_) (fun h => ?_))
  refine ev_loop' (W_ok 300 _ _ _ _ ?_)
  repeat' ((conv => whnf); first | refine bslP (by first | rfl | (simp [pureL, pureLL, AV.pure]; done) | fail) rfl ?_ | refine TakeC.full (by first | rfl | omega | (simp; done) | (simp; omega) | fail) ?_ | refine zBs ?_ | refine zBn ?_ | refine zBv rfl rfl ?_ | refine zN ?_ | refine zC ?_ | refine zC4 ?_ | refine zOr16 ?_ | refine zC1 ?_ | refine zByte ?_ | refine zMaxL ?_ | refine zMaxR ?_ | refine zMinL ?_ | refine zMinR ?_ | refine zShr ?_ | refine zC8 ?_ | refine zQ ?_ | refine zR ?_ | refine zS ?_ | refine zA ?_ | refine zM ?_ | refine xr rfl ?_ | refine ai rfl ?_ | refine condT ?_ | refine condF ?_ | refine condG1 ?_ | refine condG0 ?_ | refine cD ?_ | refine dD ?_ | refine cB ?_ | refine dB ?_ | refine cN ?_ | refine dN ?_ | refine cV ?_ | refine dV ?_ | refine cE ?_ | refine dE ?_ | refine condX0 ?_ | refine condX1 ?_ | refine condNot ?_ | refine condAnd ?_ | refine condOr ?_ | refine aO ?_ | refine aB ?_ | refine aR ?_ | refine aR ?_ (by simp; omega) | refine xr (by assumption) ?_ | refine ai (by assumption) ?_ | refine condD (fun h => ?_) (fun h => ?_) | refine condB (fun h => ?_) (fun h => ?_) | refine condN (fun h => ?_) (fun h => ?_) | refine condE (fun h => ?_) (fun h => ?_) | refine condV (fun h => ?_) (fun h => ?_))
  refine ev_frzk [(100, _, _)] [8, 9] [72] ⟨rfl, (by first | rfl | (simp [Blk.pure, pureL, pureLL, AV.pure, *]; done) | fail), trivial⟩ ?_; repeat ((conv => whnf); first | refine And.intro (by first | rfl | omega | (simp [pureL, pureLL, AV.pure]; done) | (simp; omega) | (simp [pureL, pureLL, AV.pure, *]; done) | assumption | fail) ?_ | intro T H)
  refine ev_fin ?_
  (conv => whnf)
  refine And.intro (by first | rfl | (simp [AV.pure, pureL, pureLL, pureLL_bytes]; done) | fail) ?_
  (conv => whnf)
  first | exact And.intro rfl rfl | (refine And.intro (by first | rfl | (simp [AV.pure, pureL, pureLL, pureLL_bytes]; done) | fail) ?_; (conv => whnf); rfl) | rfl
def oM (as hold router : Int) : PMsg := ⟨1, 4, as, hold, router, [⟨2, []⟩, ⟨65, be 4 (u64 as)⟩], [], zeroA, [], 0, 0, []⟩
theorem openA (hold : Int) : openS (pairA hold) 0 = oM 65001 hold 1 := by
  simp [openS, knownS, pairA, openP, ownS, capsS, zeroM, oM]
theorem openB (hold : Int) : openS (pairB hold) 0 = oM 65002 hold 2 := by
  simp [openS, knownS, pairB, openP, ownS, capsS, zeroM, oM]
theorem okPairA (hold : Int) (h0 : 0 ≤ hold) (h1 : hold ≤ 65535) : (pairA hold).ok := by
  refine ⟨rfl, rfl, rfl, rfl, rfl, ?_, ?_, ?_, ?_, ?_⟩ <;> simp [pairA, okI, okU, maxLen] <;> omega
theorem okPairB (hold : Int) (h0 : 0 ≤ hold) (h1 : hold ≤ 65535) : (pairB hold).ok := by
  refine ⟨rfl, rfl, rfl, rfl, rfl, ?_, ?_, ?_, ?_, ?_⟩ <;> simp [pairB, okI, okU, maxLen] <;> omega
theorem check_oM (as hold router : Int) (h1 : 1 ≤ as) (h2 : as ≤ 4294967295) (h3 : hold = 0 ∨ 3 ≤ hold) (h4 : hold ≤ 65535) (h5 : router ≠ 0) : checkO (oM as hold router) = 0 := by
  have e1 : onlyO (oM as hold router) = true := by simp [onlyO, oM]
  have e2 : capsE as none 0 false [⟨2, []⟩, ⟨65, be 4 (u64 as)⟩] = 0 := by
    simp [capsE, capBad, be_length]
  rw [checkO, if_pos e1, openX, if_neg (by simp [oM]), if_neg (by simp only [oM]; omega), if_neg (by simp only [oM]; omega), if_neg (by simpa [oM] using h5)]
  exact e2
theorem lenO_oM (as hold router : Int) : LenO (oM as hold router) := by
  refine ⟨⟨by simp [oM], by simp [oM], by simp [oM], lenC_zero⟩, ?_⟩
  simp [oM, capT, be_length]
theorem lenO_keep : LenO keepM := ⟨⟨by simp [keepM, zeroM], by simp [keepM, zeroM], by simp [keepM, zeroM], lenC_zero⟩, by simp [keepM, zeroM, capT]⟩
theorem lenO_zero : LenO zeroM := ⟨lenM_zero, by simp [zeroM, capT]⟩
def s1P (now : Int) : Ses := { noS with state := 1, retry := wr (now + 30) }
def s2P (now : Int) : Ses := { noS with state := 2, hold := wr (now + 240) }
def s3P (now h r : Int) : Ses := if h ≠ 0 then { noS with state := 3, holdTime := h, router := r, refresh := true, hold := wr (now + h), keep := wr (now + wr (h.tdiv 3)) } else { noS with state := 3, holdTime := h, router := r, refresh := true }
def minS (a b : Int) : Int := if a ≤ b then a else b
theorem agreeA (hold other : Int) (h3 : other = 0 ∨ 3 ≤ other) (h4 : other ≤ 65535) : agreeS (pairA hold) 0 (oM 65002 other 2) = ({ zeroS with state := 3, holdTime := minS hold other, router := 2, refresh := true }, zeroM, 0) := by
  have hc := check_oM 65002 other 2 (by omega) (by omega) h3 h4 (by omega)
  have hk : knownS (pairA hold) 0 = true := rfl
  rw [agreeS, hk]
  simp only [cond_true]
  show agreeP (pairA hold) ⟨1, 65002, 2, 1, false, hold, 0, [], [], false, false⟩ (oM 65002 other 2) = _
  rw [agreeP, if_neg (by simp [oM]), if_neg (by simp [hc]), if_neg (by simp [oM]), if_neg (by simp [oM, pairA]), if_neg (by simp [oM, capB])]
  simp [oM, capB, minS, zeroS]
  rfl
theorem agreeB (hold other : Int) (h3 : hold = 0 ∨ 3 ≤ hold) (h4 : hold ≤ 65535) : agreeS (pairB other) 0 (oM 65001 hold 1) = ({ zeroS with state := 3, holdTime := minS other hold, router := 1, refresh := true }, zeroM, 0) := by
  have hc := check_oM 65001 hold 1 (by omega) (by omega) h3 h4 (by omega)
  have hk : knownS (pairB other) 0 = true := rfl
  rw [agreeS, hk]
  simp only [cond_true]
  show agreeP (pairB other) ⟨1, 65001, 1, 2, false, other, 0, [], [], false, false⟩ (oM 65001 hold 1) = _
  rw [agreeP, if_neg (by simp [oM]), if_neg (by simp [hc]), if_neg (by simp [oM]), if_neg (by simp [oM, pairB]), if_neg (by simp [oM, capB])]
  simp [oM, capB, minS, zeroS]
  rfl
theorem opened_p (c : Conf) (now h r : Int) (m : PMsg) (hm : m.kind = 1) (ha : agreeS c 0 m = ({ zeroS with state := 3, holdTime := h, router := r, refresh := true }, zeroM, 0)) : openedS c 0 (s2P now) m now [] = (s3P now h r, [sendA keepM]) := by
  rw [openedS, ha, if_neg (by simp [hm]), if_neg (by simp)]
  by_cases hh : h = 0
  · rw [if_neg (by simp [hh])]; simp [s3P, hh, zeroS, noS, s2P]
  · rw [if_pos (by simpa using hh)]; simp [s3P, hh, zeroS, noS, s2P]
theorem data_p (c : Conf) (now h r : Int) (m : PMsg) (hm : m.kind = 1) (hk : knownS c 0 = true) (ha : agreeS c 0 m = ({ zeroS with state := 3, holdTime := h, router := r, refresh := true }, zeroM, 0)) : handleS c 0 (s2P now) m 0 4 now = (s3P now h r, [sendA keepM]) := by
  have ho := opened_p c now h r m hm ha
  rw [handleS, hk, if_neg (by simp), if_neg (by omega), if_neg (by omega), if_neg (by omega), if_neg (by omega), if_neg (by omega), if_pos rfl, dataS, if_neg (by simp [s2P]), if_neg (by simp), if_neg (by omega), if_pos (by simp [s2P])]
  exact ho
theorem s3_f (now h r : Int) : (s3P now h r).state = 3 ∧ (s3P now h r).untl = 0 ∧ (s3P now h r).holdTime = h ∧ (s3P now h r).router = r := by
  unfold s3P; split <;> simp [noS]
def s4P (now h r : Int) : Ses := renewS { s3P now h r with state := 4 } now
theorem s4_f (now h r : Int) : (s4P now h r).state = 4 ∧ (s4P now h r).holdTime = h ∧ (s4P now h r).router = r := by
  obtain ⟨h1, h2, h3, h4⟩ := s3_f now h r
  unfold s4P renewS; split <;> simp [h3, h4]
theorem conf_p (c : Conf) (now h r : Int) (hk : knownS c 0 = true) : handleS c 0 (s3P now h r) keepM 0 4 now = (s4P now h r, [act0 4]) := by
  obtain ⟨h1, h2, h3, h4⟩ := s3_f now h r
  rw [handleS, hk, if_neg (by simp), if_neg (by omega), if_neg (by omega), if_neg (by omega), if_neg (by omega), if_neg (by omega), if_pos rfl, dataS, if_neg (by omega), if_neg (by simp), if_neg (by simp [keepM]), if_neg (by omega), if_pos h1, confS, if_neg (by simp [keepM]), if_neg (by simp [h2])]
  rfl
theorem start_p (c : Conf) (now : Int) (hk : knownS c 0 = true) : handleS c 0 noS zeroM 0 1 now = (s1P now, [act0 1]) := by
  rw [handleS, hk, if_neg (by simp), if_pos rfl, if_pos (show noS.state = 0 from rfl)]; rfl
theorem up_p (c : Conf) (now : Int) (hk : knownS c 0 = true) : handleS c 0 (s1P now) zeroM 0 2 now = (s2P now, [sendA (openS c 0)]) := by
  rw [handleS, hk, if_neg (by simp), if_neg (by omega), if_pos rfl, if_pos (show (s1P now).state = 1 from rfl)]; rfl
end Go.AM.IR
set_option maxHeartbeats 4000000
set_option maxRecDepth 20000
namespace Go.AM.IR
attribute [local simp] pureLL_bytes
theorem handleZ135 (s : Ses) (c : Conf) (hc : c.ok) (now ev : Int) (x : Ses × List Act) (hx : handleS c 0 s zeroM 0 ev now = x) : Gives G 135 [.agg s.enc, .agg c.enc, .int .i64 0, .int .i64 now, .int .i64 ev, .agg [.int .i64 0, .int .i64 0, .int .i64 0, .int .i64 0, .int .u32 0, nilV, nilV, .int .i64 0, nilV, .int .u32 0, .bool false, .int .i64 0, .bool false, .int .i64 0, .bool false, .bool false, .int .i64 0, .int .u32 0, nilV, .bool false, .int .u32 0, nilV, nilV, nilV, .int .i64 0, .int .i64 0, nilV], .int .i64 0] [] (handleRet x) := by
  have h := handle_gives135 s c hc 0 now ev 0 zeroM lenO_zero
  rw [hx] at h
  exact gives_le rfl h ⟨.refl _, .refl _, .refl _, .refl _, .refl _, LeP.agg (by repeat' (first | exact trivial | exact LeP.refl _ | exact LeP.nil _ | refine LeP.sl ?_ | refine ⟨?_, ?_⟩)), .refl _, trivial⟩
theorem handleM135 (s : Ses) (c : Conf) (hc : c.ok) (now : Int) (m : PMsg) (hm : LenO m) (x : Ses × List Act) (hx : handleS c 0 s m 0 4 now = x) : Gives G 135 [.agg s.enc, .agg c.enc, .int .i64 0, .int .i64 now, .int .i64 4, .agg m.enc, .int .i64 0] [] (handleRet x) := by
  have h := handle_gives135 s c hc 0 now 4 0 m hm
  rw [hx] at h
  exact h
theorem pairTail (hold other now w : Int) (a0 : 0 ≤ hold) (a1 : hold ≤ 65535) (a2 : hold = 0 ∨ 3 ≤ hold) (b0 : 0 ≤ other) (b1 : other ≤ 65535) (b2 : other = 0 ∨ 3 ≤ other) (hw : (hold ≤ other ∧ w = hold) ∨ (other < hold ∧ w = other)) (T : List (Nat × AV)) (H : Heap) (c : Nat) :
    Ev G ⟨[.code (sfx 2 f124.body)], ⟨(0, .int .i64 hold) :: (1, .int .i64 other) :: (2, .int .i64 now) :: T, H, c⟩, f124.results, 0⟩ ⟨.bool true, []⟩ := by
  have okA := okPairA hold a0 a1
  have okB := okPairB other b0 b1
  have wA : minS hold other = w := by unfold minS; split <;> omega
  have wB : minS other hold = w := by unfold minS; split <;> omega
  have ag := agreeA hold other b2 b1
  have bg := agreeB hold other a2 a1
  rw [wA] at ag; rw [wB] at bg
  have x1 := handleZ135 noS (pairA hold) okA now 1 _ (start_p _ now rfl)
  have y1 := handleZ135 noS (pairB other) okB now 1 _ (start_p _ now rfl)
  have x2 := handleZ135 (s1P now) (pairA hold) okA now 2 _ (up_p _ now rfl)
  have y2 := handleZ135 (s1P now) (pairB other) okB now 2 _ (up_p _ now rfl)
  rw [openA] at x2; rw [openB] at y2
  have x3 := del2_gives137 (s2P now) (s3P now w 2) (pairA hold) okA now (oM 65002 other 2) (sendA keepM) (handleM135 _ _ okA now _ (lenO_oM _ _ _) _ (data_p _ now w 2 _ rfl rfl ag))
  have y3 := del2_gives137 (s2P now) (s3P now w 1) (pairB other) okB now (oM 65001 hold 1) (sendA keepM) (handleM135 _ _ okB now _ (lenO_oM _ _ _) _ (data_p _ now w 1 _ rfl rfl bg))
  have x4 := del2_gives137 (s3P now w 2) (s4P now w 2) (pairA hold) okA now keepM (act0 4) (handleM135 _ _ okA now _ lenO_keep _ (conf_p _ now w 2 rfl))
  have y4 := del2_gives137 (s3P now w 1) (s4P now w 1) (pairB other) okB now keepM (act0 4) (handleM135 _ _ okB now _ lenO_keep _ (conf_p _ now w 1 rfl))
  have x5 := del1_gives137 (s4P now w 2) (pairA hold) okA now
  have y5 := del1_gives137 (s4P now w 1) (pairB other) okB now
  have x6 := del0_gives137 (s4P now w 2) (pairA hold) okA now
  have y6 := del0_gives137 (s4P now w 1) (pairB other) okB now
  obtain ⟨fx1, fx2, fx3⟩ := s4_f now w 2
  obtain ⟨fy1, fy2, fy3⟩ := s4_f now w 1
  have pg := pair_gives136 hold other
  unfold handleRet nilV at *
  simp only at x1 y1 x2 y2 x3 y3 x4 y4 x5 y5 x6 y6
  clear ag bg okA okB wA wB
  generalize s4P now w 2 = s4a at *
  generalize s4P now w 1 = s4b at *
  generalize s3P now w 2 = s3a at *
  generalize s3P now w 1 = s3b at *
  generalize s2P now = s2 at *
  generalize s1P now = s1 at *
  refine W_ok 300 _ _ _ _ ?_
  repeat' ((conv => whnf); first | refine bslP (by first | rfl | (simp [pureL, pureLL, AV.pure]; done) | fail) rfl ?_ | refine TakeC.full (by first | rfl | omega | (simp; done) | (simp; omega) | fail) ?_ | refine zBs ?_ | refine zBn ?_ | refine zBv rfl rfl ?_ | refine zN ?_ | refine zC ?_ | refine zC4 ?_ | refine zOr16 ?_ | refine zC1 ?_ | refine zByte ?_ | refine zMaxL ?_ | refine zMaxR ?_ | refine zMinL ?_ | refine zMinR ?_ | refine zShr ?_ | refine zC8 ?_ | refine zQ ?_ | refine zR ?_ | refine zS ?_ | refine zA ?_ | refine zM ?_ | refine xr rfl ?_ | refine ai rfl ?_ | refine condT ?_ | refine condF ?_ | refine condG1 ?_ | refine condG0 ?_ | refine cD ?_ | refine dD ?_ | refine cB ?_ | refine dB ?_ | refine cN ?_ | refine dN ?_ | refine cV ?_ | refine dV ?_ | refine cE ?_ | refine dE ?_ | refine condX0 ?_ | refine condX1 ?_ | refine condNot ?_ | refine condAnd ?_ | refine condOr ?_ | refine aO ?_ | refine aB ?_ | refine aR ?_ | refine aR ?_ (by simp; omega) | refine xr (by assumption) ?_ | refine ai (by assumption) ?_ | refine callW (pg) ?_ | refine callW (x1) ?_ | refine callW (y1) ?_ | refine callW (x2) ?_ | refine callW (y2) ?_ | refine condD (fun h => ?_) (fun h => ?_) | refine condB (fun h => ?_) (fun h => ?_) | refine condN (fun h => ?_) (fun h => ?_) | refine condE (fun h => ?_) (fun h => ?_) | refine condV (fun h => ?_) (fun h => ?_))
  refine ev_keep [97, 11, 9, 2, 8, 13, 7, 14, 1, 0] [71, 72, 73, 75] ?_
  refine ev_loop' (W_ok 300 _ _ _ _ ?_)
  repeat' ((conv => whnf); first | refine bslP (by first | rfl | (simp [pureL, pureLL, AV.pure]; done) | fail) rfl ?_ | refine TakeC.full (by first | rfl | omega | (simp; done) | (simp; omega) | fail) ?_ | refine zBs ?_ | refine zBn ?_ | refine zBv rfl rfl ?_ | refine zN ?_ | refine zC ?_ | refine zC4 ?_ | refine zOr16 ?_ | refine zC1 ?_ | refine zByte ?_ | refine zMaxL ?_ | refine zMaxR ?_ | refine zMinL ?_ | refine zMinR ?_ | refine zShr ?_ | refine zC8 ?_ | refine zQ ?_ | refine zR ?_ | refine zS ?_ | refine zA ?_ | refine zM ?_ | refine xr rfl ?_ | refine ai rfl ?_ | refine condT ?_ | refine condF ?_ | refine condG1 ?_ | refine condG0 ?_ | refine cD ?_ | refine dD ?_ | refine cB ?_ | refine dB ?_ | refine cN ?_ | refine dN ?_ | refine cV ?_ | refine dV ?_ | refine cE ?_ | refine dE ?_ | refine condX0 ?_ | refine condX1 ?_ | refine condNot ?_ | refine condAnd ?_ | refine condOr ?_ | refine aO ?_ | refine aB ?_ | refine aR ?_ | refine aR ?_ (by simp; omega) | refine xr (by assumption) ?_ | refine ai (by assumption) ?_ | refine callW (x3) ?_ | refine callW (y3) ?_ | refine condD (fun h => ?_) (fun h => ?_) | refine condB (fun h => ?_) (fun h => ?_) | refine condN (fun h => ?_) (fun h => ?_) | refine condE (fun h => ?_) (fun h => ?_) | refine condV (fun h => ?_) (fun h => ?_))
  refine ev_keep [97, 11, 9, 2, 8, 13, 7, 14, 1, 0] [71, 72, 73, 75] ?_
  refine ev_loop' (W_ok 300 _ _ _ _ ?_)
  repeat' ((conv => whnf); first | refine bslP (by first | rfl | (simp [pureL, pureLL, AV.pure]; done) | fail) rfl ?_ | refine TakeC.full (by first | rfl | omega | (simp; done) | (simp; omega) | fail) ?_ | refine zBs ?_ | refine zBn ?_ | refine zBv rfl rfl ?_ | refine zN ?_ | refine zC ?_ | refine zC4 ?_ | refine zOr16 ?_ | refine zC1 ?_ | refine zByte ?_ | refine zMaxL ?_ | refine zMaxR ?_ | refine zMinL ?_ | refine zMinR ?_ | refine zShr ?_ | refine zC8 ?_ | refine zQ ?_ | refine zR ?_ | refine zS ?_ | refine zA ?_ | refine zM ?_ | refine xr rfl ?_ | refine ai rfl ?_ | refine condT ?_ | refine condF ?_ | refine condG1 ?_ | refine condG0 ?_ | refine cD ?_ | refine dD ?_ | refine cB ?_ | refine dB ?_ | refine cN ?_ | refine dN ?_ | refine cV ?_ | refine dV ?_ | refine cE ?_ | refine dE ?_ | refine condX0 ?_ | refine condX1 ?_ | refine condNot ?_ | refine condAnd ?_ | refine condOr ?_ | refine aO ?_ | refine aB ?_ | refine aR ?_ | refine aR ?_ (by simp; omega) | refine xr (by assumption) ?_ | refine ai (by assumption) ?_ | refine callW (x4) ?_ | refine callW (y4) ?_ | refine condD (fun h => ?_) (fun h => ?_) | refine condB (fun h => ?_) (fun h => ?_) | refine condN (fun h => ?_) (fun h => ?_) | refine condE (fun h => ?_) (fun h => ?_) | refine condV (fun h => ?_) (fun h => ?_))
  refine ev_keep [97, 11, 9, 2, 8, 13, 7, 14, 1, 0] [71, 72, 73, 75] ?_
  refine ev_loop' (W_ok 300 _ _ _ _ ?_)
  repeat' ((conv => whnf); first | refine bslP (by first | rfl | (simp [pureL, pureLL, AV.pure]; done) | fail) rfl ?_ | refine TakeC.full (by first | rfl | omega | (simp; done) | (simp; omega) | fail) ?_ | refine zBs ?_ | refine zBn ?_ | refine zBv rfl rfl ?_ | refine zN ?_ | refine zC ?_ | refine zC4 ?_ | refine zOr16 ?_ | refine zC1 ?_ | refine zByte ?_ | refine zMaxL ?_ | refine zMaxR ?_ | refine zMinL ?_ | refine zMinR ?_ | refine zShr ?_ | refine zC8 ?_ | refine zQ ?_ | refine zR ?_ | refine zS ?_ | refine zA ?_ | refine zM ?_ | refine xr rfl ?_ | refine ai rfl ?_ | refine condT ?_ | refine condF ?_ | refine condG1 ?_ | refine condG0 ?_ | refine cD ?_ | refine dD ?_ | refine cB ?_ | refine dB ?_ | refine cN ?_ | refine dN ?_ | refine cV ?_ | refine dV ?_ | refine cE ?_ | refine dE ?_ | refine condX0 ?_ | refine condX1 ?_ | refine condNot ?_ | refine condAnd ?_ | refine condOr ?_ | refine aO ?_ | refine aB ?_ | refine aR ?_ | refine aR ?_ (by simp; omega) | refine xr (by assumption) ?_ | refine ai (by assumption) ?_ | refine callW (x5) ?_ | refine callW (y5) ?_ | refine condD (fun h => ?_) (fun h => ?_) | refine condB (fun h => ?_) (fun h => ?_) | refine condN (fun h => ?_) (fun h => ?_) | refine condE (fun h => ?_) (fun h => ?_) | refine condV (fun h => ?_) (fun h => ?_))
  refine ev_keep [97, 11, 9, 2, 8, 13, 7, 14, 1, 0] [71, 72, 73, 75] ?_
  refine ev_loop' (W_ok 300 _ _ _ _ ?_)
  repeat' ((conv => whnf); first | refine bslP (by first | rfl | (simp [pureL, pureLL, AV.pure]; done) | fail) rfl ?_ | refine TakeC.full (by first | rfl | omega | (simp; done) | (simp; omega) | fail) ?_ | refine zBs ?_ | refine zBn ?_ | refine zBv rfl rfl ?_ | refine zN ?_ | refine zC ?_ | refine zC4 ?_ | refine zOr16 ?_ | refine zC1 ?_ | refine zByte ?_ | refine zMaxL ?_ | refine zMaxR ?_ | refine zMinL ?_ | refine zMinR ?_ | refine zShr ?_ | refine zC8 ?_ | refine zQ ?_ | refine zR ?_ | refine zS ?_ | refine zA ?_ | refine zM ?_ | refine xr rfl ?_ | refine ai rfl ?_ | refine condT ?_ | refine condF ?_ | refine condG1 ?_ | refine condG0 ?_ | refine cD ?_ | refine dD ?_ | refine cB ?_ | refine dB ?_ | refine cN ?_ | refine dN ?_ | refine cV ?_ | refine dV ?_ | refine cE ?_ | refine dE ?_ | refine condX0 ?_ | refine condX1 ?_ | refine condNot ?_ | refine condAnd ?_ | refine condOr ?_ | refine aO ?_ | refine aB ?_ | refine aR ?_ | refine aR ?_ (by simp; omega) | refine xr (by assumption) ?_ | refine ai (by assumption) ?_ | refine callW (x6) ?_ | refine callW (y6) ?_ | refine condD (fun h => ?_) (fun h => ?_) | refine condB (fun h => ?_) (fun h => ?_) | refine condN (fun h => ?_) (fun h => ?_) | refine condE (fun h => ?_) (fun h => ?_) | refine condV (fun h => ?_) (fun h => ?_))
  refine ev_keep [97, 11, 9, 2, 8, 13, 7, 14, 1, 0] [71, 72, 73, 75] ?_
  rcases hw with ⟨hw1, hw2⟩ | ⟨hw1, hw2⟩
  · refine ev_loop' (W_ok 300 _ _ _ _ ?_)
    repeat' ((conv => whnf); first | refine bslP (by first | rfl | (simp [pureL, pureLL, AV.pure]; done) | fail) rfl ?_ | refine TakeC.full (by first | rfl | omega | (simp; done) | (simp; omega) | fail) ?_ | refine zBs ?_ | refine zBn ?_ | refine zBv rfl rfl ?_ | refine zN ?_ | refine zC ?_ | refine zC4 ?_ | refine zOr16 ?_ | refine zC1 ?_ | refine zByte ?_ | refine zMaxL ?_ | refine zMaxR ?_ | refine zMinL ?_ | refine zMinR ?_ | refine zShr ?_ | refine zC8 ?_ | refine zQ ?_ | refine zR ?_ | refine zS ?_ | refine zA ?_ | refine zM ?_ | refine xr rfl ?_ | refine ai rfl ?_ | refine condT ?_ | refine condF ?_ | refine condG1 ?_ | refine condG0 ?_ | refine cD ?_ | refine dD ?_ | refine cB ?_ | refine dB ?_ | refine cN ?_ | refine dN ?_ | refine cV ?_ | refine dV ?_ | refine cE ?_ | refine dE ?_ | refine condX0 ?_ | refine condX1 ?_ | refine condNot ?_ | refine condAnd ?_ | refine condOr ?_ | refine aO ?_ | refine aB ?_ | refine aR ?_ | refine aR ?_ (by simp; omega) | refine xr (by assumption) ?_ | refine ai (by assumption) ?_ | refine kV (awake129_gives) ?_ | refine condD (fun h => ?_) (fun h => ?_) | refine condB (fun h => ?_) (fun h => ?_) | refine condN (fun h => ?_) (fun h => ?_) | refine condE (fun h => ?_) (fun h => ?_) | refine condV (fun h => ?_) (fun h => ?_))
    (first | refine ev_fin (And.intro (by first | rfl | (simp [AV.pure, pureL]; done) | fail) ?_) | refine ev_fin0 (And.intro (by first | rfl | (simp [AV.pure, pureL]; done) | fail) ?_)); rfl
  · refine ev_loop' (W_ok 300 _ _ _ _ ?_)
    repeat' ((conv => whnf); first | refine bslP (by first | rfl | (simp [pureL, pureLL, AV.pure]; done) | fail) rfl ?_ | refine TakeC.full (by first | rfl | omega | (simp; done) | (simp; omega) | fail) ?_ | refine zBs ?_ | refine zBn ?_ | refine zBv rfl rfl ?_ | refine zN ?_ | refine zC ?_ | refine zC4 ?_ | refine zOr16 ?_ | refine zC1 ?_ | refine zByte ?_ | refine zMaxL ?_ | refine zMaxR ?_ | refine zMinL ?_ | refine zMinR ?_ | refine zShr ?_ | refine zC8 ?_ | refine zQ ?_ | refine zR ?_ | refine zS ?_ | refine zA ?_ | refine zM ?_ | refine xr rfl ?_ | refine ai rfl ?_ | refine condT ?_ | refine condF ?_ | refine condG1 ?_ | refine condG0 ?_ | refine cD ?_ | refine dD ?_ | refine cB ?_ | refine dB ?_ | refine cN ?_ | refine dN ?_ | refine cV ?_ | refine dV ?_ | refine cE ?_ | refine dE ?_ | refine condX0 ?_ | refine condX1 ?_ | refine condNot ?_ | refine condAnd ?_ | refine condOr ?_ | refine aO ?_ | refine aB ?_ | refine aR ?_ | refine aR ?_ (by simp; omega) | refine xr (by assumption) ?_ | refine ai (by assumption) ?_ | refine kV (awake129_gives) ?_ | refine condD (fun h => ?_) (fun h => ?_) | refine condB (fun h => ?_) (fun h => ?_) | refine condN (fun h => ?_) (fun h => ?_) | refine condE (fun h => ?_) (fun h => ?_) | refine condV (fun h => ?_) (fun h => ?_))
    (first | refine ev_fin (And.intro (by first | rfl | (simp [AV.pure, pureL]; done) | fail) ?_) | refine ev_fin0 (And.intro (by first | rfl | (simp [AV.pure, pureL]; done) | fail) ?_)); rfl
theorem law124_gives (hold other now : Int) : Gives G 124 [.int .i64 hold, .int .i64 other, .int .i64 now] [] ⟨.bool true, []⟩ := by
  refine gives_code (F := f124) rfl rfl ?_
  refine ev_seq (b := sfx 1 f124.body) ?_
  refine W_okd 1 300 _ _ _ _ ?_
  repeat' ((conv => whnf); first | refine bslP (by first | rfl | (simp [pureL, pureLL, AV.pure]; done) | fail) rfl ?_ | refine TakeC.full (by first | rfl | omega | (simp; done) | (simp; omega) | fail) ?_ | refine zBs ?_ | refine zBn ?_ | refine zBv rfl rfl ?_ | refine zN ?_ | refine zC ?_ | refine zC4 ?_ | refine zOr16 ?_ | refine zC1 ?_ | refine zByte ?_ | refine zMaxL ?_ | refine zMaxR ?_ | refine zMinL ?_ | refine zMinR ?_ | refine zShr ?_ | refine zC8 ?_ | refine zQ ?_ | refine zR ?_ | refine zS ?_ | refine zA ?_ | refine zM ?_ | refine xr rfl ?_ | refine ai rfl ?_ | refine condT ?_ | refine condF ?_ | refine condG1 ?_ | refine condG0 ?_ | refine cD ?_ | refine dD ?_ | refine cB ?_ | refine dB ?_ | refine cN ?_ | refine dN ?_ | refine cV ?_ | refine dV ?_ | refine cE ?_ | refine dE ?_ | refine condX0 ?_ | refine condX1 ?_ | refine condNot ?_ | refine condAnd ?_ | refine condOr ?_ | refine aO ?_ | refine aB ?_ | refine aR ?_ | refine aR ?_ (by simp; omega) | refine xr (by assumption) ?_ | refine ai (by assumption) ?_ | refine condD (fun h => ?_) (fun h => ?_) | refine condB (fun h => ?_) (fun h => ?_) | refine condN (fun h => ?_) (fun h => ?_) | refine condE (fun h => ?_) (fun h => ?_) | refine condV (fun h => ?_) (fun h => ?_))
  refine ev_seq (b := sfx 2 f124.body) ?_
  refine W_okd 1 300 _ _ _ _ ?_
  repeat' ((conv => whnf); first | refine bslP (by first | rfl | (simp [pureL, pureLL, AV.pure]; done) | fail) rfl ?_ | refine TakeC.full (by first | rfl | omega | (simp; done) | (simp; omega) | fail) ?_ | refine zBs ?_ | refine zBn ?_ | refine zBv rfl rfl ?_ | refine zN ?_ | refine zC ?_ | refine zC4 ?_ | refine zOr16 ?_ | refine zC1 ?_ | refine zByte ?_ | refine zMaxL ?_ | refine zMaxR ?_ | refine zMinL ?_ | refine zMinR ?_ | refine zShr ?_ | refine zC8 ?_ | refine zQ ?_ | refine zR ?_ | refine zS ?_ | refine zA ?_ | refine zM ?_ | refine xr rfl ?_ | refine ai rfl ?_ | refine condT ?_ | refine condF ?_ | refine condG1 ?_ | refine condG0 ?_ | refine cD ?_ | refine dD ?_ | refine cB ?_ | refine dB ?_ | refine cN ?_ | refine dN ?_ | refine cV ?_ | refine dV ?_ | refine cE ?_ | refine dE ?_ | refine condX0 ?_ | refine condX1 ?_ | refine condNot ?_ | refine condAnd ?_ | refine condOr ?_ | refine aO ?_ | refine aB ?_ | refine aR ?_ | refine aR ?_ (by simp; omega) | refine xr (by assumption) ?_ | refine ai (by assumption) ?_ | refine kV (awake129_gives) ?_ | refine condD (fun h => ?_) (fun h => ?_) | refine condB (fun h => ?_) (fun h => ?_) | refine condN (fun h => ?_) (fun h => ?_) | refine condE (fun h => ?_) (fun h => ?_) | refine condV (fun h => ?_) (fun h => ?_))
  all_goals first
    | (refine ev_keep [0, 1, 2] [] ?_; exact pairTail hold other now (if hold ≤ other then hold else other) (by omega) (by omega) (by omega) (by omega) (by omega) (by omega) (by split <;> omega) _ _ _)
    | ((first | refine ev_fin (And.intro (by first | rfl | (simp [AV.pure, pureL]; done) | fail) ?_) | refine ev_fin0 (And.intro (by first | rfl | (simp [AV.pure, pureL]; done) | fail) ?_)); rfl)
theorem law124_all (ass : List (List AV)) (h : ArgsT [.int .i64, .int .i64, .int .i64] ass) : Gives G 124 (argsA [.int .i64, .int .i64, .int .i64] ass) [] ⟨.bool true, []⟩ := by
  obtain ⟨x, s1, rfl, h1, h⟩ := argsT_cons h
  obtain ⟨y, s2, rfl, h2, h⟩ := argsT_cons h
  obtain ⟨z, s3, rfl, h3, h⟩ := argsT_cons h
  obtain rfl := argsT_nil h
  obtain ⟨hold, rfl, _⟩ := T_i64 h1
  obtain ⟨other, rfl, _⟩ := T_i64 h2
  obtain ⟨now, rfl, _⟩ := T_i64 h3
  exact law124_gives hold other now
end Go.AM.IR
